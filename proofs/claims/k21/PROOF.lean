import PyProof.Rows.All
import Wide.All
import OpenK.AllK
import Wide.FinOn
import HandS.ForMost
import HandS.Flow
import HandS.Wide
import HandS.IsInst
import HandS.TupAny
import HandS.Conv
import HandS.Walk
import HandS.EndBits
import HandS.More
import HandS.HeadHook3
import HandS.RaiseMore
import PyProof.Rows.ReprOcc
import PyProof.FitsInt
import PyProof.EnumMake
import KE.GoesMore
import HandS.SortOrd
import HandS.SortInts
import HandS.Style
import HandS.CallLocal
import HandS.Codes
import HandS.Strs
import PyProof.DictUpdate
import HandS.DictComp
import PyProof.AutoSeq1
import PyProof.ListStr
import PyProof.TupleOfStr
import HandS.DictEq
import HandS.Finally
import PyProof.P3In
import HandS.Iter
import KE.DataFind
import PySem.Challenge.RW_lateloom_k21_groups
set_option Elab.async false
set_option linter.all false
set_option maxRecDepth 100000
/-! The mirror layer: plain data D, slots Sl, and what it means that a reading does as a Lean function says. -/
namespace M
open PySem PySem.Spec PyProof.Rows L2

/-! ### data -/
inductive D where
  | non | bl (b : Bool) | int (i : Int) | str (s : Str) | lst (xs : List D) | tup (xs : List D) | dic (kvs : List (Key × D))
  | ty (n : String) | fn (x : Str) | ob (c : Str) (es : List (Key × D))

/-- signs of a text -/
def sOk (x : Str) : Prop := ∀ c ∈ x.cps.toList, c < 1114112
instance (x : Str) : Decidable (sOk x) := inferInstanceAs (Decidable (∀ c ∈ x.cps.toList, c < 1114112))
mutual
inductive Rp (K : PySem.W.Frag) (F : Hp) : V → D → Prop
  | non : Rp K F .non .non
  | bl (b : Bool) : Rp K F (.bl b) (.bl b)
  | int (i : Int) : Rp K F (.int i) (.int i)
  | str (x : Str) : sOk x → Rp K F (.str x) (.str x)
  | ty (n : String) : Rp K F (.ty n) (.ty n)
  | fn (x : Str) {a : Addr} : PySem.W.nsIn K mainGlobals x = some (some (.ref a)) → Rp K F (.ref a) (.fn x)
  | lst {a : Addr} {xs : List V} {ds : List D} : SqL K F a xs → Rps K F xs ds → Rp K F (.ref a) (.lst ds)
  | tup {a : Addr} {xs : List V} {ds : List D} : SqT K F a xs → Rps K F xs ds → Rp K F (.ref a) (.tup ds)
  | dic {a : Addr} {kvs : List (Key × V)} {es : List (Key × D)} : Rd F a (.dK kvs) → Rpk K F kvs es → Rp K F (.ref a) (.dic es)
  | ob {a C dx : Addr} {c : Str} {kvs : List (Str × V)} {es : List (Key × D)} : PySem.W.nsIn K mainGlobals c = some (some (.ref C)) → F a = some (.ins C dx kvs) → Rpk K F (kvs.map fun p => ((.inr p.1 : Key), p.2)) es → Rp K F (.ref a) (.ob c es)
inductive Rps (K : PySem.W.Frag) (F : Hp) : List V → List D → Prop
  | nil : Rps K F [] []
  | cons {v : V} {vs : List V} {d : D} {ds : List D} : Rp K F v d → Rps K F vs ds → Rps K F (v :: vs) (d :: ds)
inductive Rpk (K : PySem.W.Frag) (F : Hp) : List (Key × V) → List (Key × D) → Prop
  | nil : Rpk K F [] []
  | cons {k : Key} {v : V} {vs : List (Key × V)} {d : D} {ds : List (Key × D)} : Rp K F v d → Rpk K F vs ds → Rpk K F ((k, v) :: vs) ((k, d) :: ds)
end

theorem rd_mono {F F' : Hp} {a : Addr} {u : HO} (h : Same F F') (r : Rd F a u) : Rd F' a u := by
  rcases r with r | ⟨o, r⟩
  · exact .inl (h _ _ r)
  · exact .inr ⟨o, h _ _ r⟩
theorem sqt_mono {K : PySem.W.Frag} {F F' : Hp} {a : Addr} {xs : List V} (h : Same F F') (r : SqT K F a xs) : SqT K F' a xs := by
  rcases r with r | r
  · exact .inl (rd_mono h r)
  · exact .inr r
mutual
theorem Rp.mono {K : PySem.W.Frag} {F F' : Hp} (h : Same F F') : ∀ {v : V} {d : D}, Rp K F v d → Rp K F' v d
  | _, _, .non => .non
  | _, _, .bl b => .bl b
  | _, _, .int i => .int i
  | _, _, .str x h => .str x h
  | _, _, .ty n => .ty n
  | _, _, .fn x h => .fn x h
  | _, _, .lst s r => .lst (h.seq s) (Rps.mono h r)
  | _, _, .tup s r => .tup (sqt_mono h s) (Rps.mono h r)
  | _, _, .dic s r => .dic (rd_mono h s) (Rpk.mono h r)
  | _, _, .ob n s r => .ob n (h _ _ s) (Rpk.mono h r)
theorem Rps.mono {K : PySem.W.Frag} {F F' : Hp} (h : Same F F') : ∀ {v : List V} {d : List D}, Rps K F v d → Rps K F' v d
  | _, _, .nil => .nil
  | _, _, .cons a b => .cons (Rp.mono h a) (Rps.mono h b)
theorem Rpk.mono {K : PySem.W.Frag} {F F' : Hp} (h : Same F F') : ∀ {v : List (Key × V)} {d : List (Key × D)}, Rpk K F v d → Rpk K F' v d
  | _, _, .nil => .nil
  | _, _, .cons a b => .cons (Rp.mono h a) (Rpk.mono h b)
end
section
variable {K : PySem.W.Frag} {F : Hp}
theorem Rps.length : ∀ {xs : List V} {ds : List D}, Rps K F xs ds → xs.length = ds.length
  | _, _, .nil => rfl
  | _, _, .cons _ r => congrArg (· + 1) (Rps.length r)
theorem Rps.get : ∀ {xs : List V} {ds : List D} {i : Nat} {x : V}, Rps K F xs ds → xs[i]? = some x → ∃ d, ds[i]? = some d ∧ Rp K F x d
  | _, _, _, _, .nil, e => by simp at e
  | _, _, 0, _, .cons r _, e => by simp at e; subst e; exact ⟨_, rfl, r⟩
  | _, _, i + 1, x, .cons _ t, e => by
    obtain ⟨u, h1, h2⟩ := Rps.get (i := i) (x := x) t (by simpa using e)
    exact ⟨u, by simpa using h1, h2⟩
theorem Rps.getD : ∀ {xs : List V} {ds : List D} {i : Nat} {d : D}, Rps K F xs ds → ds[i]? = some d → ∃ x, xs[i]? = some x ∧ Rp K F x d
  | _, _, _, _, .nil, e => by simp at e
  | _, _, 0, _, .cons r _, e => by simp at e; subst e; exact ⟨_, rfl, r⟩
  | _, _, i + 1, x, .cons _ t, e => by
    obtain ⟨u, h1, h2⟩ := Rps.getD (i := i) (d := x) t (by simpa using e)
    exact ⟨u, by simpa using h1, h2⟩
theorem Rps.append : ∀ {xs ys : List V} {ds es : List D}, Rps K F xs ds → Rps K F ys es → Rps K F (xs ++ ys) (ds ++ es)
  | _, _, _, _, .nil, s => s
  | _, _, _, _, .cons r t, s => .cons r (Rps.append t s)
theorem Rps.drop : ∀ {xs : List V} {ds : List D} (n : Nat), Rps K F xs ds → Rps K F (xs.drop n) (ds.drop n)
  | _, _, 0, r => r
  | _, _, _ + 1, .nil => .nil
  | _, _, n + 1, .cons _ t => Rps.drop n t
theorem Rps.take : ∀ {xs : List V} {ds : List D} (n : Nat), Rps K F xs ds → Rps K F (xs.take n) (ds.take n)
  | _, _, 0, _ => .nil
  | _, _, _ + 1, .nil => .nil
  | _, _, n + 1, .cons r t => .cons r (Rps.take n t)
theorem Rps.set {x : V} {d : D} (r : Rp K F x d) : ∀ {xs : List V} {ds : List D} (i : Nat), Rps K F xs ds → Rps K F (xs.set i x) (ds.set i d)
  | _, _, _, .nil => .nil
  | _, _, 0, .cons _ t => .cons r t
  | _, _, i + 1, .cons q t => .cons q (Rps.set r i t)
theorem Rps.reverse : ∀ {xs : List V} {ds : List D}, Rps K F xs ds → Rps K F xs.reverse ds.reverse
  | _, _, .nil => .nil
  | _, _, .cons r t => by
    rw [List.reverse_cons, List.reverse_cons]
    exact Rps.append (Rps.reverse t) (.cons r .nil)
end

/-! ### slots -/
/-- a field of one's own object: data that stay, or a list or a dict of its own -/
inductive Fd where
  | im (d : D)
  | lst (ds : List D)
  | dic (kvs : List (Key × D))
def Fd.own : Fd → Bool
  | .im _ => false
  | _ => true
inductive Sl where
  /-- not known -/
  | un
  /-- data that stay -/
  | im (d : D)
  /-- a list, a dict of one's own, which may change -/
  | lst (ds : List D)
  | dic (kvs : List (Key × D))
  /-- an object of one's own -/
  | ob (c : Str) (fs : List (Str × Fd))
def Sl.own : Sl → Bool
  | .lst _ => true
  | .dic _ => true
  | _ => false
/-- what may change: own lists, dicts, objects -/
def Sl.hand : Sl → Bool
  | .lst _ => true
  | .dic _ => true
  | .ob _ _ => true
  | _ => false
theorem Sl.hand_own {s : Sl} (h : s.own = true) : s.hand = true := by cases s <;> first | rfl | cases h
abbrev Sls := List Sl

/-- a function's base: the frozen part and the heap at its entry, what it is not to touch, its leading parameters' values -/
structure Bs where
  F : Hp
  H : Hp
  G : Hp
  A : List (Option V)
  np : Nat
  k : Nat

/-- an own object's content -/
inductive Ow (K : PySem.W.Frag) (F H : Hp) (a : Addr) : Sl → Prop
  | lst {xs : List V} {ds : List D} : H a = some (.lst xs) → Rps K F xs ds → Ow K F H a (.lst ds)
  | dic {kvs : List (Key × V)} {es : List (Key × D)} : H a = some (.dK kvs) → Rpk K F kvs es → Ow K F H a (.dic es)
/-- a field's value -/
inductive FdR (K : PySem.W.Frag) (F H : Hp) : V → Fd → Prop
  | im {v : V} {d : D} : Rp K F v d → FdR K F H v (.im d)
  | lst {b : Addr} {xs : List V} {ds : List D} : H b = some (.lst xs) → Rps K F xs ds → FdR K F H (.ref b) (.lst ds)
  | dic {b : Addr} {kvs : List (Key × V)} {es : List (Key × D)} : H b = some (.dK kvs) → Rpk K F kvs es → FdR K F H (.ref b) (.dic es)
inductive FdsR (K : PySem.W.Frag) (F H : Hp) : List (Str × V) → List (Str × Fd) → Prop
  | nil : FdsR K F H [] []
  | cons {x : Str} {v : V} {d : Fd} {kvs : List (Str × V)} {fs : List (Str × Fd)} : FdR K F H v d → FdsR K F H kvs fs → FdsR K F H ((x, v) :: kvs) ((x, d) :: fs)
/-- the j-th field is an own thing at b -/
def Nest (kvs : List (Str × V)) (fs : List (Str × Fd)) (j : Nat) (b : Addr) : Prop := ∃ x y fd, kvs[j]? = some (x, V.ref b) ∧ fs[j]? = some (y, fd) ∧ fd.own = true
/-- an own object's content -/
def ObOk (K : PySem.W.Frag) (F H : Hp) (a : Addr) (c : Str) (fs : List (Str × Fd)) : Prop :=
  ∃ C dx kvs, PySem.W.nsIn K mainGlobals c = some (some (.ref C)) ∧ H a = some (.ins C dx kvs) ∧ FdsR K F H kvs fs ∧ ∀ j k b, Nest kvs fs j b → Nest kvs fs k b → j = k
/-- what an object slot has for itself: the object, its own lists and dicts -/
def Cell (H : Hp) (v : Option (Option V)) (s : Sl) (b : Addr) : Prop := ∃ c fs a, s = .ob c fs ∧ v = some (some (.ref a)) ∧ (b = a ∨ ∃ C dx kvs j, H a = some (.ins C dx kvs) ∧ Nest kvs fs j b)
structure Objs (K : PySem.W.Frag) (B : Bs) (F : Hp) (e : Sls) (σ : L2.St) (H : Hp) : Prop where
  ok : ∀ (i : Nat) (c : Str) (fs : List (Str × Fd)), e[i]? = some (Sl.ob c fs) → ∃ a : Addr, σ[i]? = some (some (V.ref a)) ∧ ObOk K F H a c fs
  fr : ∀ (i : Nat) (s : Sl) (b : Addr), e[i]? = some s → Cell H σ[i]? s b → F b = none ∧ B.G b = none
  ap : ∀ (i j : Nat) (s t : Sl) (b : Addr), i ≠ j → e[i]? = some s → e[j]? = some t → Cell H σ[i]? s b → ¬ Cell H σ[j]? t b
  tp : ∀ (i : Nat) (c : Str) (fs : List (Str × Fd)) (a : Addr), e[i]? = some (Sl.ob c fs) → σ[i]? = some (some (V.ref a)) → i < B.np - B.k ∨ B.H a = none
  aw : ∀ (i j : Nat) (s t : Sl) (b : Addr), e[i]? = some s → e[j]? = some t → Cell H σ[i]? s b → t.own = true → σ[j]? ≠ some (some (V.ref b))
def IsCell (H : Hp) (e : Sls) (σ : L2.St) (b : Addr) : Prop := ∃ (i : Nat) (s : Sl), e[i]? = some s ∧ Cell H σ[i]? s b
/-- what a slot's value is -/
inductive SlV (K : PySem.W.Frag) (B : Bs) (F H : Hp) (anc : Bool) : Option V → Sl → Prop
  | un {v : Option V} : SlV K B F H anc v .un
  | im {v : V} {d : D} : Rp K F v d → SlV K B F H anc (some v) (.im d)
  | ow {a : Addr} {s : Sl} : Ow K F H a s → F a = none → B.G a = none → (anc = false → B.H a = none) → SlV K B F H anc (some (.ref a)) s
  | ob {v : Option V} {c : Str} {fs : List (Str × Fd)} : SlV K B F H anc v (.ob c fs)

structure IV (K : PySem.W.Frag) (B : Bs) (F : Hp) (e : Sls) (σ : L2.St) (H : Hp) : Prop where
  sf : Same F H
  sg : Same B.G H
  g1 : Same B.F F
  g2 : ∀ b, F b = B.F b ∨ (B.F b = none ∧ B.H b = none ∧ B.G b = none)
  g3 : ∀ b, H b = none → B.H b = none
  len : e.length = σ.length
  sl : ∀ i s v, e[i]? = some s → σ[i]? = some v → SlV K B F H (decide (i < B.np - B.k)) v s
  ap : ∀ (i j : Nat) (s t : Sl), i ≠ j → e[i]? = some s → e[j]? = some t → s.own = true → t.own = true → σ[i]? ≠ σ[j]?
  an : ∀ i v, i < B.np → B.A[i]? = some v → σ[i]? = some v
  ob : Objs K B F e σ H

section
variable {K : PySem.W.Frag} {F F' H H' : Hp}
theorem Cell.ob {v : Option (Option V)} {s : Sl} {b : Addr} (h : Cell H v s b) : ∃ c fs, s = .ob c fs := by
  obtain ⟨c, fs, _, e, _⟩ := h
  exact ⟨c, fs, e⟩
theorem Cell.nown {v : Option (Option V)} {s : Sl} {b : Addr} (h : Cell H v s b) : s.own = false := by
  obtain ⟨c, fs, rfl⟩ := h.ob
  rfl
theorem FdsR.at {kvs : List (Str × V)} {fs : List (Str × Fd)} (h : FdsR K F H kvs fs) : ∀ {j : Nat} {b : Addr}, Nest kvs fs j b → H b ≠ none := by
  induction h with
  | nil => rintro j b ⟨x, y, fd, h1, _⟩; simp at h1
  | cons r t ih =>
    rintro j b ⟨x, y, fd, h1, h2, h3⟩
    cases j with
    | zero =>
      simp at h1 h2
      obtain ⟨rfl, rfl⟩ := h1
      obtain ⟨rfl, rfl⟩ := h2
      cases r with
      | im _ => cases h3
      | lst z _ => rw [z]; exact fun z => nomatch z
      | dic z _ => rw [z]; exact fun z => nomatch z
    | succ j => exact ih ⟨x, y, fd, by simpa using h1, by simpa using h2, h3⟩
theorem FdsR.go {kvs : List (Str × V)} {fs : List (Str × Fd)} (hF : Same F F') (h : FdsR K F H kvs fs) : (∀ j b, Nest kvs fs j b → H' b = H b) → FdsR K F' H' kvs fs := by
  induction h with
  | nil => exact fun _ => .nil
  | cons r t ih =>
    intro hb
    refine .cons ?_ (ih fun j b ⟨x, y, fd, h1, h2, h3⟩ => hb (j + 1) b ⟨x, y, fd, by simpa using h1, by simpa using h2, h3⟩)
    cases r with
    | im r => exact .im (r.mono hF)
    | lst z r => exact .lst (by rw [hb 0 _ ⟨_, _, _, rfl, rfl, rfl⟩]; exact z) (r.mono hF)
    | dic z r => exact .dic (by rw [hb 0 _ ⟨_, _, _, rfl, rfl, rfl⟩]; exact z) (r.mono hF)
theorem Cell.mono {v : Option (Option V)} {s : Sl} {b : Addr} (hh : ∀ a c fs, s = .ob c fs → v = some (some (.ref a)) → H' a = H a) (h : Cell H' v s b) : Cell H v s b := by
  obtain ⟨c, fs, a, e1, e2, h⟩ := h
  refine ⟨c, fs, a, e1, e2, ?_⟩
  rcases h with h | ⟨C, dx, kvs, j, h1, h2⟩
  · exact .inl h
  · exact .inr ⟨C, dx, kvs, j, by rw [← hh a c fs e1 e2]; exact h1, h2⟩
end
section
variable {K : PySem.W.Frag} {B : Bs} {F : Hp} {e : Sls} {σ : L2.St} {H : Hp}
theorem Objs.there (O : Objs K B F e σ H) {b : Addr} (h : IsCell H e σ b) : H b ≠ none := by
  obtain ⟨i, s, h1, c, fs, a, rfl, h3, h4⟩ := h
  obtain ⟨a', e1, C, dx, kvs, n, ha, r, _⟩ := O.ok i c fs h1
  rw [h3] at e1
  cases e1
  rcases h4 with rfl | ⟨C', dx', kvs', j, h5, h6⟩
  · rw [ha]; exact fun z => nomatch z
  · rw [ha] at h5; cases h5
    exact r.at h6
theorem Objs.top (O : Objs K B F e σ H) {i : Nat} {c : Str} {fs : List (Str × Fd)} {a : Addr} (h : e[i]? = some (.ob c fs)) (hv : σ[i]? = some (some (.ref a))) : IsCell H e σ a := ⟨i, _, h, c, fs, a, rfl, hv, .inl rfl⟩
theorem Objs.free (O : Objs K B F e σ H) {b : Addr} (h : IsCell H e σ b) : F b = none ∧ B.G b = none := by
  obtain ⟨i, s, h1, h2⟩ := h
  exact O.fr i s b h1 h2
/-- what keeps all objects -/
theorem Objs.go (O : Objs K B F e σ H) {B' : Bs} {F' : Hp} {e' : Sls} {σ' : L2.St} {H' : Hp} (hF : Same F F') (hc : ∀ b, IsCell H e σ b → H' b = H b ∧ F' b = none ∧ B'.G b = none)
    (he : ∀ (i : Nat) (c : Str) (fs : List (Str × Fd)), e'[i]? = some (.ob c fs) → e[i]? = some (.ob c fs) ∧ σ'[i]? = σ[i]?) (hw : ∀ (j : Nat) (t : Sl) (b : Addr), e'[j]? = some t → t.own = true → σ'[j]? = some (some (V.ref b)) → ¬ IsCell H e σ b)
    (ht : ∀ (i : Nat) (c : Str) (fs : List (Str × Fd)), e'[i]? = some (Sl.ob c fs) → ∀ a, (i < B.np - B.k ∨ B.H a = none) → (i < B'.np - B'.k ∨ B'.H a = none) := by exact fun _ _ _ _ _ h => h) : Objs K B' F' e' σ' H' := by
  have back : ∀ (i : Nat) (s : Sl) (b : Addr), e'[i]? = some s → Cell H' σ'[i]? s b → e[i]? = some s ∧ Cell H σ[i]? s b := fun i s b h1 h2 => by
    obtain ⟨c, fs, rfl⟩ := h2.ob
    obtain ⟨h3, h4⟩ := he i c fs h1
    rw [h4] at h2
    refine ⟨h3, h2.mono fun a c' fs' e1 e2 => ?_⟩
    exact (hc a (O.top h3 e2)).1
  refine ⟨fun i c fs h => ?_, fun i s b h1 h2 => ?_, fun i j s t b hij h1 h2 h3 h4 => ?_, fun i c fs a h1 h2 => ?_, fun i j s t b h1 h2 h3 h4 h5 => ?_⟩
  · obtain ⟨h3, h4⟩ := he i c fs h
    obtain ⟨a, e1, C, dx, kvs, n, ha, r, nd⟩ := O.ok i c fs h3
    refine ⟨a, by rw [h4]; exact e1, C, dx, kvs, n, ?_, r.go hF fun j b hb => ?_, nd⟩
    · rw [(hc a (O.top h3 e1)).1]; exact ha
    · exact (hc b ⟨i, _, h3, c, fs, a, rfl, e1, .inr ⟨C, dx, kvs, j, ha, hb⟩⟩).1
  · obtain ⟨h3, h4⟩ := back i s b h1 h2
    obtain ⟨_, x, y⟩ := hc b ⟨i, s, h3, h4⟩
    exact ⟨x, y⟩
  · obtain ⟨x1, x2⟩ := back i s b h1 h3
    obtain ⟨y1, y2⟩ := back j t b h2 h4
    exact O.ap i j s t b hij x1 y1 x2 y2
  · obtain ⟨h3, h4⟩ := he i c fs h1
    rw [h4] at h2
    exact ht i c fs h1 a (O.tp i c fs a h3 h2)
  · obtain ⟨x1, x2⟩ := back i s b h1 h3
    exact hw j t b h2 h4 h5 ⟨i, s, x1, x2⟩
/-- .. with the same slots -/
theorem Objs.stay (O : Objs K B F e σ H) {F' H' : Hp} (hF : Same F F') (hc : ∀ b, IsCell H e σ b → H' b = H b ∧ F' b = none) : Objs K B F' e σ H' :=
  O.go hF (fun b hb => ⟨(hc b hb).1, (hc b hb).2, (O.free hb).2⟩) (fun _ _ _ h => ⟨h, rfl⟩) fun j t b h1 h2 h3 ⟨i, s, h4, h5⟩ => O.aw i j s t b h4 h1 h5 h2 h3
/-- a slot that is no own thing -/
theorem Objs.seti (O : Objs K B F e σ H) (i : Nat) {s : Sl} (hs : ∀ c fs, s ≠ Sl.ob c fs) (ho : s.own = false) {F' H' : Hp} (hF : Same F F') (hc : ∀ b, IsCell H e σ b → H' b = H b ∧ F' b = none) : Objs K B F' (e.set i s) σ H' := by
  refine O.go hF (fun b hb => ⟨(hc b hb).1, (hc b hb).2, (O.free hb).2⟩) (fun j c fs h => ?_) fun j t b h1 h2 h3 => ?_
  · by_cases z : i = j
    · subst z
      rw [List.getElem?_set] at h
      simp only [if_true] at h
      split at h
      · cases h; exact absurd rfl (hs _ _)
      · cases h
    · rw [List.getElem?_set_ne z] at h
      exact ⟨h, rfl⟩
  · by_cases z : i = j
    · subst z
      rw [List.getElem?_set] at h1
      simp only [if_true] at h1
      split at h1
      · cases h1; rw [ho] at h2; cases h2
      · cases h1
    · rw [List.getElem?_set_ne z] at h1
      exact fun ⟨k, s, h4, h5⟩ => O.aw k j s t b h4 h1 h5 h2 h3
/-- no objects -/
theorem Objs.nil (h : ∀ (i : Nat) (s : Sl), e[i]? = some s → ∀ c fs, s ≠ Sl.ob c fs) : Objs K B F e σ H :=
  ⟨fun i c fs h1 => absurd rfl (h i _ h1 c fs), fun i s b h1 h2 => by obtain ⟨c, fs, rfl⟩ := h2.ob; exact absurd rfl (h i _ h1 c fs),
    fun i j s t b _ h1 _ h2 => by obtain ⟨c, fs, rfl⟩ := h2.ob; exact absurd rfl (h i _ h1 c fs), fun i c fs a h1 _ => absurd rfl (h i _ h1 c fs), fun i j s t b h1 _ h2 => by obtain ⟨c, fs, rfl⟩ := h2.ob; exact absurd rfl (h i _ h1 c fs)⟩
end
theorem Ow.own {K : PySem.W.Frag} {F H : Hp} {a : Addr} {s : Sl} (h : Ow K F H a s) : s.own = true := by cases h <;> rfl
theorem Ow.some {K : PySem.W.Frag} {F H : Hp} {a : Addr} {s : Sl} (h : Ow K F H a s) : H a ≠ none := by
  cases h with
  | lst h _ => rw [h]; exact fun z => nomatch z
  | dic h _ => rw [h]; exact fun z => nomatch z
theorem Ow.mono {K : PySem.W.Frag} {F F' H H' : Hp} {a : Addr} {s : Sl} (h : Ow K F H a s) (hf : Same F F') (hh : H' a = H a) : Ow K F' H' a s := by
  cases h with
  | lst h r => exact .lst (hh.trans h) (r.mono hf)
  | dic h r => exact .dic (hh.trans h) (r.mono hf)

/-- an own slot's address -/
theorem SlV.of_own {K : PySem.W.Frag} {B : Bs} {F H : Hp} {anc : Bool} {v : Option V} {s : Sl} (h : SlV K B F H anc v s) (o : s.own = true) :
    ∃ a, v = some (.ref a) ∧ Ow K F H a s ∧ F a = none ∧ B.G a = none ∧ (anc = false → B.H a = none) := by
  cases h with
  | un => cases o
  | im _ => cases o
  | ow h1 h2 h3 h4 => exact ⟨_, rfl, h1, h2, h3, h4⟩
  | ob => cases o
theorem SlV.of_im {K : PySem.W.Frag} {B : Bs} {F H : Hp} {anc : Bool} {v : Option V} {d : D} (h : SlV K B F H anc v (.im d)) : ∃ x, v = some x ∧ Rp K F x d := by
  cases h with
  | im r => exact ⟨_, rfl, r⟩
  | ow h1 _ _ _ => cases h1

section
variable {K : PySem.W.Frag} {B : Bs} {F : Hp} {e : Sls} {σ : L2.St} {H : Hp}
theorem IV.slot (I : IV K B F e σ H) {i : Nat} {s : Sl} (h : e[i]? = some s) : ∃ v, σ[i]? = some v ∧ SlV K B F H (decide (i < B.np - B.k)) v s := by
  have hi : i < e.length := by
    rcases Nat.lt_or_ge i e.length with q | q
    · exact q
    · rw [List.getElem?_eq_none q] at h; cases h
  have hs : i < σ.length := by rw [← I.len]; exact hi
  exact ⟨σ[i], List.getElem?_eq_getElem hs, I.sl i s _ h (List.getElem?_eq_getElem hs)⟩
theorem IV.free (I : IV K B F e σ H) {p : Addr} (h : H p = none) : F p = none ∧ B.G p = none ∧ B.F p = none ∧ B.H p = none :=
  ⟨I.sf.free h, I.sg.free h, (I.g1.trans I.sf).free h, I.g3 p h⟩
/-- a new frozen object -/
theorem same_upd {H : Hp} {p : Addr} {o : HO} (h : H p = none) : Same H (upd H p o) := fun b u q => by
  rw [upd_ne (ne_of_none q h)]; exact q
theorem same_both {F H : Hp} {p : Addr} {o : HO} (h : Same F H) : Same (upd F p o) (upd H p o) := fun b u q => by
  by_cases z : b = p
  · subst z; rw [upd_same] at q ⊢; exact q
  · rw [upd_ne z] at q ⊢; exact h b u q
theorem IV.laid (I : IV K B F e σ H) {p : Addr} {o : HO} (h : H p = none) : IV K B (upd F p o) e σ (upd H p o) := by
  obtain ⟨f1, f2, f3, f4⟩ := I.free h
  refine ⟨same_both I.sf, fun b u q => ?_, I.g1.trans (same_upd f1), fun b => ?_, fun b q => ?_, I.len, fun i s v h1 h2 => ?_, I.ap, I.an, I.ob.stay (same_upd f1) fun b hb => ?_⟩
  · rw [upd_ne (ne_of_none q f2)]; exact I.sg b u q
  · by_cases z : b = p
    · subst z; exact .inr ⟨f3, f4, f2⟩
    · rw [upd_ne z]; exact I.g2 b
  · by_cases z : b = p
    · subst z; exact f4
    · rw [upd_ne z] at q; exact I.g3 b q
  · have r := I.sl i s v h1 h2
    cases r with
    | un => exact .un
    | im r => exact .im (r.mono (same_upd f1))
    | ow r g1 g2 g3 =>
      have na : ∀ a : Addr, H a ≠ none → a ≠ p := fun a q z => by subst z; exact q h
      exact .ow (r.mono (same_upd f1) (upd_ne (na _ r.some))) (by rw [upd_ne (na _ r.some)]; exact g1) g2 g3
    | ob => exact .ob
  · have nb : b ≠ p := fun z => I.ob.there hb (by rw [z]; exact h)
    exact ⟨upd_ne nb, by rw [upd_ne nb]; exact (I.ob.free hb).1⟩
/-- a slot is stored: data that stay -/
theorem IV.set (I : IV K B F e σ H) {i : Nat} {v : V} {d : D} (hi : B.np ≤ i) (r : Rp K F v d) : IV K B F (e.set i (.im d)) (σ.set i (some v)) H := by
  refine ⟨I.sf, I.sg, I.g1, I.g2, I.g3, by rw [List.length_set, List.length_set]; exact I.len, fun j s w h1 h2 => ?_, fun j k s t hjk h1 h2 o1 o2 => ?_, fun j w hj hw => ?_,
    I.ob.go (Same.refl F) (fun b hb => ⟨rfl, I.ob.free hb⟩) (fun j c fs h => ?_) fun j t b h1 h2 h3 => ?_⟩
  · by_cases z : i = j
    · subst z
      have hl : i < e.length := by
        rcases Nat.lt_or_ge i e.length with q | q
        · exact q
        · rw [List.getElem?_eq_none (by rw [List.length_set]; exact q)] at h1; cases h1
      rw [List.getElem?_set_self hl] at h1
      rw [List.getElem?_set_self (by rw [← I.len]; exact hl)] at h2
      cases h1; cases h2
      exact .im r
    · rw [List.getElem?_set_ne z] at h1 h2
      exact I.sl j s w h1 h2
  · have h0 : ∀ {m : Nat} {u : Sl}, (e.set i (.im d))[m]? = some u → u.own = true → i ≠ m ∧ e[m]? = some u := fun {m u} q o => by
      by_cases z : i = m
      · subst z
        have hl : i < e.length := by
          rcases Nat.lt_or_ge i e.length with q' | q'
          · exact q'
          · rw [List.getElem?_eq_none (by rw [List.length_set]; exact q')] at q; cases q
        rw [List.getElem?_set_self hl] at q
        cases q; cases o
      · rw [List.getElem?_set_ne z] at q
        exact ⟨z, q⟩
    obtain ⟨n1, q1⟩ := h0 h1 o1
    obtain ⟨n2, q2⟩ := h0 h2 o2
    rw [List.getElem?_set_ne n1, List.getElem?_set_ne n2]
    exact I.ap j k s t hjk q1 q2 o1 o2
  · rw [List.getElem?_set_ne (by omega)]
    exact I.an j w hj hw
  · by_cases z : i = j
    · subst z
      rw [List.getElem?_set] at h
      simp only [if_true] at h
      split at h
      · cases h
      · cases h
    · rw [List.getElem?_set_ne z] at h ⊢
      exact ⟨h, rfl⟩
  · by_cases z : i = j
    · subst z
      rw [List.getElem?_set] at h1
      simp only [if_true] at h1
      split at h1
      · cases h1; cases h2
      · cases h1
    · rw [List.getElem?_set_ne z] at h1 h3
      exact fun ⟨k, s, h4, h5⟩ => I.ob.aw k j s t b h4 h1 h5 h2 h3
/-- a slot is stored: an own object -/
theorem IV.setOw (I : IV K B F e σ H) {i : Nat} {a : Addr} {s0 : Sl} (hi : B.np ≤ i) (r : Ow K F H a s0) (f1 : F a = none) (f2 : B.G a = none) (f3 : B.H a = none)
    (hd : ∀ j s, j ≠ i → e[j]? = some s → s.own = true → σ[j]? ≠ some (some (.ref a))) (hc : ¬ IsCell H e σ a) : IV K B F (e.set i s0) (σ.set i (some (.ref a))) H := by
  have ll : ∀ {j : Nat} {u : Sl}, (e.set i s0)[j]? = some u → j < e.length := fun {j u} q => by
    rcases Nat.lt_or_ge j e.length with q' | q'
    · exact q'
    · rw [List.getElem?_eq_none (by rw [List.length_set]; exact q')] at q; cases q
  refine ⟨I.sf, I.sg, I.g1, I.g2, I.g3, by rw [List.length_set, List.length_set]; exact I.len, fun j s w h1 h2 => ?_, fun j k s t hjk h1 h2 o1 o2 => ?_, fun j w hj hw => ?_,
    I.ob.go (Same.refl F) (fun b hb => ⟨rfl, I.ob.free hb⟩) (fun j c fs h => ?_) fun j t b h1 h2 h3 => ?_⟩
  · have hl := ll h1
    by_cases z : i = j
    · subst z
      rw [List.getElem?_set_self hl] at h1
      rw [List.getElem?_set_self (by rw [← I.len]; exact hl)] at h2
      cases h1; cases h2
      exact .ow r f1 f2 fun _ => f3
    · rw [List.getElem?_set_ne z] at h1 h2
      exact I.sl j s w h1 h2
  · have hl1 := ll h1
    have hl2 := ll h2
    by_cases z1 : i = j
    · subst z1
      rw [List.getElem?_set_ne hjk] at h2
      rw [List.getElem?_set_self (by rw [← I.len]; exact hl1), List.getElem?_set_ne hjk]
      exact fun q => hd k t (fun z => hjk z.symm) h2 o2 q.symm
    · by_cases z2 : i = k
      · subst z2
        rw [List.getElem?_set_ne z1] at h1
        rw [List.getElem?_set_self (by rw [← I.len]; exact hl2), List.getElem?_set_ne z1]
        exact fun q => hd j s hjk h1 o1 q
      · rw [List.getElem?_set_ne z1] at h1
        rw [List.getElem?_set_ne z2] at h2
        rw [List.getElem?_set_ne z1, List.getElem?_set_ne z2]
        exact I.ap j k s t hjk h1 h2 o1 o2
  · rw [List.getElem?_set_ne (by omega)]
    exact I.an j w hj hw
  · by_cases z : i = j
    · subst z
      rw [List.getElem?_set_self (ll h)] at h
      cases h
      cases r
    · rw [List.getElem?_set_ne z] at h ⊢
      exact ⟨h, rfl⟩
  · by_cases z : i = j
    · subst z
      rw [List.getElem?_set_self (by rw [← I.len]; exact ll h1)] at h3
      cases h3
      exact hc
    · rw [List.getElem?_set_ne z] at h1 h3
      exact fun ⟨k, s, h4, h5⟩ => I.ob.aw k j s t b h4 h1 h5 h2 h3
/-- an own object changes -/
theorem IV.turn (I : IV K B F e σ H) {i : Nat} {a : Addr} {s s' : Sl} {o : HO} (h : e[i]? = some s) (ho : s.own = true) (hv : σ[i]? = some (some (.ref a))) (r : Ow K F (upd H a o) a s') :
    IV K B F (e.set i s') σ (upd H a o) := by
  obtain ⟨a', e1, r0, f1, f2, f3⟩ := (I.sl i s _ h hv).of_own ho
  cases e1
  have hl : i < e.length := by
    rcases Nat.lt_or_ge i e.length with q | q
    · exact q
    · rw [List.getElem?_eq_none q] at h; cases h
  refine ⟨fun b u q => ?_, fun b u q => ?_, I.g1, I.g2, fun b q => ?_, by rw [List.length_set]; exact I.len, fun j t w h1 h2 => ?_, fun j k t u hjk h1 h2 o1 o2 => ?_, I.an,
    I.ob.go (Same.refl F) (fun b hb => ⟨upd_ne fun z => ?_, I.ob.free hb⟩) (fun j c fs h1 => ?_) fun j t b h1 h2 h3 hb => ?_⟩
  · rw [upd_ne (ne_of_none q f1)]; exact I.sf b u q
  · rw [upd_ne (ne_of_none q f2)]; exact I.sg b u q
  · by_cases z : b = a
    · subst z; rw [upd_same] at q; cases q
    · rw [upd_ne z] at q; exact I.g3 b q
  · by_cases z : i = j
    · subst z
      rw [List.getElem?_set_self hl] at h1
      rw [hv] at h2
      cases h1; cases h2
      exact .ow r f1 f2 f3
    · rw [List.getElem?_set_ne z] at h1
      have q := I.sl j t w h1 h2
      cases q with
      | un => exact .un
      | im q => exact .im q
      | ow q g1 g2 g3 =>
        rename_i b
        have nb : b ≠ a := fun y => by
          subst y
          exact I.ap i j s t z h h1 ho q.own (by rw [hv, h2])
        exact .ow (q.mono (Same.refl F) (upd_ne nb)) g1 g2 g3
      | ob => exact .ob
  · have back : ∀ {m : Nat} {w : Sl}, (e.set i s')[m]? = some w → w.own = true → ∃ w', e[m]? = some w' ∧ w'.own = true := fun {m w} q o => by
      by_cases z : i = m
      · subst z; exact ⟨s, h, ho⟩
      · rw [List.getElem?_set_ne z] at q; exact ⟨w, q, o⟩
    obtain ⟨t', q1, p1⟩ := back h1 o1
    obtain ⟨u', q2, p2⟩ := back h2 o2
    exact I.ap j k t' u' hjk q1 q2 p1 p2
  · subst z
    obtain ⟨k, s2, h4, h5⟩ := hb
    exact I.ob.aw k i s2 s b h4 h h5 ho hv
  · by_cases z : i = j
    · subst z
      rw [List.getElem?_set_self hl] at h1
      cases h1
      cases r
    · rw [List.getElem?_set_ne z] at h1
      exact ⟨h1, rfl⟩
  · obtain ⟨k, s2, h4, h5⟩ := hb
    by_cases z : i = j
    · subst z
      exact I.ob.aw k i s2 s b h4 h h5 ho h3
    · rw [List.getElem?_set_ne z] at h1
      exact I.ob.aw k j s2 t b h4 h1 h5 h2 h3
/-- a slot is forgotten -/
theorem IV.forget (I : IV K B F e σ H) (i : Nat) : IV K B F (e.set i .un) σ H := by
  refine ⟨I.sf, I.sg, I.g1, I.g2, I.g3, by rw [List.length_set]; exact I.len, fun j s w h1 h2 => ?_, fun j k s t hjk h1 h2 o1 o2 => ?_, I.an,
    I.ob.go (Same.refl F) (fun b hb => ⟨rfl, I.ob.free hb⟩) (fun j c fs h => ?_) fun j t b h1 h2 h3 => ?_⟩
  · by_cases z : i = j
    · subst z
      rw [List.getElem?_set] at h1
      simp only [if_true] at h1
      split at h1
      · cases h1; exact .un
      · cases h1
    · rw [List.getElem?_set_ne z] at h1
      exact I.sl j s w h1 h2
  · have h0 : ∀ {m : Nat} {u : Sl}, (e.set i .un)[m]? = some u → u.own = true → e[m]? = some u := fun {m u} q o => by
      by_cases z : i = m
      · subst z
        rw [List.getElem?_set] at q
        simp only [if_true] at q
        split at q
        · cases q; cases o
        · cases q
      · rw [List.getElem?_set_ne z] at q
        exact q
    exact I.ap j k s t hjk (h0 h1 o1) (h0 h2 o2) o1 o2
  · by_cases z : i = j
    · subst z
      rw [List.getElem?_set] at h
      simp only [if_true] at h
      split at h
      · cases h
      · cases h
    · rw [List.getElem?_set_ne z] at h
      exact ⟨h, rfl⟩
  · by_cases z : i = j
    · subst z
      rw [List.getElem?_set] at h1
      simp only [if_true] at h1
      split at h1
      · cases h1; cases h2
      · cases h1
    · rw [List.getElem?_set_ne z] at h1
      exact fun ⟨k, s, h4, h5⟩ => I.ob.aw k j s t b h4 h1 h5 h2 h3
end
end M

namespace M
open PySem PySem.Spec PyProof.Rows L2

/-! ### peeking: what an own object holds now -/
inductive RpO (K : PySem.W.Frag) (F H : Hp) : V → D → Prop
  | rp {v : V} {d : D} : Rp K F v d → RpO K F H v d
  | lst {a : Addr} {xs : List V} {ds : List D} : H a = some (.lst xs) → Rps K F xs ds → RpO K F H (.ref a) (.lst ds)
  | dic {a : Addr} {kvs : List (Key × V)} {es : List (Key × D)} : H a = some (.dK kvs) → Rpk K F kvs es → RpO K F H (.ref a) (.dic es)
inductive RpOs (K : PySem.W.Frag) (F H : Hp) : List V → List D → Prop
  | nil : RpOs K F H [] []
  | cons {v : V} {vs : List V} {d : D} {ds : List D} : RpO K F H v d → RpOs K F H vs ds → RpOs K F H (v :: vs) (d :: ds)
def Sl.see : Sl → Option D
  | .un => none
  | .im d => some d
  | .lst ds => some (.lst ds)
  | .dic es => some (.dic es)
  | .ob _ _ => none
def peek (i : Nat) (e : Sls) : Option D := e[i]?.bind Sl.see

abbrev FE := Sls → Option (Sls × D)
abbrev FK := Sls → Option (Sls × (Sls → Option D))
abbrev FKs := Sls → Option (Sls × (Sls → Option (List D)))
abbrev FEs := Sls → Option (Sls × List D)
abbrev FT := Sls → Option (Sls × Bool)

/-! ### what a reading does, by a function -/
def DE (K : PySem.W.Frag) (np : Nat) (t : TE) (f : FE) : Prop :=
  ∀ (B : Bs) (F : Hp) (e : Sls) (σ : L2.St) (H : Hp) (Q : VK), B.np = np → IV K B F e σ H → ∀ (e' : Sls) (d : D), f e = some (e', d) →
    (∀ (F' : Hp) (v : V) (H' : Hp), Same F F' → IV K B F' e' σ H' → Rp K F' v d → Q v H') → t σ H Q
def DK (K : PySem.W.Frag) (np : Nat) (t : TE) (f : FK) : Prop :=
  ∀ (B : Bs) (F : Hp) (e : Sls) (σ : L2.St) (H : Hp) (Q : VK), B.np = np → IV K B F e σ H → ∀ (e' : Sls) (r : Sls → Option D), f e = some (e', r) →
    (∀ (F' : Hp) (v : V) (H' : Hp), Same F F' → IV K B F' e' σ H' →
      (∀ (F2 : Hp) (e2 : Sls) (H2 : Hp) (d : D), Same F' F2 → IV K B F2 e2 σ H2 → r e2 = some d → RpO K F2 H2 v d) → Q v H') → t σ H Q
def DT (K : PySem.W.Frag) (np : Nat) (t : TT) (f : FT) : Prop :=
  ∀ (B : Bs) (F : Hp) (e : Sls) (σ : L2.St) (H : Hp) (Q : Bool → Hp → Prop), B.np = np → IV K B F e σ H → ∀ (e' : Sls) (b : Bool), f e = some (e', b) →
    (∀ (F' : Hp) (H' : Hp), Same F F' → IV K B F' e' σ H' → Q b H') → t σ H Q
def DEs (K : PySem.W.Frag) (np : Nat) (n : Nat) (t : TA) (f : FEs) : Prop :=
  ∀ (B : Bs) (F : Hp) (e : Sls) (σ : L2.St) (H : Hp) (Q : List V → Hp → Prop), B.np = np → IV K B F e σ H → ∀ (e' : Sls) (ds : List D), f e = some (e', ds) →
    (∀ (F' : Hp) (vs : List V) (H' : Hp), Same F F' → IV K B F' e' σ H' → Rps K F' vs ds → vs.length = n → Q vs H') → t σ H Q
def DKs (K : PySem.W.Frag) (np : Nat) (t : TA) (f : FKs) : Prop :=
  ∀ (B : Bs) (F : Hp) (e : Sls) (σ : L2.St) (H : Hp) (Q : List V → Hp → Prop), B.np = np → IV K B F e σ H → ∀ (e' : Sls) (r : Sls → Option (List D)), f e = some (e', r) →
    (∀ (F' : Hp) (vs : List V) (H' : Hp), Same F F' → IV K B F' e' σ H' →
      (∀ (F2 : Hp) (e2 : Sls) (H2 : Hp) (ds : List D), Same F' F2 → IV K B F2 e2 σ H2 → r e2 = some ds → RpOs K F2 H2 vs ds) → Q vs H') → t σ H Q

structure JE (X : Cx) (np : Nat) (e : Expr) (t : TE) (f : FE) : Prop where
  pe : PE X e t
  de : DE X.K np t f
structure JK (X : Cx) (np : Nat) (e : Expr) (t : TE) (f : FK) : Prop where
  pe : PE X e t
  de : DK X.K np t f
structure JT (X : Cx) (np : Nat) (e : Expr) (t : TT) (f : FT) : Prop where
  pt : PT X e t
  de : DT X.K np t f
structure JW (X : Cx) (np : Nat) (e : Expr) (t : TT) (f : FT) : Prop where
  pw : PW X e t
  de : DT X.K np t f
structure JEs (X : Cx) (np : Nat) (es : List Expr) (n : Nat) (t : TA) (f : FEs) : Prop where
  pa : PA X es t
  de : DEs X.K np n t f
structure JKs (X : Cx) (np : Nat) (es : List Expr) (t : TA) (f : FKs) : Prop where
  pa : PA X es t
  de : DKs X.K np t f

/-! ### the functions -/
def kE (f : FE) : FK := fun e => (f e).bind fun p => some (p.1, fun _ => some p.2)
def kVar (i : Nat) : FK := fun e => (peek i e).bind fun _ => some (e, peek i)
def fC (d : D) : FE := fun e => some (e, d)
/-- a name's value, kept from now on -/
def fV (np i : Nat) : FE := fun e => match e[i]? with
  | some (.im d) => some (e, d)
  | some (.lst ds) => if np ≤ i then some (e.set i (.im (.lst ds)), .lst ds) else none
  | some (.dic es) => if np ≤ i then some (e.set i (.im (.dic es)), .dic es) else none
  | _ => none
def fOp (g : D → D → Option D) (ka kb : FK) : FE := fun e => (ka e).bind fun p => (kb p.1).bind fun q => (p.2 q.1).bind fun x => (q.2 q.1).bind fun y => (g x y).bind fun d => some (q.1, d)
def fUn (g : D → Option D) (ka : FK) : FE := fun e => (ka e).bind fun p => (p.2 p.1).bind fun x => (g x).bind fun d => some (p.1, d)
def fTest (f : FE) : FT := fun e => (f e).bind fun p => match p.2 with | .bl b => some (p.1, b) | _ => none
def fTru (g : D → Option Bool) (ka : FK) : FT := fun e => (ka e).bind fun p => (p.2 p.1).bind fun x => (g x).bind fun b => some (p.1, b)
def fAnd (f g : FT) : FT := fun e => (f e).bind fun p => if p.2 = true then g p.1 else some (p.1, false)
def fOr (f g : FT) : FT := fun e => (f e).bind fun p => if p.2 = true then some (p.1, true) else g p.1
def fNot (f : FT) : FT := fun e => (f e).bind fun p => some (p.1, !p.2)
def fAndV (f g : FE) : FE := fun e => (f e).bind fun p => match p.2 with | .bl b => if b = true then g p.1 else some (p.1, .bl false) | _ => none
def fOrV (f g : FE) : FE := fun e => (f e).bind fun p => match p.2 with | .bl b => if b = true then some (p.1, .bl true) else g p.1 | _ => none
def fNotV (f : FE) : FE := fun e => (f e).bind fun p => match p.2 with | .bl b => some (p.1, .bl (!b)) | _ => none
def fIfE (c : FT) (f g : FE) : FE := fun e => (c e).bind fun p => if p.2 = true then f p.1 else g p.1
def fNil : FEs := fun e => some (e, [])
def fCons (f : FE) (g : FEs) : FEs := fun e => (f e).bind fun p => (g p.1).bind fun q => some (q.1, p.2 :: q.2)
def kNil : FKs := fun e => some (e, fun _ => some [])
def kCons (f : FK) (g : FKs) : FKs := fun e => (f e).bind fun p => (g p.1).bind fun q => some (q.1, fun e2 => (p.2 e2).bind fun d => (q.2 e2).bind fun ds => some (d :: ds))
def fTup (f : FEs) : FE := fun e => (f e).bind fun p => some (p.1, .tup p.2)
def fLst (f : FEs) : FE := fun e => (f e).bind fun p => some (p.1, .lst p.2)
def fCB (g : List D → Option D) (k : FKs) : FE := fun e => (k e).bind fun p => (p.2 p.1).bind fun ds => (g ds).bind fun d => some (p.1, d)

theorem bnd {α β : Type} {o : Option α} {k : α → Option β} {r : β} (h : o.bind k = some r) : ∃ a, o = some a ∧ k a = some r := by
  cases o with
  | none => cases h
  | some a => exact ⟨a, rfl, h⟩

/-! ### the values' rules -/
def OpM (K : PySem.W.Frag) (r : R2) (g : D → D → Option D) : Prop :=
  ∀ (B : Bs) (F : Hp) (e : Sls) (σ : L2.St) (H : Hp) (x y : V) (dx dy d : D) (Q : VK), IV K B F e σ H → RpO K F H x dx → RpO K F H y dy → g dx dy = some d →
    (∀ (F' : Hp) (v : V) (H' : Hp), Same F F' → IV K B F' e σ H' → Rp K F' v d → Q v H') → r x y H Q
def UnM (K : PySem.W.Frag) (r : V → Hp → VK → Prop) (g : D → Option D) : Prop :=
  ∀ (B : Bs) (F : Hp) (e : Sls) (σ : L2.St) (H : Hp) (x : V) (dx d : D) (Q : VK), IV K B F e σ H → RpO K F H x dx → g dx = some d →
    (∀ (F' : Hp) (v : V) (H' : Hp), Same F F' → IV K B F' e σ H' → Rp K F' v d → Q v H') → r x H Q
def CallM (K : PySem.W.Frag) (r : List V → Hp → VK → Prop) (g : List D → Option D) : Prop :=
  ∀ (B : Bs) (F : Hp) (e : Sls) (σ : L2.St) (H : Hp) (xs : List V) (ds : List D) (d : D) (Q : VK), IV K B F e σ H → RpOs K F H xs ds → g ds = some d →
    (∀ (F' : Hp) (v : V) (H' : Hp), Same F F' → IV K B F' e σ H' → Rp K F' v d → Q v H') → r xs H Q

section
variable {X : Cx} {np : Nat}

theorem IV.seen {K : PySem.W.Frag} {B : Bs} {F : Hp} {e : Sls} {σ : L2.St} {H : Hp} (I : IV K B F e σ H) {i : Nat} {v : V} {d : D} (hv : σ[i]? = some (some v)) (h : peek i e = some d) : RpO K F H v d := by
  obtain ⟨s, h1, h2⟩ := bnd h
  have q := I.sl i s _ h1 hv
  cases s with
  | un => cases h2
  | im d' =>
    cases h2
    obtain ⟨x, e1, r⟩ := q.of_im
    cases e1
    exact .rp r
  | lst ds =>
    cases h2
    obtain ⟨a, e1, r, _⟩ := q.of_own rfl
    cases e1
    cases r with
    | lst r1 r2 => exact .lst r1 r2
  | dic es =>
    cases h2
    obtain ⟨a, e1, r, _⟩ := q.of_own rfl
    cases e1
    cases r with
    | dic r1 r2 => exact .dic r1 r2
  | ob c fs => cases h2
theorem IV.val {K : PySem.W.Frag} {B : Bs} {F : Hp} {e : Sls} {σ : L2.St} {H : Hp} (I : IV K B F e σ H) {i : Nat} {d : D} (h : peek i e = some d) : ∃ v, σ[i]? = some (some v) := by
  obtain ⟨s, h1, h2⟩ := bnd h
  obtain ⟨v, hv, q⟩ := I.slot h1
  cases q with
  | un => cases h2
  | im r => exact ⟨_, hv⟩
  | ow _ _ _ _ => exact ⟨_, hv⟩
  | ob => cases h2
theorem IV.freeze {K : PySem.W.Frag} {B : Bs} {F : Hp} {e : Sls} {σ : L2.St} {H : Hp} (I : IV K B F e σ H) {i : Nat} {s : Sl} {d : D} (h : e[i]? = some s) (ho : s.own = true) (hs : s.see = some d) (hi : B.np ≤ i) :
    ∃ (F' : Hp) (v : V), σ[i]? = some (some v) ∧ Same F F' ∧ IV K B F' (e.set i (.im d)) σ H ∧ Rp K F' v d := by
  obtain ⟨v, hv, q⟩ := I.slot h
  obtain ⟨a, e1, r, f1, f2, f3⟩ := q.of_own ho
  subst e1
  have f3' := f3 (by simp; omega)
  obtain ⟨o, ha⟩ : ∃ o, H a = some o := by
    cases z : H a with
    | none => exact absurd z r.some
    | some o => exact ⟨o, rfl⟩
  have sm : Same F (upd F a o) := same_upd f1
  have rr : Rp K (upd F a o) (.ref a) d := by
    cases r with
    | lst r1 r2 =>
      cases hs
      rw [ha] at r1
      cases r1
      exact .lst (.inl (.inl upd_same)) (r2.mono sm)
    | dic r1 r2 =>
      cases hs
      rw [ha] at r1
      cases r1
      exact .dic (.inl upd_same) (r2.mono sm)
  refine ⟨upd F a o, .ref a, hv, sm, ⟨fun b u q => ?_, I.sg, I.g1.trans sm, fun b => ?_, I.g3, by rw [List.length_set]; exact I.len, fun j t w h1 h2 => ?_, fun j k t u hjk h1 h2 o1 o2 => ?_, I.an,
    I.ob.seti i (fun _ _ z => by cases z) rfl sm fun b hb => ⟨rfl, by
      have nb : b ≠ a := fun z => by
        subst z
        obtain ⟨k, s2, h4, h5⟩ := hb
        exact I.ob.aw k i s2 s b h4 h h5 ho hv
      rw [upd_ne nb]; exact (I.ob.free hb).1⟩⟩, rr⟩
  · by_cases z : b = a
    · subst z; rw [upd_same] at q; rw [ha]; exact q
    · rw [upd_ne z] at q; exact I.sf b u q
  · by_cases z : b = a
    · subst z; exact .inr ⟨I.g1.free f1, f3', f2⟩
    · rw [upd_ne z]; exact I.g2 b
  · by_cases z : i = j
    · subst z
      have hl : i < e.length := by
        rcases Nat.lt_or_ge i e.length with q' | q'
        · exact q'
        · rw [List.getElem?_eq_none q'] at h; cases h
      rw [List.getElem?_set_self hl] at h1
      rw [hv] at h2
      cases h1; cases h2
      exact .im rr
    · rw [List.getElem?_set_ne z] at h1
      have q := I.sl j t w h1 h2
      cases q with
      | un => exact .un
      | im q => exact .im (q.mono sm)
      | ow r1 g1 g2 g3 =>
        rename_i b
        have nb : b ≠ a := fun y => by
          rw [y] at h2
          exact I.ap i j s t z h h1 ho r1.own (by rw [hv, h2])
        exact .ow (r1.mono sm rfl) (by rw [upd_ne nb]; exact g1) g2 g3
      | ob => exact .ob
  · have h0 : ∀ {m : Nat} {u : Sl}, (e.set i (.im d))[m]? = some u → u.own = true → e[m]? = some u := fun {m u} q o => by
      by_cases z : i = m
      · subst z
        rw [List.getElem?_set] at q
        simp only [if_true] at q
        split at q
        · cases q; cases o
        · cases q
      · rw [List.getElem?_set_ne z] at q
        exact q
    exact I.ap j k t u hjk (h0 h1 o1) (h0 h2 o2) o1 o2

/-! ### expressions -/
theorem JE.k {e : Expr} {t : TE} {f : FE} (h : JE X np e t f) : JK X np e t (kE f) := by
  refine ⟨h.pe, fun B F e σ H Q hn I e' r hf q => ?_⟩
  obtain ⟨⟨e1, d⟩, h1, h2⟩ := bnd hf
  cases h2
  exact h.de B F e σ H Q hn I e1 d h1 fun F' v H' s I' rp => q F' v H' s I' fun F2 e2 H2 d2 s2 I2 hd => by
    cases hd
    exact .rp (rp.mono s2)
theorem jk_var (i : Nat) {x : Str} {pos : Pos} (h : PE X (.Name x pos) (tVar i)) : JK X np (.Name x pos) (tVar i) (kVar i) := by
  refine ⟨h, fun B F e σ H Q hn I e' r hf q => ?_⟩
  obtain ⟨d, h1, h2⟩ := bnd hf
  cases h2
  obtain ⟨v, hv⟩ := I.val h1
  exact ⟨v, hv, q F v H (Same.refl F) I fun F2 e2 H2 d2 s2 I2 hd => I2.seen hv hd⟩
theorem je_var (i : Nat) {x : Str} {pos : Pos} (h : PE X (.Name x pos) (tVar i)) : JE X np (.Name x pos) (tVar i) (fV np i) := by
  refine ⟨h, fun B F e σ H Q hn I e' d hf q => ?_⟩
  unfold fV at hf
  split at hf
  · rename_i d' hd
    cases hf
    obtain ⟨v, hv, r0⟩ := I.slot hd
    obtain ⟨x, e1, r1⟩ := r0.of_im
    rw [e1] at hv
    exact ⟨x, hv, q F x H (Same.refl F) I r1⟩
  · rename_i ds hd
    split at hf
    · rename_i hi
      cases hf
      obtain ⟨F', v, hv, s, I', r⟩ := I.freeze (d := .lst ds) hd rfl rfl (by rw [hn]; exact hi)
      exact ⟨v, hv, q F' v H s I' r⟩
    · cases hf
  · rename_i ds hd
    split at hf
    · rename_i hi
      cases hf
      obtain ⟨F', v, hv, s, I', r⟩ := I.freeze (d := .dic ds) hd rfl rfl (by rw [hn]; exact hi)
      exact ⟨v, hv, q F' v H s I' r⟩
    · cases hf
  · cases hf
theorem je_c {e : Expr} {v : V} {d : D} (h : PE X e (tC v)) (r : ∀ F, Rp X.K F v d) : JE X np e (tC v) (fC d) := by
  refine ⟨h, fun B F e σ H Q hn I e' d hf q => ?_⟩
  cases hf
  exact q F v H (Same.refl F) I (r F)
theorem je_int {i j pos} : JE X np (.Constant (.int i) j pos) (tC (.int i)) (fC (.int i)) := je_c pe_int fun _ => .int i
theorem je_bl {b j pos} : JE X np (.Constant (.bool b) j pos) (tC (.bl b)) (fC (.bl b)) := je_c pe_bl fun _ => .bl b
theorem je_non {j pos} : JE X np (.Constant .none j pos) (tC .non) (fC .non) := je_c pe_non fun _ => .non
theorem je_str {x j pos} (h : sOk x := by decide +kernel) : JE X np (.Constant (.str x) j pos) (tC (.str x)) (fC (.str x)) := je_c pe_str fun _ => .str x h
theorem de_op {K : PySem.W.Frag} {ta tb : TE} {ka kb : FK} {r : R2} {g : D → D → Option D} (ha : DK K np ta ka) (hb : DK K np tb kb) (hm : OpM K r g) : DE K np (tOp r ta tb) (fOp g ka kb) := by
  intro B F e σ H Q hn I e' d hf q
  obtain ⟨⟨e1, ra⟩, h1, hf⟩ := bnd hf
  obtain ⟨⟨e2, rb⟩, h2, hf⟩ := bnd hf
  obtain ⟨x, h3, hf⟩ := bnd hf
  obtain ⟨y, h4, hf⟩ := bnd hf
  obtain ⟨d', h5, hf⟩ := bnd hf
  cases hf
  refine ha B F e σ H _ hn I e1 ra h1 fun F1 v1 H1 s1 I1 l1 => ?_
  refine hb B F1 e1 σ H1 _ hn I1 e2 rb h2 fun F2 v2 H2 s2 I2 l2 => ?_
  exact hm B F2 e2 σ H2 v1 v2 x y d Q I2 (l1 F2 e2 H2 x s2 I2 h3) (l2 F2 e2 H2 y (Same.refl _) I2 h4) h5 fun F' v H' s I' rp => q F' v H' (s1.trans (s2.trans s)) I' rp
section
variable {a b c : Expr} {ta tb : TE} {ka kb : FK} {fa fb : FE} {tA tB' tC' : TT} {gA gB : FT} {pos : Pos} {rest : List Expr}
theorem je_op {op : Operator} {r : R2} {g : D → D → Option D} (ho : OpR X (binaryOp op) r) (hm : OpM X.K r g) (ha : JK X np a ta ka) (hb : JK X np b tb kb) : JE X np (.BinOp a op b pos) (tOp r ta tb) (fOp g ka kb) :=
  ⟨pe_op ho ha.pe hb.pe, de_op ha.de hb.de hm⟩
theorem je_cmp {op : CmpOp} {r : R2} {g : D → D → Option D} (ho : OpR X (compareOp op) r) (hm : OpM X.K r g) (ha : JK X np a ta ka) (hb : JK X np b tb kb) (hk : behindInMarks op b = false) : JE X np (.Compare a [op] [b] pos) (tOp r ta tb) (fOp g ka kb) :=
  ⟨pe_cmpR ho ha.pe hb.pe hk, de_op ha.de hb.de hm⟩
theorem je_ix {r : R2} {g : D → D → Option D} (ho : IxR X r) (hm : OpM X.K r g) (ha : JK X np a ta ka) (hb : JK X np b tb kb) (hs : PlainIx b) : JE X np (.Subscript a b pos) (tOp r ta tb) (fOp g ka kb) :=
  ⟨pe_ix ho ha.pe hb.pe hs, de_op ha.de hb.de hm⟩
theorem je_un {op : UnaryOp} {r : V → Hp → VK → Prop} {g : D → Option D} (ho : UnR X (unaryOp op) r) (hm : UnM X.K r g) (ha : JK X np a ta ka) : JE X np (.UnaryOp op a pos) (tUn r ta) (fUn g ka) := by
  refine ⟨pe_un ho ha.pe, fun B F e σ H Q hn I e' d hf q => ?_⟩
  obtain ⟨⟨e1, ra⟩, h1, hf⟩ := bnd hf
  obtain ⟨x, h3, hf⟩ := bnd hf
  obtain ⟨d', h5, hf⟩ := bnd hf
  cases hf
  refine ha.de B F e σ H _ hn I e1 ra h1 fun F1 v1 H1 s1 I1 l1 => ?_
  exact hm B F1 e1 σ H1 v1 x d Q I1 (l1 F1 e1 H1 x (Same.refl _) I1 h3) h5 fun F' v H' s I' rp => q F' v H' (s1.trans s) I' rp
theorem dt_test {K : PySem.W.Frag} {t : TE} {f : FE} (h : DE K np t f) : DT K np (tTest t) (fTest f) := by
  intro B F e σ H Q hn I e' b hf q
  obtain ⟨⟨e1, d⟩, h1, hf⟩ := bnd hf
  refine h B F e σ H _ hn I e1 d h1 fun F' v H' s I' rp => ?_
  cases d with
  | bl k =>
    cases hf
    cases rp
    exact ⟨b, rfl, q F' H' s I'⟩
  | _ => cases hf
theorem jt_cmp {op : CmpOp} {r : R2} {g : D → D → Option D} (ho : OpR X (compareOp op) r) (hm : OpM X.K r g) (ha : JK X np a ta ka) (hb : JK X np b tb kb) (hk : behindInMarks op b = false) :
    JT X np (.Compare a [op] [b] pos) (tTest (tOp r ta tb)) (fTest (fOp g ka kb)) := ⟨pt_cmpR ho ha.pe hb.pe hk, dt_test (de_op ha.de hb.de hm)⟩
theorem jt_val (h : JE X np a ta fa) (he : ∀ whole, isTrue a X.env whole = (do let v ← whole; standAt a.pos; holding [v] (truthy v)) := by intro _; rfl) : JT X np a (L2.tB ta) (fTest fa) := by
  refine ⟨pt_val h.pe he, fun B F e σ H Q hn I e' b hf q => ?_⟩
  exact dt_test h.de B F e σ H Q hn I e' b hf q
theorem jw_and1 (h : JT X np a tA gA) : JW X np (.BoolOp .And [a] pos) tA gA := ⟨pw_and1 h.pt, h.de⟩
theorem jw_or1 (h : JT X np a tA gA) : JW X np (.BoolOp .Or [a] pos) tA gA := ⟨pw_or1 h.pt, h.de⟩
theorem jw_and (h : JT X np a tA gA) (h2 : JW X np (.BoolOp .And (b :: rest) pos) tB' gB) : JW X np (.BoolOp .And (a :: b :: rest) pos) (tAnd tA tB') (fAnd gA gB) := by
  refine ⟨pw_and h.pt h2.pw, fun B F e σ H Q hn I e' k hf q => ?_⟩
  obtain ⟨⟨e1, c⟩, h1, hf⟩ := bnd hf
  refine h.de B F e σ H _ hn I e1 c h1 fun F' H' s I' => ?_
  cases c with
  | true => exact iteT (h2.de B F' e1 σ H' _ hn I' e' k hf fun F2 H2 s2 I2 => q F2 H2 (s.trans s2) I2)
  | false => cases hf; exact iteF (q F' H' s I')
theorem jw_or (h : JT X np a tA gA) (h2 : JW X np (.BoolOp .Or (b :: rest) pos) tB' gB) : JW X np (.BoolOp .Or (a :: b :: rest) pos) (tOr tA tB') (fOr gA gB) := by
  refine ⟨pw_or h.pt h2.pw, fun B F e σ H Q hn I e' k hf q => ?_⟩
  obtain ⟨⟨e1, c⟩, h1, hf⟩ := bnd hf
  refine h.de B F e σ H _ hn I e1 c h1 fun F' H' s I' => ?_
  cases c with
  | true => cases hf; exact iteT (q F' H' s I')
  | false => exact iteF (h2.de B F' e1 σ H' _ hn I' e' k hf fun F2 H2 s2 I2 => q F2 H2 (s.trans s2) I2)
theorem JW.t (h : JW X np a tA gA) : JT X np a tA gA := ⟨h.pw.pt, h.de⟩
theorem jt_not (h : JT X np a tA gA) : JT X np (.UnaryOp .Not a pos) (tNot tA) (fNot gA) := by
  refine ⟨pt_not h.pt, fun B F e σ H Q hn I e' k hf q => ?_⟩
  obtain ⟨⟨e1, c⟩, h1, hf⟩ := bnd hf
  cases hf
  exact h.de B F e σ H _ hn I e1 c h1 fun F' H' s I' => q F' H' s I'
theorem je_one {op} (h : JE X np a ta fa) : JE X np (.BoolOp op [a] pos) ta fa := ⟨pe_one h.pe, h.de⟩
theorem je_and (h : JE X np a ta fa) (h2 : JE X np (.BoolOp .And (b :: rest) pos) tb fb) : JE X np (.BoolOp .And (a :: b :: rest) pos) (tAndV ta tb) (fAndV fa fb) := by
  refine ⟨pe_and h.pe h2.pe, fun B F e σ H Q hn I e' k hf q => ?_⟩
  obtain ⟨⟨e1, c⟩, h1, hf⟩ := bnd hf
  refine h.de B F e σ H _ hn I e1 c h1 fun F' v H' s I' r => ?_
  cases c with
  | bl c =>
    cases r
    refine ⟨c, rfl, ?_⟩
    cases c with
    | true => exact iteT (h2.de B F' e1 σ H' _ hn I' e' k hf fun F2 v2 H2 s2 I2 r2 => q F2 v2 H2 (s.trans s2) I2 r2)
    | false => cases hf; exact iteF (q F' _ H' s I' (.bl false))
  | _ => cases hf
theorem je_or (h : JE X np a ta fa) (h2 : JE X np (.BoolOp .Or (b :: rest) pos) tb fb) : JE X np (.BoolOp .Or (a :: b :: rest) pos) (tOrV ta tb) (fOrV fa fb) := by
  refine ⟨pe_or h.pe h2.pe, fun B F e σ H Q hn I e' k hf q => ?_⟩
  obtain ⟨⟨e1, c⟩, h1, hf⟩ := bnd hf
  refine h.de B F e σ H _ hn I e1 c h1 fun F' v H' s I' r => ?_
  cases c with
  | bl c =>
    cases r
    refine ⟨c, rfl, ?_⟩
    cases c with
    | true => cases hf; exact iteT (q F' _ H' s I' (.bl true))
    | false => exact iteF (h2.de B F' e1 σ H' _ hn I' e' k hf fun F2 v2 H2 s2 I2 r2 => q F2 v2 H2 (s.trans s2) I2 r2)
  | _ => cases hf
theorem je_not (h : JE X np a ta fa) : JE X np (.UnaryOp .Not a pos) (tNotV ta) (fNotV fa) := by
  refine ⟨pe_not h.pe, fun B F e σ H Q hn I e' k hf q => ?_⟩
  obtain ⟨⟨e1, c⟩, h1, hf⟩ := bnd hf
  refine h.de B F e σ H _ hn I e1 c h1 fun F' v H' s I' r => ?_
  cases c with
  | bl c =>
    cases r
    cases hf
    exact ⟨c, rfl, q F' _ H' s I' (.bl _)⟩
  | _ => cases hf
theorem je_ife {c : Expr} (hc : JT X np c tA gA) (ha : JE X np a ta fa) (hb : JE X np b tb fb) : JE X np (.IfExp c a b pos) (tIf tA ta tb) (fIfE gA fa fb) := by
  refine ⟨pe_ifExp hc.pt ha.pe hb.pe, fun B F e σ H Q hn I e' k hf q => ?_⟩
  obtain ⟨⟨e1, c⟩, h1, hf⟩ := bnd hf
  refine hc.de B F e σ H _ hn I e1 c h1 fun F' H' s I' => ?_
  cases c with
  | true => exact iteT (ha.de B F' e1 σ H' _ hn I' e' k hf fun F2 v2 H2 s2 I2 r2 => q F2 v2 H2 (s.trans s2) I2 r2)
  | false => exact iteF (hb.de B F' e1 σ H' _ hn I' e' k hf fun F2 v2 H2 s2 I2 r2 => q F2 v2 H2 (s.trans s2) I2 r2)
end

/-! ### arguments, displays, calls of built-ins -/
section
variable {ex : Expr} {es : List Expr} {te : TE} {t : TA} {fe : FE} {fs : FEs} {ke : FK} {ks : FKs} {pos : Pos} {n : Nat}
theorem jes_nil : JEs X np [] 0 tNil fNil := by
  refine ⟨pa_nil, fun B F e σ H Q hn I e' ds hf q => ?_⟩
  cases hf
  exact q F [] H (Same.refl F) I .nil rfl
theorem jes_cons (h : JE X np ex te fe) (h2 : JEs X np es n t fs) (hs : starEach (ex :: es) X.env = (false, eval ex X.env) :: starEach es X.env := by rfl) : JEs X np (ex :: es) (n + 1) (tCons te t) (fCons fe fs) := by
  refine ⟨pa_cons h.pe h2.pa hs, fun B F e σ H Q hn I e' ds hf q => ?_⟩
  obtain ⟨⟨e1, d⟩, h1, hf⟩ := bnd hf
  obtain ⟨⟨e2, ds2⟩, h3, hf⟩ := bnd hf
  cases hf
  refine h.de B F e σ H _ hn I e1 d h1 fun F' v H' s I' r => ?_
  exact h2.de B F' e1 σ H' _ hn I' e2 ds2 h3 fun F2 vs H2 s2 I2 r2 l2 => q F2 (v :: vs) H2 (s.trans s2) I2 (.cons (r.mono s2) r2) (congrArg (· + 1) l2)
theorem jks_nil : JKs X np [] tNil kNil := by
  refine ⟨pa_nil, fun B F e σ H Q hn I e' ds hf q => ?_⟩
  cases hf
  exact q F [] H (Same.refl F) I fun F2 e2 H2 ds s2 I2 hd => by cases hd; exact .nil
theorem jks_cons (h : JK X np ex te ke) (h2 : JKs X np es t ks) (hs : starEach (ex :: es) X.env = (false, eval ex X.env) :: starEach es X.env := by rfl) : JKs X np (ex :: es) (tCons te t) (kCons ke ks) := by
  refine ⟨pa_cons h.pe h2.pa hs, fun B F e σ H Q hn I e' ds hf q => ?_⟩
  obtain ⟨⟨e1, d⟩, h1, hf⟩ := bnd hf
  obtain ⟨⟨e2, ds2⟩, h3, hf⟩ := bnd hf
  cases hf
  refine h.de B F e σ H _ hn I e1 d h1 fun F' v H' s I' r => ?_
  refine h2.de B F' e1 σ H' _ hn I' e2 ds2 h3 fun F2 vs H2 s2 I2 r2 => q F2 (v :: vs) H2 (s.trans s2) I2 fun F3 e3 H3 dd s3 I3 hd => ?_
  obtain ⟨d1, q1, hd⟩ := bnd hd
  obtain ⟨d2, q2, hd⟩ := bnd hd
  cases hd
  exact .cons (r F3 e3 H3 d1 (s2.trans s3) I3 q1) (r2 F3 e3 H3 d2 s3 I3 q2)
theorem je_tup {x1} (h : JEs X np es n t fs) (hz : n ≤ sizeLine := by decide) : JE X np (.Tuple es x1 pos) (tTup t) (fTup fs) := by
  refine ⟨pe_tup h.pa, fun B F e σ H Q hn I e' d hf q => ?_⟩
  obtain ⟨⟨e1, ds⟩, h1, hf⟩ := bnd hf
  cases hf
  refine h.de B F e σ H _ hn I e1 ds h1 fun F1 vs H1 s1 I1 r l => ⟨by rw [l]; exact hz, fun p hp => ?_⟩
  have f1 := (I1.free hp).1
  exact q (upd F1 p (.tup vs)) (.ref p) _ (s1.trans (same_upd f1)) (I1.laid hp) (.tup (.inl (.inl upd_same)) (r.mono (same_upd f1)))
theorem je_lst (h : JEs X np es n t fs) (hz : n ≤ sizeLine := by decide) : JE X np (.List es pos) (tLst t) (fLst fs) := by
  refine ⟨pe_lst h.pa, fun B F e σ H Q hn I e' d hf q => ?_⟩
  obtain ⟨⟨e1, ds⟩, h1, hf⟩ := bnd hf
  cases hf
  refine h.de B F e σ H _ hn I e1 ds h1 fun F1 vs H1 s1 I1 r l => ⟨by rw [l]; exact hz, fun p hp => ?_⟩
  have f1 := (I1.free hp).1
  exact q (upd F1 p (.lst vs)) (.ref p) _ (s1.trans (same_upd f1)) (I1.laid hp) (.lst (.inl (.inl upd_same)) (r.mono (same_upd f1)))
theorem de_cb {K : PySem.W.Frag} {r : List V → Hp → VK → Prop} {g : List D → Option D} (h : DKs K np t ks) (hm : CallM K r g) : DE K np (tCB r t) (fCB g ks) := by
  intro B F e σ H Q hn I e' d hf q
  obtain ⟨⟨e1, ra⟩, h1, hf⟩ := bnd hf
  obtain ⟨x, h3, hf⟩ := bnd hf
  obtain ⟨d', h5, hf⟩ := bnd hf
  cases hf
  refine h B F e σ H _ hn I e1 ra h1 fun F1 v1 H1 s1 I1 l1 => ?_
  exact hm B F1 e1 σ H1 v1 x d Q I1 (l1 F1 e1 H1 x (Same.refl _) I1 h3) h5 fun F' v H' s I' rp => q F' v H' (s1.trans s) I' rp
theorem je_callB {x : Str} {p : Pos} {id : String} {r : List V → Hp → VK → Prop} {g : List D → Option D} (hc : CallR X (.builtin id) r) (hm : CallM X.K r g) (hg : Gl X x) (hx : X.mg x = none) (hv : bootBuiltins x = some (.builtin id)) (ha : JKs X np (ex :: es) t ks)
    (hn : x ≠ "__name__" := by decide) (hdb : (x == ("__debug__" : Str)) = false := by decide) (he : starEach (ex :: es) X.env = (false, eval ex X.env) :: starEach es X.env := by rfl) (hpl : (backTo pos (starEach es X.env)).any (·.1) = false := by rfl) :
    JE X np (.Call (.Name x p) (ex :: es) [] pos) (tCB r t) (fCB g ks) := ⟨pe_callB hc hg hx hv ha.pa hn hdb he hpl, de_cb ha.de hm⟩
theorem je_callTy {x : Str} {p : Pos} {T : String} {r : List V → Hp → VK → Prop} {g : List D → Option D} (hc : CallR X (.type T) r) (hm : CallM X.K r g) (hg : Gl X x) (hx : X.mg x = none) (hv : bootBuiltins x = some (.type T)) (ha : JKs X np (ex :: es) t ks)
    (hn : x ≠ "__name__" := by decide) (hdb : (x == ("__debug__" : Str)) = false := by decide) (he : starEach (ex :: es) X.env = (false, eval ex X.env) :: starEach es X.env := by rfl) (hpl : (backTo pos (starEach es X.env)).any (·.1) = false := by rfl) :
    JE X np (.Call (.Name x p) (ex :: es) [] pos) (tCB r t) (fCB g ks) := ⟨pe_callTy hc hg hx hv ha.pa hn hdb he hpl, de_cb ha.de hm⟩
end
end
end M

namespace M
open PySem PySem.Spec PyProof.Rows L2

/-! ### texts -/
theorem sOk_append {a b : Str} (ha : sOk a) (hb : sOk b) : sOk (a ++ b) := by
  intro c hc
  have e : (a ++ b).cps.toList = a.cps.toList ++ b.cps.toList := by
    show (a.cps ++ b.cps).toList = _
    simp
  rw [e] at hc
  rcases List.mem_append.mp hc with h | h
  · exact ha c h
  · exact hb c h
theorem sOk_one {z : Str} {c : Nat} (h : sOk z) (hc : c ∈ z.cps.toList) : sOk ⟨#[c]⟩ := by
  intro d hd
  simp at hd
  subst hd
  exact h _ hc

/-! ### what is seen of a value -/
section
variable {K : PySem.W.Frag} {F H : Hp} {x : V}
theorem RpO.int {i : Int} (h : RpO K F H x (.int i)) : x = .int i := by cases h with | rp h => cases h; rfl
theorem RpO.bl {i : Bool} (h : RpO K F H x (.bl i)) : x = .bl i := by cases h with | rp h => cases h; rfl
theorem RpO.str {i : Str} (h : RpO K F H x (.str i)) : x = .str i ∧ sOk i := by cases h with | rp h => cases h; exact ⟨rfl, by assumption⟩
theorem RpO.non (h : RpO K F H x .non) : x = .non := by cases h with | rp h => cases h; rfl
theorem RpO.ty {n : String} (h : RpO K F H x (.ty n)) : x = .ty n := by cases h with | rp h => cases h; rfl
theorem RpO.lst' {ds : List D} (sf : Same F H) (h : RpO K F H x (.lst ds)) : ∃ a xs, x = .ref a ∧ SqL K H a xs ∧ Rps K F xs ds := by
  cases h with
  | rp h => cases h with | lst h1 h2 => exact ⟨_, _, rfl, sf.seq h1, h2⟩
  | lst h1 h2 => exact ⟨_, _, rfl, .inl (.inl h1), h2⟩
theorem RpO.tup' {ds : List D} (sf : Same F H) (h : RpO K F H x (.tup ds)) : ∃ a xs, x = .ref a ∧ SqT K H a xs ∧ SqT K F a xs ∧ Rps K F xs ds := by
  cases h with
  | rp h => cases h with | tup h1 h2 => exact ⟨_, _, rfl, sqt_mono sf h1, h1, h2⟩
theorem RpO.dic' {es : List (Key × D)} (sf : Same F H) (h : RpO K F H x (.dic es)) : ∃ a kvs, x = .ref a ∧ Rd H a (.dK kvs) ∧ Rpk K F kvs es := by
  cases h with
  | rp h => cases h with | dic h1 h2 => exact ⟨_, _, rfl, rd_mono sf h1, h2⟩
  | dic h1 h2 => exact ⟨_, _, rfl, .inl h1, h2⟩
end

/-! ### + -/
def addD : D → D → Option D
  | .int i, .int j => some (.int (i + j))
  | .str a, .str b => if a.length + b.length ≤ sizeLine then some (.str (a ++ b)) else none
  | .lst xs, .lst ys => if xs.length + ys.length ≤ sizeLine then some (.lst (xs ++ ys)) else none
  | .tup xs, .tup ys => if xs.length + ys.length ≤ sizeLine then some (.tup (xs ++ ys)) else none
  | _, _ => none
def rCatL (K : PySem.W.Frag) : R2 := fun x y H Q => ∃ l b xs zs, x = .ref l ∧ y = .ref b ∧ SqL K H l xs ∧ SqL K H b zs ∧ xs.length + zs.length ≤ sizeLine ∧ ∀ p, H p = none → Q (.ref p) (upd H p (.lst (xs ++ zs)))
theorem op_catL {X : Cx} : OpR X (binaryOp .Add) (rCatL X.K) := by
  intro pins s σ H x y v u Q I rx ry h
  obtain ⟨l, b, xs, zs, rfl, rfl, h1, h2, hz, q⟩ := h
  cases rx
  cases ry
  obtain ⟨us, r1, p1, _⟩ := I.list h1
  obtain ⟨ws, r2, p2, _⟩ := I.list h2
  obtain ⟨⟨c1, d1, t1, sl1⟩, n1, o1, e1, e2, e3⟩ := p1
  obtain ⟨⟨c2, d2, t2, sl2⟩, n2, o2, f1, f2, f3⟩ := p2
  simp only at e1 e2 e3 f1 f2 f3
  subst e1 e2 e3 f1 f2 f3
  have l1 := r1.length
  have l2 := r2.length
  have hh : us.toArray ++ ws.toArray = (us ++ ws).toArray := by simp
  have ww := concat_meets (prog := X.prog) (w := X.w) (A := X.A) (E := X.xe) (s := s) (Q := EP X pins σ Q) (a := .ref l) (b := .ref b) ⟨_, o1, rfl⟩ ⟨_, o2, rfl⟩ noFill_list_add seq_list_add PySem.F.slot_list_add PySem.F.entry_list_add
    (PySem.F.args_list_add_2 _ _) (list_addW l b us.toArray ws.toArray n1 n2 _ _ sl1 sl2 (by rw [List.size_toArray, List.size_toArray]; omega)) ⟨o1, o2, by
      rw [hh]
      exact ⟨.ref _, _, I.lnew (t' := s.toks) (r1.append r2) (by rw [List.length_append]; omega), rfl, q _ I.fresh⟩⟩
  exact ww
def rAddD (K : PySem.W.Frag) : R2 := fun x y H Q => ((((rI0 fun i j => V.int (i + j)) x y H Q) ∨ (∃ i j, x = .str i ∧ y = .str j ∧ i.length + j.length ≤ sizeLine ∧ Q (.str (i ++ j)) H)) ∨ rCatL K x y H Q) ∨ rCatA K x y H Q
theorem op_addD {X : Cx} : OpR X (binaryOp .Add) (rAddD X.K) := ((op_add.or op_add_str).or op_catL).or op_catA
theorem om_add {K : PySem.W.Frag} : OpM K (rAddD K) addD := by
  intro B F e σ H x y dx dy d Q I rx ry hf q
  unfold addD at hf
  split at hf
  · cases hf
    exact .inl (.inl (.inl ⟨_, _, rx.int, ry.int, q F _ H (Same.refl F) I (.int _)⟩))
  · split at hf
    · rename_i hz
      cases hf
      exact .inl (.inl (.inr ⟨_, _, rx.str.1, ry.str.1, hz, q F _ H (Same.refl F) I (.str _ (sOk_append rx.str.2 ry.str.2))⟩))
    · cases hf
  · split at hf
    · rename_i hz
      cases hf
      obtain ⟨a, xs, e1, h1, r1⟩ := rx.lst' I.sf
      obtain ⟨b, ys, e2, h2, r2⟩ := ry.lst' I.sf
      have hz' := hz
      rw [← r1.length, ← r2.length] at hz'
      refine .inl (.inr ⟨a, b, xs, ys, e1, e2, h1, h2, hz', fun p hp => ?_⟩)
      have sm := same_upd (o := .lst (xs ++ ys)) (I.free hp).1
      exact q _ _ _ sm (I.laid hp) (.lst (.inl (.inl upd_same)) ((r1.append r2).mono sm))
    · cases hf
  · split at hf
    · rename_i hz
      cases hf
      obtain ⟨a, xs, e1, h1, g1, r1⟩ := rx.tup' I.sf
      obtain ⟨b, ys, e2, h2, g2, r2⟩ := ry.tup' I.sf
      have hz' := hz
      rw [← r1.length, ← r2.length] at hz'
      refine .inr ⟨a, b, xs, ys, e1, e2, h1, h2, hz', fun z => ?_, fun _ z => ?_, fun _ _ p hp => ?_⟩
      · subst z
        cases r1
        exact q F _ H (Same.refl F) I (.tup g2 r2)
      · subst z
        cases r2
        rw [List.append_nil] at q
        exact q F _ H (Same.refl F) I (.tup g1 r1)
      · have sm := same_upd (o := .tup (xs ++ ys)) (I.free hp).1
        exact q _ _ _ sm (I.laid hp) (.tup (.inl (.inl upd_same)) ((r1.append r2).mono sm))
    · cases hf
  · cases hf

/-! ### numbers -/
def subD : D → D → Option D
  | .int i, .int j => some (.int (i - j))
  | _, _ => none
def bitsOk (i j : Int) : Bool := decide (i.natAbs.log2 + j.natAbs.log2 < 100000000)
def mulD : D → D → Option D
  | .int i, .int j => if bitsOk i j = true then some (.int (i * j)) else none
  | _, _ => none
def fdivD : D → D → Option D
  | .int i, .int j => if 0 < j ∧ j.natAbs.log2 < 9000 then some (.int (i / j)) else none
  | _, _ => none
def modD : D → D → Option D
  | .int i, .int j => if 0 < j then some (.int (i % j)) else none
  | _, _ => none
def powD : D → D → Option D
  | .int i, .int j => if 0 ≤ j ∧ j ≤ 1000000 ∧ i.natAbs < 2 ^ 64 then some (.int (i ^ j.toNat)) else none
  | _, _ => none
def rMulB : R2 := rI (fun i j => bitsOk i j = true) fun i j => .int (i * j)
theorem mulOk_log {i j : Int} (h : bitsOk i j = true) : IntMulOk i j := by
  have b : ∀ x : Int, Builtin.Int.intBits x ≤ x.natAbs.log2 + 1 := fun x => by
    unfold Builtin.Int.intBits
    split <;> omega
  have h1 := b i
  have h2 := b j
  have h3 := of_decide_eq_true h
  exact IntMulOk.of_le (Nat.le_refl _) (Nat.le_refl _) (by omega)
theorem op_mulB {X : Cx} : OpR X (binaryOp .Mult) rMulB := opI fun _ _ _ _ _ _ _ hc q => mul_int q (mulOk_log hc)
theorem om_sub {K : PySem.W.Frag} : OpM K (rI0 fun i j => V.int (i - j)) subD := by
  intro B F e σ H x y dx dy d Q I rx ry hf q
  unfold subD at hf
  split at hf
  · cases hf
    exact ⟨_, _, rx.int, ry.int, q F _ H (Same.refl F) I (.int _)⟩
  · cases hf
theorem om_mul {K : PySem.W.Frag} : OpM K rMulB mulD := by
  intro B F e σ H x y dx dy d Q I rx ry hf q
  unfold mulD at hf
  split at hf
  · split at hf
    · rename_i hz
      cases hf
      exact ⟨_, _, rx.int, ry.int, hz, q F _ H (Same.refl F) I (.int _)⟩
    · cases hf
  · cases hf
theorem om_fdiv {K : PySem.W.Frag} : OpM K (rI CDivW fun i j => V.int (i / j)) fdivD := by
  intro B F e σ H x y dx dy d Q I rx ry hf q
  unfold fdivD at hf
  split at hf
  · split at hf
    · rename_i hz
      cases hf
      exact ⟨_, _, rx.int, ry.int, hz, q F _ H (Same.refl F) I (.int _)⟩
    · cases hf
  · cases hf
theorem om_mod {K : PySem.W.Frag} : OpM K (rI (fun _ j => j ≠ 0) fun i j => V.int (i.fmod j)) modD := by
  intro B F e σ H x y dx dy d Q I rx ry hf q
  unfold modD at hf
  split at hf
  · split at hf
    · rename_i hz
      cases hf
      rename_i i j
      refine ⟨i, j, rx.int, ry.int, by omega, ?_⟩
      have q1 := q F _ H (Same.refl F) I (.int _)
      rw [← Int.fmod_eq_emod_of_nonneg i (by omega)] at q1
      exact q1
    · cases hf
  · cases hf
theorem om_pow {K : PySem.W.Frag} : OpM K (rI CPow fun i j => V.int (i ^ j.toNat)) powD := by
  intro B F e σ H x y dx dy d Q I rx ry hf q
  unfold powD at hf
  split at hf
  · split at hf
    · rename_i hz
      cases hf
      exact ⟨_, _, rx.int, ry.int, hz, q F _ H (Same.refl F) I (.int _)⟩
    · cases hf
  · cases hf
def negD : D → Option D
  | .int i => some (.int (-i))
  | _ => none
theorem um_neg {K : PySem.W.Frag} : UnM K (rU fun i => V.int (-i)) negD := by
  intro B F e σ H x dx d Q I rx hf q
  unfold negD at hf
  split at hf
  · cases hf
    exact ⟨_, rx.int, q F _ H (Same.refl F) I (.int _)⟩
  · cases hf

/-! ### order -/
def ltD : D → D → Option D
  | .int i, .int j => some (.bl (decide (i < j)))
  | .str a, .str b => some (.bl (decide (a.cps.toList < b.cps.toList)))
  | _, _ => none
def gtD : D → D → Option D
  | .int i, .int j => some (.bl (decide (j < i)))
  | .str a, .str b => some (.bl (decide (b.cps.toList < a.cps.toList)))
  | _, _ => none
def leD : D → D → Option D
  | .int i, .int j => some (.bl (decide (i ≤ j)))
  | _, _ => none
def geD : D → D → Option D
  | .int i, .int j => some (.bl (decide (j ≤ i)))
  | _, _ => none
def rLtD : R2 := fun x y H Q => ((rI0 fun i j => V.bl (decide (i < j))) x y H Q) ∨ (∃ i j, x = .str i ∧ y = .str j ∧ Q (.bl (decide (i.cps.toList < j.cps.toList))) H)
theorem op_ltD {X : Cx} : OpR X (compareOp .Lt) rLtD := op_lt.or op_lt_str
theorem om_lt {K : PySem.W.Frag} : OpM K rLtD ltD := by
  intro B F e σ H x y dx dy d Q I rx ry hf q
  unfold ltD at hf
  split at hf
  · cases hf; exact .inl ⟨_, _, rx.int, ry.int, q F _ H (Same.refl F) I (.bl _)⟩
  · cases hf; exact .inr ⟨_, _, rx.str.1, ry.str.1, q F _ H (Same.refl F) I (.bl _)⟩
  · cases hf
theorem om_le {K : PySem.W.Frag} : OpM K (rI0 fun i j => V.bl (decide (i ≤ j))) leD := by
  intro B F e σ H x y dx dy d Q I rx ry hf q
  unfold leD at hf
  split at hf
  · cases hf; exact ⟨_, _, rx.int, ry.int, q F _ H (Same.refl F) I (.bl _)⟩
  · cases hf
theorem om_ge {K : PySem.W.Frag} : OpM K (rI0 fun i j => V.bl (decide (j ≤ i))) geD := by
  intro B F e σ H x y dx dy d Q I rx ry hf q
  unfold geD at hf
  split at hf
  · cases hf; exact ⟨_, _, rx.int, ry.int, q F _ H (Same.refl F) I (.bl _)⟩
  · cases hf
def rGtD : R2 := fun x y H Q => ((rI0 fun i j => V.bl (decide (j < i))) x y H Q) ∨ (∃ i j, x = .str i ∧ y = .str j ∧ Q (.bl (decide (j.cps.toList < i.cps.toList))) H)
theorem op_gtD {X : Cx} : OpR X (compareOp .Gt) rGtD := op_gt.or op_gt_str
theorem om_gt {K : PySem.W.Frag} : OpM K rGtD gtD := by
  intro B F e σ H x y dx dy d Q I rx ry hf q
  unfold gtD at hf
  split at hf
  · cases hf; exact .inl ⟨_, _, rx.int, ry.int, q F _ H (Same.refl F) I (.bl _)⟩
  · cases hf; exact .inr ⟨_, _, rx.str.1, ry.str.1, q F _ H (Same.refl F) I (.bl _)⟩
  · cases hf
end M

namespace M
open PySem PySem.Spec PyProof.Rows L2

/-! ### == -/
mutual
def D.py : D → PyData
  | .non => .none
  | .bl b => .bool b
  | .int i => .int i
  | .str s => .str s
  | .lst xs => .list (D.pys xs)
  | .tup xs => .tuple (D.pys xs)
  | .dic _ => .none
  | .ty _ => .none
  | .fn _ => .none
  | .ob _ _ => .none
def D.pys : List D → List PyData
  | [] => []
  | x :: xs => x.py :: D.pys xs
end
mutual
def D.plain : D → Bool
  | .lst xs => D.plains xs
  | .tup xs => D.plains xs
  | .dic _ => false
  | .ty _ => false
  | .fn _ => false
  | .ob _ _ => false
  | _ => true
def D.plains : List D → Bool
  | [] => true
  | x :: xs => x.plain && D.plains xs
end
theorem strOk_of {x : Str} (h : sOk x) : PyData.strOk x = true := by
  unfold PyData.strOk
  rw [Array.all_eq_true']
  intro c hc
  exact decide_eq_true (h c (by simpa using hc))
section
variable {X : Cx} {pins : List (Addr × Obj)} {σ : L2.St} {H : Hp} {s : Shared} {F : Hp}
mutual
theorem rp_reads (I : Inv X pins σ H s) (sf : Same F H) : ∀ (d : D) (v : V) (u : Value), d.plain = true → Rp X.K F v d → RelV v u → (∃ as, Reads s.heap u d.py as) ∧ d.py.canLay0 = true
  | .non, _, _, _, h, r => by cases h; cases r; exact ⟨⟨_, .none⟩, rfl⟩
  | .bl b, _, _, _, h, r => by cases h; cases r; exact ⟨⟨_, .bool b⟩, rfl⟩
  | .int i, _, _, _, h, r => by cases h; obtain ⟨t, rfl⟩ := r; exact ⟨⟨_, .int i t⟩, rfl⟩
  | .str x, _, _, _, h, r => by
    cases h with
    | str _ hx => obtain ⟨t, rfl⟩ := r; exact ⟨⟨_, .str x t⟩, by rw [D.py, PyData.canLay0]; exact strOk_of hx⟩
  | .lst ds, _, _, hp, h, r => by
    cases h with
    | lst h1 h2 =>
      cases r
      obtain ⟨us, rv, ⟨o, n, ho, hc, _, hd⟩, _⟩ := I.list (sf.seq h1)
      obtain ⟨⟨as, q⟩, l⟩ := rp_readsAll I sf ds _ us (by rw [D.plain] at hp; exact hp) h2 rv
      exact ⟨⟨_, .list ho hc hd q⟩, by rw [D.py, PyData.canLay0]; exact l⟩
  | .tup ds, _, _, hp, h, r => by
    cases h with
    | tup h1 h2 =>
      cases r
      obtain ⟨us, rv, ⟨o, ho, hc, n, hd⟩, _⟩ := I.tuple (sqt_mono sf h1)
      obtain ⟨⟨as, q⟩, l⟩ := rp_readsAll I sf ds _ us (by rw [D.plain] at hp; exact hp) h2 rv
      exact ⟨⟨_, .tuple ho hc hd q⟩, by rw [D.py, PyData.canLay0]; exact l⟩
  | .dic _, _, _, hp, _, _ => by rw [D.plain] at hp; cases hp
  | .ty _, _, _, hp, _, _ => by rw [D.plain] at hp; cases hp
  | .fn _, _, _, hp, _, _ => by rw [D.plain] at hp; cases hp
  | .ob _ _, _, _, hp, _, _ => by rw [D.plain] at hp; cases hp
theorem rp_readsAll (I : Inv X pins σ H s) (sf : Same F H) : ∀ (ds : List D) (vs : List V) (us : List Value), D.plains ds = true → Rps X.K F vs ds → Vals vs us → (∃ as, ReadsAll s.heap us (D.pys ds) as) ∧ PyData.canLayAll0 (D.pys ds) = true
  | [], _, _, _, h, r => by cases h; cases r; exact ⟨⟨_, .nil⟩, rfl⟩
  | d :: ds, _, _, hp, h, r => by
    rw [D.plains, Bool.and_eq_true] at hp
    cases h with
    | cons h1 h2 =>
      cases r with
      | cons r1 r2 =>
        obtain ⟨⟨as, q1⟩, l1⟩ := rp_reads I sf d _ _ hp.1 h1 r1
        obtain ⟨⟨bs, q2⟩, l2⟩ := rp_readsAll I sf ds _ _ hp.2 h2 r2
        exact ⟨⟨_, .cons q1 q2⟩, by rw [D.pys, PyData.canLayAll0, l1, l2]; rfl⟩
end
theorem rpo_reads (I : Inv X pins σ H s) (sf : Same F H) {d : D} {v : V} {u : Value} (hp : d.plain = true) (h : RpO X.K F H v d) (r : RelV v u) : (∃ as, Reads s.heap u d.py as) ∧ d.py.canLay0 = true := by
  cases h with
  | rp h => exact rp_reads I sf d v u hp h r
  | @lst a xs ds h1 h2 =>
    cases r
    obtain ⟨us, rv, ⟨o, n, ho, hc, _, hd⟩, _⟩ := I.list (.inl (.inl h1))
    obtain ⟨⟨as, q⟩, l⟩ := rp_readsAll I sf ds _ us (by rw [D.plain] at hp; exact hp) h2 rv
    exact ⟨⟨_, .list ho hc hd q⟩, by rw [D.py, PyData.canLay0]; exact l⟩
  | dic h1 h2 => rw [D.plain] at hp; cases hp
end
def eqG (a b : D) : Option Bool := if a.plain = true ∧ b.plain = true ∧ min a.py.depth b.py.depth ≤ 200 then some (PyData.eqv a.py b.py) else none
def eqQ : D → D → Option Bool
  | .str a, .str b => some (decide (a = b))
  | .int a, .int b => some (decide (a = b))
  | .tup xs, .tup [] => some xs.isEmpty
  | a, b => eqG a b
def eqD (a b : D) : Option D := (eqQ a b).map .bl
def neQ : D → D → Option Bool
  | .str a, .str b => some (decide (a = b))
  | .int a, .int b => some (decide (a = b))
  | a, b => eqG a b
def neD (a b : D) : Option D := (neQ a b).map fun k => .bl (!k)
/-- both readings' ground -/
def NeVals (K : PySem.W.Frag) (H : Hp) (x y : V) (b : Bool) : Prop :=
  (∃ i j, x = .str i ∧ y = .str j ∧ b = decide (i = j)) ∨ (∃ i j, x = .int i ∧ y = .int j ∧ b = decide (i = j)) ∨
  ∃ F dx dy, Same F H ∧ RpO K F H x dx ∧ RpO K F H y dy ∧ dx.plain = true ∧ dy.plain = true ∧ min dx.py.depth dy.py.depth ≤ 200 ∧ b = PyData.eqv dx.py dy.py
def EqVals (K : PySem.W.Frag) (H : Hp) (x y : V) (b : Bool) : Prop := (∃ p q xs, x = .ref p ∧ y = .ref q ∧ SqT K H p xs ∧ SqT K H q [] ∧ b = xs.isEmpty) ∨ NeVals K H x y b
def rEqX (K : PySem.W.Frag) : R2 := fun x y H Q => ∃ b, EqVals K H x y b ∧ Q (.bl b) H
def rNeX (K : PySem.W.Frag) : R2 := fun x y H Q => ∃ b, NeVals K H x y b ∧ Q (.bl (!b)) H
section
variable {X : Cx}
theorem op_eqX (hu : X.A.units + 200 < cLine) : OpR X (compareOp .Eq) (rEqX X.K) := by
  intro pins s σ H x y v u Q I rx ry h
  obtain ⟨b, h, q⟩ := h
  rcases h with ⟨p, r, xs, rfl, rfl, h1, h2, rfl⟩ | ⟨i, j, rfl, rfl, rfl⟩ | ⟨i, j, rfl, rfl, rfl⟩ | ⟨F, dx, dy, sf, h1, h2, p1, p2, hz, rfl⟩
  · cases rx
    cases ry
    obtain ⟨us, r1, t1, _⟩ := I.tuple h1
    obtain ⟨ws, r2, t2, _⟩ := I.tuple h2
    cases r2
    have z := SeqAt.RcAt.tuples (A := X.A) (s := s) (e := fun _ => true) t1 t2 (Nat.lt_of_le_of_lt (Nat.le_add_right _ 200) hu) (fun j _ j2 => absurd j2 (by simp))
    refine z X.prog X.w X.xe _ ⟨.bl _, H, I, rfl, ?_⟩
    have e : ((List.range (min us.toArray.size ([] : List Value).toArray.size)).all (fun _ => true) && us.toArray.size == ([] : List Value).toArray.size) = xs.isEmpty := by
      cases xs with
      | nil => cases r1; rfl
      | cons a t => cases r1; simp
    show Q (V.bl _) H
    rw [e]; exact q
  · refine op_eq pins s σ H _ _ v u Q I rx ry ⟨rfl, ?_⟩
    have e : decide (V.str i = V.str j) = decide (i = j) := by simp
    rw [e]; exact q
  · refine op_eq pins s σ H _ _ v u Q I rx ry ⟨rfl, ?_⟩
    have e : decide (V.int i = V.int j) = decide (i = j) := by simp
    rw [e]; exact q
  · obtain ⟨⟨as, q1⟩, l1⟩ := rpo_reads I sf p1 h1 rx
    obtain ⟨⟨bs, q2⟩, l2⟩ := rpo_reads I sf p2 h2 ry
    exact SeqAt.compareEq_reads q1 q2 l1 l2 (by omega) ⟨.bl _, H, I, rfl, q⟩
theorem op_neX (hu : X.A.units + 200 < cLine) : OpR X (compareOp .NotEq) (rNeX X.K) := by
  intro pins s σ H x y v u Q I rx ry h
  obtain ⟨b, h, q⟩ := h
  rcases h with ⟨i, j, rfl, rfl, rfl⟩ | ⟨i, j, rfl, rfl, rfl⟩ | ⟨F, dx, dy, sf, h1, h2, p1, p2, hz, rfl⟩
  · refine op_ne pins s σ H _ _ v u Q I rx ry ⟨rfl, ?_⟩
    have e : decide (V.str i = V.str j) = decide (i = j) := by simp
    rw [e]; exact q
  · refine op_ne pins s σ H _ _ v u Q I rx ry ⟨rfl, ?_⟩
    have e : decide (V.int i = V.int j) = decide (i = j) := by simp
    rw [e]; exact q
  · obtain ⟨⟨as, q1⟩, l1⟩ := rpo_reads I sf p1 h1 rx
    obtain ⟨⟨bs, q2⟩, l2⟩ := rpo_reads I sf p2 h2 ry
    exact SeqAt.compareNe_reads q1 q2 l1 l2 (by omega) ⟨.bl _, H, I, rfl, q⟩
end
theorem eqG_vals {K : PySem.W.Frag} {F H : Hp} {x y : V} {dx dy : D} {b : Bool} (sf : Same F H) (rx : RpO K F H x dx) (ry : RpO K F H y dy) (h : eqG dx dy = some b) : NeVals K H x y b := by
  unfold eqG at h
  split at h
  · rename_i hz
    cases h
    exact .inr (.inr ⟨F, dx, dy, sf, rx, ry, hz.1, hz.2.1, hz.2.2, rfl⟩)
  · cases h
theorem neQ_vals {K : PySem.W.Frag} {F H : Hp} {x y : V} {dx dy : D} {b : Bool} (sf : Same F H) (rx : RpO K F H x dx) (ry : RpO K F H y dy) (h : neQ dx dy = some b) : NeVals K H x y b := by
  unfold neQ at h
  split at h
  · cases h; exact .inl ⟨_, _, rx.str.1, ry.str.1, rfl⟩
  · cases h; exact .inr (.inl ⟨_, _, rx.int, ry.int, rfl⟩)
  · exact eqG_vals sf rx ry h
theorem eqQ_vals {K : PySem.W.Frag} {F H : Hp} {x y : V} {dx dy : D} {b : Bool} (sf : Same F H) (rx : RpO K F H x dx) (ry : RpO K F H y dy) (h : eqQ dx dy = some b) : EqVals K H x y b := by
  unfold eqQ at h
  split at h
  · cases h; exact .inr (.inl ⟨_, _, rx.str.1, ry.str.1, rfl⟩)
  · cases h; exact .inr (.inr (.inl ⟨_, _, rx.int, ry.int, rfl⟩))
  · cases h
    obtain ⟨p, us, e1, t1, _, r1⟩ := rx.tup' sf
    obtain ⟨q, ws, e2, t2, _, r2⟩ := ry.tup' sf
    cases r2
    refine .inl ⟨p, q, us, e1, e2, t1, t2, ?_⟩
    cases r1 <;> rfl
  · exact .inr (eqG_vals sf rx ry h)
theorem om_eq {K : PySem.W.Frag} : OpM K (rEqX K) eqD := by
  intro B F e σ H x y dx dy d Q I rx ry hf q
  obtain ⟨b, h1, h2⟩ := Option.map_eq_some_iff.mp hf
  subst h2
  exact ⟨b, eqQ_vals I.sf rx ry h1, q F _ H (Same.refl F) I (.bl _)⟩
theorem om_ne {K : PySem.W.Frag} : OpM K (rNeX K) neD := by
  intro B F e σ H x y dx dy d Q I rx ry hf q
  obtain ⟨b, h1, h2⟩ := Option.map_eq_some_iff.mp hf
  subst h2
  exact ⟨b, neQ_vals I.sf rx ry h1, q F _ H (Same.refl F) I (.bl _)⟩

/-! ### in -/
def D.fv : D → Option V
  | .non => some .non
  | .bl b => some (.bl b)
  | .int i => some (.int i)
  | .str s => some (.str s)
  | _ => none
def D.fvs : List D → Option (List V)
  | [] => some []
  | d :: ds => d.fv.bind fun v => (D.fvs ds).bind fun vs => some (v :: vs)
theorem fv_rp {K : PySem.W.Frag} {F : Hp} {v w : V} {d : D} (h : Rp K F v d) (e : d.fv = some w) : v = w ∧ flatV v = true := by
  cases h <;> first
    | (cases e; exact ⟨rfl, rfl⟩)
    | cases e
theorem fv_rpo {K : PySem.W.Frag} {F H : Hp} {v w : V} {d : D} (h : RpO K F H v d) (e : d.fv = some w) : v = w ∧ flatV v = true := by
  cases h with
  | rp h => exact fv_rp h e
  | lst _ _ => cases e
  | dic _ _ => cases e
theorem fvs_rps {K : PySem.W.Frag} {F : Hp} : ∀ {vs ws : List V} {ds : List D}, Rps K F vs ds → D.fvs ds = some ws → vs = ws ∧ vs.all flatV = true
  | _, _, _, .nil, e => by cases e; exact ⟨rfl, rfl⟩
  | _, _, _, .cons r t, e => by
    obtain ⟨v, h1, e⟩ := bnd e
    obtain ⟨vs, h2, e⟩ := bnd e
    cases e
    obtain ⟨rfl, f1⟩ := fv_rp r h1
    obtain ⟨rfl, f2⟩ := fvs_rps t h2
    exact ⟨rfl, by rw [List.all_cons, f1, f2]; rfl⟩
def D.key : D → Option Key
  | .int i => some (.inl i)
  | .str s => some (.inr s)
  | _ => none
def lookK {α : Type} (k : Key) : List (Key × α) → Option α
  | [] => none
  | (j, d) :: r => if j = k then some d else lookK k r
def inQ : D → D → Option Bool
  | x, .lst ys => x.fv.bind fun v => (D.fvs ys).bind fun vs => some (inV v vs)
  | x, .tup ys => x.fv.bind fun v => (D.fvs ys).bind fun vs => some (inV v vs)
  | .str a, .str z => match a.cps.toList with
    | [c] => some (decide (c ∈ z.cps.toList))
    | _ => none
  | x, .dic es => x.key.map fun k => (lookK k es).isSome
  | _, _ => none
def inD (x y : D) : Option D := (inQ x y).map .bl
def notInD (x y : D) : Option D := (inQ x y).map fun b => .bl (!b)
def InVals (K : PySem.W.Frag) (H : Hp) (x y : V) (b : Bool) : Prop :=
  (∃ p xs, y = .ref p ∧ (SqL K H p xs ∨ SqT K H p xs) ∧ flatV x = true ∧ xs.all flatV = true ∧ b = inV x xs) ∨ (∃ (c : Nat) (z : Str), x = .str ⟨#[c]⟩ ∧ y = .str z ∧ b = decide (c ∈ z.cps.toList)) ∨
  ∃ a kvs k, y = .ref a ∧ Rd H a (.dK kvs) ∧ x = kV k ∧ b = (valV kvs k).isSome
section
variable {X : Cx}
theorem op_inX (hu : X.A.units + 200 < cLine) : OpR X (compareOp .In) (fun x y H Q => ∃ b, InVals X.K H x y b ∧ Q (.bl b) H) := by
  intro pins s σ H x y v u Q I rx ry h
  obtain ⟨b, h, q⟩ := h
  rcases h with ⟨p, xs, rfl, h1, h2, h3, rfl⟩ | ⟨c, z, rfl, rfl, rfl⟩ | ⟨a, kvs, k, rfl, h1, rfl, rfl⟩
  · exact op_in_seq pins s σ H _ _ v u Q I rx ry ⟨p, xs, rfl, h1, h2, h3, q⟩
  · exact op_in_sign pins s σ H _ _ v u Q I rx ry ⟨c, z, rfl, rfl, q⟩
  · cases ry
    exact d_in (by omega) I (.inl ⟨kvs, k, h1, rfl, rfl⟩) rx fun s3 I3 => ⟨.bl _, H, I3, rfl, q⟩
theorem op_notInX (hu : X.A.units + 200 < cLine) : OpR X (compareOp .NotIn) (fun x y H Q => ∃ b, InVals X.K H x y b ∧ Q (.bl (!b)) H) := by
  intro pins s σ H x y v u Q I rx ry h
  obtain ⟨b, h, q⟩ := h
  rcases h with ⟨p, xs, rfl, h1, h2, h3, rfl⟩ | ⟨c, z, rfl, rfl, rfl⟩ | ⟨a, kvs, k, rfl, h1, rfl, rfl⟩
  · exact op_notIn_seq pins s σ H _ _ v u Q I rx ry ⟨p, xs, rfl, h1, h2, h3, q⟩
  · exact op_notIn_sign pins s σ H _ _ v u Q I rx ry ⟨c, z, rfl, rfl, q⟩
  · cases ry
    exact d_notIn (by omega) I (.inl ⟨kvs, k, h1, rfl, rfl⟩) rx fun s3 I3 => ⟨.bl _, H, I3, rfl, q⟩
end
theorem key_rpo {K : PySem.W.Frag} {F H : Hp} {v : V} {d : D} {k : Key} (h : RpO K F H v d) (e : d.key = some k) : v = kV k := by
  cases h with
  | rp h => cases h <;> first | (cases e; rfl) | cases e
  | lst _ _ => cases e
  | dic _ _ => cases e
theorem valV_cons {k j : Key} {v : V} {r : List (Key × V)} : valV ((j, v) :: r) k = if j = k then some v else valV r k := by
  unfold valV
  rw [List.find?_cons]
  by_cases h : j = k
  · simp [h]
  · simp [h]
theorem look_rpk {K : PySem.W.Frag} {F : Hp} {k : Key} : ∀ {kvs : List (Key × V)} {es : List (Key × D)}, Rpk K F kvs es → (lookK k es = none ∧ valV kvs k = none) ∨ ∃ v d, lookK k es = some d ∧ valV kvs k = some v ∧ Rp K F v d
  | _, _, .nil => .inl ⟨rfl, rfl⟩
  | _, _, .cons (k := j) (v := v) (d := d) r t => by
    rw [valV_cons, lookK]
    by_cases h : j = k
    · rw [if_pos h, if_pos h]
      exact .inr ⟨v, d, rfl, rfl, r⟩
    · rw [if_neg h, if_neg h]
      exact look_rpk t
theorem inQ_vals {K : PySem.W.Frag} {F H : Hp} {x y : V} {dx dy : D} {b : Bool} (sf : Same F H) (rx : RpO K F H x dx) (ry : RpO K F H y dy) (h : inQ dx dy = some b) : InVals K H x y b := by
  unfold inQ at h
  split at h
  · obtain ⟨v, h1, h⟩ := bnd h
    obtain ⟨vs, h2, h⟩ := bnd h
    cases h
    obtain ⟨p, ys, e, t, r⟩ := ry.lst' sf
    obtain ⟨rfl, f1⟩ := fv_rpo rx h1
    obtain ⟨rfl, f2⟩ := fvs_rps r h2
    exact .inl ⟨p, _, e, .inl t, f1, f2, rfl⟩
  · obtain ⟨v, h1, h⟩ := bnd h
    obtain ⟨vs, h2, h⟩ := bnd h
    cases h
    obtain ⟨p, ys, e, t, _, r⟩ := ry.tup' sf
    obtain ⟨rfl, f1⟩ := fv_rpo rx h1
    obtain ⟨rfl, f2⟩ := fvs_rps r h2
    exact .inl ⟨p, _, e, .inr t, f1, f2, rfl⟩
  · rename_i a z
    split at h
    · rename_i c hc
      cases h
      refine .inr (.inl ⟨c, z, ?_, ry.str.1, rfl⟩)
      rw [rx.str.1]
      have : a = ⟨#[c]⟩ := by
        obtain ⟨ar⟩ := a
        have : ar = #[c] := by
          apply Array.toList_inj.mp
          exact hc
        rw [this]
      rw [this]
    · cases h
  · obtain ⟨k, h1, h2⟩ := Option.map_eq_some_iff.mp h
    subst h2
    obtain ⟨a, kvs, e, t, r⟩ := ry.dic' sf
    refine .inr (.inr ⟨a, kvs, k, e, t, key_rpo rx h1, ?_⟩)
    rcases look_rpk (k := k) r with ⟨e1, e2⟩ | ⟨v, d, e1, e2, _⟩
    · rw [e1, e2] <;> rfl
    · rw [e1, e2] <;> rfl
  · cases h
theorem om_in {K : PySem.W.Frag} : OpM K (fun x y H Q => ∃ b, InVals K H x y b ∧ Q (.bl b) H) inD := by
  intro B F e σ H x y dx dy d Q I rx ry hf q
  obtain ⟨b, h1, h2⟩ := Option.map_eq_some_iff.mp hf
  subst h2
  exact ⟨b, inQ_vals I.sf rx ry h1, q F _ H (Same.refl F) I (.bl _)⟩
theorem om_notIn {K : PySem.W.Frag} : OpM K (fun x y H Q => ∃ b, InVals K H x y b ∧ Q (.bl (!b)) H) notInD := by
  intro B F e σ H x y dx dy d Q I rx ry hf q
  obtain ⟨b, h1, h2⟩ := Option.map_eq_some_iff.mp hf
  subst h2
  exact ⟨b, inQ_vals I.sf rx ry h1, q F _ H (Same.refl F) I (.bl _)⟩
end M

namespace M
open PySem PySem.Spec PyProof.Rows L2

/-! ### subscripts -/
def ixD : D → D → Option D
  | .lst xs, .int i => atI xs i
  | .tup xs, .int i => atI xs i
  | .str z, .int i => if z.length ≤ sizeLine then (atI z.cps.toList i).map fun c => .str ⟨#[c]⟩ else none
  | .dic es, k => k.key.bind fun k => lookK k es
  | _, _ => none
theorem atI_rps {K : PySem.W.Frag} {F : Hp} {xs : List V} {ds : List D} {i : Int} {d : D} (r : Rps K F xs ds) (h : atI ds i = some d) : ∃ v, atI xs i = some v ∧ Rp K F v d := by
  unfold atI at h ⊢
  rw [r.length]
  obtain ⟨j, h1, h2⟩ := bnd h
  rw [h1]
  exact r.getD h2
def rIxDic : R2 := fun x y H Q => ∃ a kvs k v, x = .ref a ∧ y = kV k ∧ Rd H a (.dK kvs) ∧ valV kvs k = some v ∧ Q v H
theorem ix_dic {X : Cx} (hu : X.A.units + 200 < cLine) : IxR X rIxDic := by
  intro value slice pins s σ H x y v u Q I rx ry h hs
  obtain ⟨a, kvs, k, w, rfl, rfl, h1, h2, q⟩ := h
  cases rx
  have g : DGet H a (L2.kV k) (some w) := .inl ⟨kvs, k, h1, rfl, h2.symm⟩
  exact tail_any (dict_typeIs I g) PySem.F.slot_dict_getitem.lookup (d_getItem (by omega) I g ry fun w' s3 I3 rw' => ⟨w, H, I3, rw', q⟩) hs
def rIxD (K : PySem.W.Frag) : R2 := fun x y H Q => ((rIxL K x y H Q ∨ rIxT K x y H Q) ∨ rIxS x y H Q) ∨ rIxDic x y H Q
theorem ix_D {X : Cx} (hu : X.A.units + 200 < cLine) : IxR X (rIxD X.K) := ((ix_list.or ix_tup).or ix_str).or (ix_dic hu)
theorem om_ix {K : PySem.W.Frag} : OpM K (rIxD K) ixD := by
  intro B F e σ H x y dx dy d Q I rx ry hf q
  unfold ixD at hf
  split at hf
  · obtain ⟨a, xs, e1, h1, r1⟩ := rx.lst' I.sf
    obtain ⟨v, h2, r2⟩ := atI_rps r1 hf
    exact .inl (.inl (.inl ⟨a, xs, _, v, e1, ry.int, h1, h2, q F v H (Same.refl F) I r2⟩))
  · obtain ⟨a, xs, e1, h1, _, r1⟩ := rx.tup' I.sf
    obtain ⟨v, h2, r2⟩ := atI_rps r1 hf
    exact .inl (.inl (.inr ⟨a, xs, _, v, e1, ry.int, h1, h2, q F v H (Same.refl F) I r2⟩))
  · rename_i z i
    split at hf
    · rename_i hz
      obtain ⟨c, h1, h2⟩ := Option.map_eq_some_iff.mp hf
      subst h2
      obtain ⟨j, _, h3, _⟩ := atI_get h1
      exact .inl (.inr ⟨z, i, c, rx.str.1, ry.int, hz, h1, q F _ H (Same.refl F) I (.str _ (sOk_one rx.str.2 (List.mem_of_getElem? h3)))⟩)
    · cases hf
  · obtain ⟨k, h1, hf⟩ := bnd hf
    obtain ⟨a, kvs, e1, h2, r1⟩ := rx.dic' I.sf
    rcases look_rpk (k := k) r1 with ⟨e2, _⟩ | ⟨v, d', e2, e3, r2⟩
    · rw [hf] at e2; cases e2
    · rw [hf] at e2; cases e2
      exact .inr ⟨a, kvs, k, v, e1, key_rpo ry h1, h2, e3, q F v H (Same.refl F) I r2⟩
  · cases hf

/-! ### slices -/
abbrev FO := Sls → Option (Sls × Option Int)
def DO (K : PySem.W.Frag) (np : Nat) (t : TO) (f : FO) : Prop :=
  ∀ (B : Bs) (F : Hp) (e : Sls) (σ : L2.St) (H : Hp) (Q : Option Int → Hp → Prop), B.np = np → IV K B F e σ H → ∀ (e' : Sls) (o : Option Int), f e = some (e', o) →
    (∀ (F' : Hp) (H' : Hp), Same F F' → IV K B F' e' σ H' → Q o H') → t σ H Q
structure JO (X : Cx) (np : Nat) (e : Option Expr) (t : TO) (f : FO) : Prop where
  po : PO X e t
  de : DO X.K np t f
def fNoPart : FO := fun e => some (e, none)
def fPart (f : FE) : FO := fun e => (f e).bind fun p => match p.2 with | .int i => some (p.1, some i) | _ => none
def cutG {α : Type} (xs : List α) (lo hi : Option Int) : List α := (xs.drop (HT.sIx xs.length 0 lo)).take (HT.sIx xs.length xs.length hi - HT.sIx xs.length 0 lo)
def cutD (d : D) (lo hi : Option Int) : Option D := match d with
  | .lst xs => some (.lst (cutG xs lo hi))
  | .tup xs => some (.tup (cutG xs lo hi))
  | .str z => if z.length ≤ sizeLine then some (.str (cutS z lo hi)) else none
  | _ => none
def fSl (k : FK) (l h : FO) : FE := fun e => (k e).bind fun p => (l p.1).bind fun a => (h a.1).bind fun b => (p.2 b.1).bind fun d => (cutD d a.2 b.2).bind fun c => some (b.1, c)
def rSlD (K : PySem.W.Frag) : V → Option Int → Option Int → Hp → VK → Prop := fun x lo hi H Q => (rSlL K x lo hi H Q ∨ rSlA K x lo hi H Q) ∨ rSlS x lo hi H Q
theorem sl_D {X : Cx} : SlR X (rSlD X.K) := (sl_list.or sl_tupA).or sl_str
theorem cutG_rps {K : PySem.W.Frag} {F : Hp} {xs : List V} {ds : List D} (r : Rps K F xs ds) (lo hi : Option Int) : Rps K F (cutV xs lo hi) (cutG ds lo hi) := by
  unfold cutV cutG
  rw [r.length]
  exact (r.drop _).take _
theorem cutG_all {α : Type} (xs : List α) (lo hi : Option Int) (h : HT.sIx xs.length 0 lo = 0 ∧ HT.sIx xs.length xs.length hi = xs.length) : cutG xs lo hi = xs := by
  unfold cutG
  rw [h.1, h.2]
  simp
theorem sOk_cut {z : Str} (h : sOk z) (lo hi : Option Int) : sOk (cutS z lo hi) := by
  intro c hc
  unfold cutS at hc
  simp only [List.toList_toArray] at hc
  exact h c (List.mem_of_mem_drop (List.mem_of_mem_take hc))
section
variable {X : Cx} {np : Nat}
theorem jo_none : JO X np none tNoPart fNoPart := by
  refine ⟨po_none, fun B F e σ H Q hn I e' o hf q => ?_⟩
  cases hf
  exact q F H (Same.refl F) I
theorem jo_some {a : Expr} {t : TE} {f : FE} (h : JE X np a t f) : JO X np (some a) (tPart t) (fPart f) := by
  refine ⟨po_some h.pe, fun B F e σ H Q hn I e' o hf q => ?_⟩
  obtain ⟨⟨e1, d⟩, h1, hf⟩ := bnd hf
  refine h.de B F e σ H _ hn I e1 d h1 fun F' v H' s I' r => ?_
  cases d with
  | int i => cases hf; cases r; exact ⟨i, rfl, q F' H' s I'⟩
  | _ => cases hf
theorem je_slice {a : Expr} {lo hi : Option Expr} {pos p2 : Pos} {t : TE} {tl th : TO} {k : FK} {l h : FO} (ha : JK X np a t k) (hl : JO X np lo tl l) (hh : JO X np hi th h) : JE X np (.Subscript a (.Slice lo hi none p2) pos) (tSl (rSlD X.K) t tl th) (fSl k l h) := by
  refine ⟨pe_slice sl_D ha.pe hl.po hh.po, fun B F e σ H Q hn I e' d hf q => ?_⟩
  obtain ⟨⟨e1, r⟩, h1, hf⟩ := bnd hf
  obtain ⟨⟨e2, o1⟩, h2, hf⟩ := bnd hf
  obtain ⟨⟨e3, o2⟩, h3, hf⟩ := bnd hf
  obtain ⟨x, h4, hf⟩ := bnd hf
  obtain ⟨c, h5, hf⟩ := bnd hf
  cases hf
  refine ha.de B F e σ H _ hn I e1 r h1 fun F1 v1 H1 s1 I1 l1 => ?_
  refine hl.de B F1 e1 σ H1 _ hn I1 e2 o1 h2 fun F2 H2 s2 I2 => ?_
  refine hh.de B F2 e2 σ H2 _ hn I2 e3 o2 h3 fun F3 H3 s3 I3 => ?_
  have rx := l1 F3 e3 H3 x (s2.trans s3) I3 h4
  have s13 := s1.trans (s2.trans s3)
  unfold cutD at h5
  split at h5
  · cases h5
    obtain ⟨b, xs, e1, t1, r1⟩ := rx.lst' I3.sf
    refine .inl (.inl ⟨b, xs, e1, t1, fun p hp => ?_⟩)
    have sm := same_upd (o := .lst (cutV xs o1 o2)) (I3.free hp).1
    exact q _ _ _ (s13.trans sm) (I3.laid hp) (.lst (.inl (.inl upd_same)) ((cutG_rps r1 o1 o2).mono sm))
  · cases h5
    obtain ⟨b, xs, e1, t1, g1, r1⟩ := rx.tup' I3.sf
    refine .inl (.inr ⟨b, xs, e1, t1, fun z => ?_, fun z p hp => ?_⟩)
    · rw [r1.length] at z
      rw [cutG_all _ _ _ z] at q
      exact q F3 _ H3 s13 I3 (.tup g1 r1)
    · have sm := same_upd (o := .tup (cutV xs o1 o2)) (I3.free hp).1
      exact q _ _ _ (s13.trans sm) (I3.laid hp) (.tup (.inl (.inl upd_same)) ((cutG_rps r1 o1 o2).mono sm))
  · split at h5
    · rename_i z hz
      cases h5
      exact .inr ⟨z, rx.str.1, hz, q F3 _ H3 s13 I3 (.str _ (sOk_cut rx.str.2 _ _))⟩
    · cases h5
  · cases h5
end

/-! ### built-in functions and types -/
section
variable {K : PySem.W.Frag}
theorem RpOs.one {F H : Hp} {xs : List V} {d : D} (h : RpOs K F H xs [d]) : ∃ x, xs = [x] ∧ RpO K F H x d := by
  cases h with
  | cons a b => cases b; exact ⟨_, rfl, a⟩
theorem RpOs.two {F H : Hp} {xs : List V} {d e : D} (h : RpOs K F H xs [d, e]) : ∃ x y, xs = [x, y] ∧ RpO K F H x d ∧ RpO K F H y e := by
  cases h with
  | cons a b => cases b with | cons b c => cases c; exact ⟨_, _, rfl, a, b⟩
def lenD : List D → Option D
  | [.str z] => if z.length ≤ sizeLine then some (.int z.length) else none
  | [.lst xs] => some (.int xs.length)
  | [.tup xs] => some (.int xs.length)
  | [.dic xs] => some (.int xs.length)
  | _ => none
def rLenDic : List V → Hp → VK → Prop := fun xs H Q => ∃ a kvs, xs = [V.ref a] ∧ Rd H a (.dK kvs) ∧ Q (.int kvs.length) H
theorem call_lenR {X : Cx} : CallR X (.builtin "len") rLenDic := by
  intro pins s σ H xs us Q I r h
  obtain ⟨a, kvs, rfl, ha, q⟩ := h
  obtain ⟨u, rfl, ru⟩ := vals1 r
  cases ru
  exact d_len I ha fun t s' I' => ⟨.int kvs.length, H, I', ⟨t, rfl⟩, q⟩
def rLenX (K : PySem.W.Frag) : List V → Hp → VK → Prop := fun xs H Q => (∃ x n, xs = [x] ∧ LenV K x H n ∧ Q (.int n) H) ∨ rLenDic xs H Q
theorem call_lenX {X : Cx} : CallR X (.builtin "len") (rLenX X.K) := call_len.or call_lenR
theorem Rpk.length {F : Hp} : ∀ {xs : List (Key × V)} {ds : List (Key × D)}, Rpk K F xs ds → xs.length = ds.length
  | _, _, .nil => rfl
  | _, _, .cons _ r => congrArg (· + 1) (Rpk.length r)
theorem cm_len : CallM K (rLenX K) lenD := by
  intro B F e σ H xs ds d Q I r hf q
  unfold lenD at hf
  split at hf
  · split at hf
    · rename_i z hz
      cases hf
      obtain ⟨x, rfl, rx⟩ := r.one
      refine .inl ⟨x, _, rfl, ?_, q F _ H (Same.refl F) I (.int _)⟩
      rw [rx.str.1]
      exact ⟨hz, rfl⟩
    · cases hf
  · cases hf
    obtain ⟨x, rfl, rx⟩ := r.one
    obtain ⟨a, ys, e1, t1, r1⟩ := rx.lst' I.sf
    refine .inl ⟨x, _, rfl, ?_, q F _ H (Same.refl F) I (.int _)⟩
    rw [e1]
    exact .inl ⟨ys, t1, r1.length.symm⟩
  · cases hf
    obtain ⟨x, rfl, rx⟩ := r.one
    obtain ⟨a, ys, e1, t1, _, r1⟩ := rx.tup' I.sf
    refine .inl ⟨x, _, rfl, ?_, q F _ H (Same.refl F) I (.int _)⟩
    rw [e1]
    exact .inr ⟨ys, t1, r1.length.symm⟩
  · cases hf
    obtain ⟨x, rfl, rx⟩ := r.one
    obtain ⟨a, ys, e1, t1, r1⟩ := rx.dic' I.sf
    refine .inr ⟨a, ys, by rw [e1], t1, ?_⟩
    rw [r1.length]
    exact q F _ H (Same.refl F) I (.int _)
  · cases hf
def intOfD : List D → Option D
  | [.int i] => some (.int i)
  | [.bl b] => some (.int (if b then 1 else 0))
  | _ => none
theorem cm_int : CallM K (fun xs H Q => (∃ i, xs = [.int i] ∧ Q (.int i) H) ∨ ∃ k, xs = [.bl k] ∧ Q (.int (if k then 1 else 0)) H) intOfD := by
  intro B F e σ H xs ds d Q I r hf q
  unfold intOfD at hf
  split at hf
  · cases hf
    obtain ⟨x, rfl, rx⟩ := r.one
    exact .inl ⟨_, by rw [rx.int], q F _ H (Same.refl F) I (.int _)⟩
  · cases hf
    obtain ⟨x, rfl, rx⟩ := r.one
    exact .inr ⟨_, by rw [rx.bl], q F _ H (Same.refl F) I (.int _)⟩
  · cases hf
def maxD : List D → Option D
  | [.int i, .int j] => some (.int (if j > i then j else i))
  | _ => none
theorem cm_max : CallM K (fun xs H Q => ∃ i j, xs = [.int i, .int j] ∧ Q (.int (if j > i then j else i)) H) maxD := by
  intro B F e σ H xs ds d Q I r hf q
  unfold maxD at hf
  split at hf
  · cases hf
    obtain ⟨x, y, rfl, rx, ry⟩ := r.two
    exact ⟨_, _, by rw [rx.int, ry.int], q F _ H (Same.refl F) I (.int _)⟩
  · cases hf
def minD : List D → Option D
  | [.int i, .int j] => some (.int (if j < i then j else i))
  | _ => none
theorem cm_min : CallM K (fun xs H Q => ∃ i j, xs = [.int i, .int j] ∧ Q (.int (if j < i then j else i)) H) minD := by
  intro B F e σ H xs ds d Q I r hf q
  unfold minD at hf
  split at hf
  · cases hf
    obtain ⟨x, y, rfl, rx, ry⟩ := r.two
    exact ⟨_, _, by rw [rx.int, ry.int], q F _ H (Same.refl F) I (.int _)⟩
  · cases hf
def tupD : List D → Option D
  | [.lst xs] => some (.tup xs)
  | [.tup xs] => some (.tup xs)
  | _ => none
theorem cm_tup : CallM K (fun xs H Q => ∃ p ys, xs = [.ref p] ∧ ((SqL K H p ys ∧ ∀ l, H l = none → Q (.ref l) (upd H l (.tup ys))) ∨ (SqT K H p ys ∧ Q (.ref p) H))) tupD := by
  intro B F e σ H xs ds d Q I r hf q
  unfold tupD at hf
  split at hf
  · cases hf
    obtain ⟨x, rfl, rx⟩ := r.one
    obtain ⟨a, ys, e1, t1, r1⟩ := rx.lst' I.sf
    refine ⟨a, ys, by rw [e1], .inl ⟨t1, fun p hp => ?_⟩⟩
    have sm := same_upd (o := .tup ys) (I.free hp).1
    exact q _ _ _ sm (I.laid hp) (.tup (.inl (.inl upd_same)) (r1.mono sm))
  · cases hf
    obtain ⟨x, rfl, rx⟩ := r.one
    obtain ⟨a, ys, e1, t1, g1, r1⟩ := rx.tup' I.sf
    exact ⟨a, ys, by rw [e1], .inr ⟨t1, q F _ H (Same.refl F) I (.tup g1 r1)⟩⟩
  · cases hf
def lstD : List D → Option D
  | [.lst xs] => some (.lst xs)
  | [.tup xs] => some (.lst xs)
  | _ => none
theorem cm_lst : CallM K (fun xs H Q => ∃ p ys, xs = [.ref p] ∧ (SqL K H p ys ∨ SqT K H p ys) ∧ ∀ l, H l = none → Q (.ref l) (upd H l (.lst ys))) lstD := by
  intro B F e σ H xs ds d Q I r hf q
  unfold lstD at hf
  split at hf
  · cases hf
    obtain ⟨x, rfl, rx⟩ := r.one
    obtain ⟨a, ys, e1, t1, r1⟩ := rx.lst' I.sf
    refine ⟨a, ys, by rw [e1], .inl t1, fun p hp => ?_⟩
    have sm := same_upd (o := .lst ys) (I.free hp).1
    exact q _ _ _ sm (I.laid hp) (.lst (.inl (.inl upd_same)) (r1.mono sm))
  · cases hf
    obtain ⟨x, rfl, rx⟩ := r.one
    obtain ⟨a, ys, e1, t1, g1, r1⟩ := rx.tup' I.sf
    refine ⟨a, ys, by rw [e1], .inr t1, fun p hp => ?_⟩
    have sm := same_upd (o := .lst ys) (I.free hp).1
    exact q _ _ _ sm (I.laid hp) (.lst (.inl (.inl upd_same)) (r1.mono sm))
  · cases hf
def bools : List D → Option (List Bool)
  | [] => some []
  | .bl b :: r => (bools r).map (b :: ·)
  | _ => none
theorem bools_rps {F : Hp} : ∀ {xs : List V} {ds : List D} {bs : List Bool}, Rps K F xs ds → bools ds = some bs → xs = bs.map V.bl
  | _, _, _, .nil, h => by cases h; rfl
  | _, _, _, .cons (d := d) r t, h => by
    cases d with
    | bl b =>
      obtain ⟨bs, h1, h2⟩ := Option.map_eq_some_iff.mp h
      subst h2
      cases r
      rw [bools_rps t h1]
      rfl
    | _ => cases h
def allD : List D → Option D
  | [.lst xs] => (bools xs).map fun bs => .bl (bs.all id)
  | _ => none
def anyD : List D → Option D
  | [.lst xs] => (bools xs).map fun bs => .bl (bs.any id)
  | _ => none
theorem cm_all : CallM K (rAll K) allD := by
  intro B F e σ H xs ds d Q I r hf q
  unfold allD at hf
  split at hf
  · obtain ⟨bs, h1, h2⟩ := Option.map_eq_some_iff.mp hf
    subst h2
    obtain ⟨x, rfl, rx⟩ := r.one
    obtain ⟨a, ys, e1, t1, r1⟩ := rx.lst' I.sf
    rw [bools_rps r1 h1] at t1
    exact ⟨a, bs, by rw [e1], t1, q F _ H (Same.refl F) I (.bl _)⟩
  · cases hf
theorem cm_any : CallM K (rAny K) anyD := by
  intro B F e σ H xs ds d Q I r hf q
  unfold anyD at hf
  split at hf
  · obtain ⟨bs, h1, h2⟩ := Option.map_eq_some_iff.mp hf
    subst h2
    obtain ⟨x, rfl, rx⟩ := r.one
    obtain ⟨a, ys, e1, t1, r1⟩ := rx.lst' I.sf
    rw [bools_rps r1 h1] at t1
    exact ⟨a, bs, by rw [e1], t1, q F _ H (Same.refl F) I (.bl _)⟩
  · cases hf
/-! isinstance -/
def D.cls : D → Option String
  | .non => some "NoneType"
  | .bl _ => some "bool"
  | .int _ => some "int"
  | .str _ => some "str"
  | .lst _ => some "list"
  | .tup _ => some "tuple"
  | .dic _ => some "dict"
  | _ => none
def isaQ : String → String → Option Bool
  | "str", "str" => some true
  | "list", "list" => some true
  | "tuple", "tuple" => some true
  | "dict", "dict" => some true
  | "int", "int" => some true
  | "bool", "bool" => some true
  | "bool", "int" => some true
  | a, b => if a ∈ ["NoneType", "bool", "int", "str", "list", "tuple", "dict"] ∧ b ∈ ["bool", "int", "str", "list", "tuple", "dict"] then some false else none
def isaD : List D → Option D
  | [d, .ty T] => d.cls.bind fun c => (isaQ c T).map .bl
  | _ => none
theorem tyX_of {F H : Hp} {x : V} {d : D} {c : String} (sf : Same F H) (r : RpO K F H x d) (h : d.cls = some c) : TyX K H x (.type c) := by
  cases d with
  | non => cases h; rw [r.non]; exact .base .non
  | bl b => cases h; rw [r.bl]; exact .base (.bl _)
  | int b => cases h; rw [r.int]; exact .base (.int _)
  | str b => cases h; rw [r.str.1]; exact .base (.str _)
  | lst ds =>
    cases h
    obtain ⟨a, xs, rfl, t, _⟩ := r.lst' sf
    rcases t with (t | ⟨o, t⟩) | ⟨o, its, n, k, c, _⟩
    · exact .base (.lst t)
    · exact .base (.frz t)
    · exact .kList k c
  | tup ds =>
    cases h
    obtain ⟨a, xs, rfl, t, _⟩ := r.tup' sf
    rcases t with (t | ⟨o, t⟩) | ⟨o, its, n, k, c, _⟩
    · exact .base (.tup t)
    · exact .fTuple t
    · exact .kTuple k c
  | dic ds =>
    cases h
    obtain ⟨a, xs, rfl, t, _⟩ := r.dic' sf
    rcases t with t | ⟨o, t⟩
    · exact .base (.dK t)
    · exact .fDict t
  | ty n => cases h
  | fn a => cases h
  | ob c es => cases h
end
end M

namespace M
open PySem PySem.Spec PyProof.Rows L2

theorem isa_kit {K : PySem.W.Frag} {a b : String} {r : Bool} (h : isaQ a b = some r) : PySem.W.kitOne K (.type a) (.type b) = some r := by
  apply kit_ty
  unfold isaQ at h
  split at h
  all_goals first
    | (cases h; decide +kernel)
    | (split at h
       · rename_i hm
         cases h
         obtain ⟨h1, h2⟩ := hm
         simp only [List.mem_cons, List.not_mem_nil, or_false] at h1 h2
         rcases h1 with rfl | rfl | rfl | rfl | rfl | rfl | rfl <;> rcases h2 with rfl | rfl | rfl | rfl | rfl | rfl <;> first
           | decide +kernel
           | (exfalso; simp_all)
       · cases h)
theorem cm_isa {K : PySem.W.Frag} : CallM K (rIsi K) isaD := by
  intro B F e σ H xs ds d Q I r hf q
  unfold isaD at hf
  split at hf
  · obtain ⟨c, h1, hf⟩ := bnd hf
    obtain ⟨k, h2, h3⟩ := Option.map_eq_some_iff.mp hf
    subst h3
    obtain ⟨x, y, rfl, rx, ry⟩ := r.two
    exact ⟨x, _, _, _, k, by rw [ry.ty], .ty _, tyX_of I.sf rx h1, isa_kit h2, q F _ H (Same.refl F) I (.bl _)⟩
  · cases hf
theorem je_ty {X : Cx} {np : Nat} {x : Str} {T : String} {pos : Pos} (hg : Gl X x) (hm : X.mg x = none) (hv : bootBuiltins x = some (.type T)) (hn : x ≠ "__name__" := by decide) (hd : (x == ("__debug__" : Str)) = false := by decide) :
    JE X np (.Name x pos) (tC (.ty T)) (fC (.ty T)) := je_c (pe_bltn hg hm hv (show RelV (.ty T) _ from rfl) hn hd) fun _ => .ty T

/-! ### methods of texts -/
def strsOf : List D → Option (List Str)
  | [] => some []
  | .str s :: r => (strsOf r).map (s :: ·)
  | _ => none
theorem strs_rps {K : PySem.W.Frag} {F : Hp} : ∀ {xs : List V} {ds : List D} {ss : List Str}, Rps K F xs ds → strsOf ds = some ss → xs = ss.map V.str ∧ ∀ s ∈ ss, sOk s
  | _, _, _, .nil, h => by cases h; exact ⟨rfl, fun _ z => nomatch z⟩
  | _, _, _, .cons (d := d) r t, h => by
    cases d with
    | str b =>
      obtain ⟨bs, h1, h2⟩ := Option.map_eq_some_iff.mp h
      subst h2
      cases r with
      | str _ hb =>
        obtain ⟨e, f⟩ := strs_rps t h1
        refine ⟨by rw [e]; rfl, fun s hs => ?_⟩
        rcases List.mem_cons.mp hs with z | z
        · rw [z]; exact hb
        · exact f s z
    | _ => cases h
def joinD (x y : D) : Option D := match x, y with
  | .str a, .lst ds => (strsOf ds).bind fun ys => if (ys.map (·.length)).sum + ys.length * a.length ≤ 16777216 then some (.str (Str.join a ys)) else none
  | _, _ => none
def upperD (x : D) : Option D := match x with
  | .str a => if (∀ c ∈ a.cps.toList, c < 128) ∧ a.length ≤ 5592405 then some (.str (Txt.upper a)) else none
  | _ => none
def fM1 (g : D → D → Option D) (k l : FK) : FE := fun e => (k e).bind fun p => match p.2 p.1 with
  | some (.str a) => (l p.1).bind fun q => (q.2 q.1).bind fun y => (g (.str a) y).bind fun d => some (q.1, d)
  | _ => none
def fM0 (g : D → Option D) (k : FK) : FE := fun e => (k e).bind fun p => match p.2 p.1 with
  | some (.str a) => (g (.str a)).bind fun d => some (p.1, d)
  | _ => none
/-- a text's method of one argument, of none -/
def M1M (K : PySem.W.Frag) (r : V → List V → Hp → VK → Prop) (g : D → D → Option D) : Prop :=
  ∀ (B : Bs) (F : Hp) (e : Sls) (σ : L2.St) (H : Hp) (a : Str) (y : V) (dy d : D) (Q : VK), IV K B F e σ H → sOk a → RpO K F H y dy → g (.str a) dy = some d →
    (∀ (F' : Hp) (v : V) (H' : Hp), Same F F' → IV K B F' e σ H' → Rp K F' v d → Q v H') → r (.str a) [y] H Q
def M0M (K : PySem.W.Frag) (r : V → List V → Hp → VK → Prop) (g : D → Option D) : Prop :=
  ∀ (B : Bs) (F : Hp) (e : Sls) (σ : L2.St) (H : Hp) (a : Str) (d : D) (Q : VK), IV K B F e σ H → sOk a → g (.str a) = some d →
    (∀ (F' : Hp) (v : V) (H' : Hp), Same F F' → IV K B F' e σ H' → Rp K F' v d → Q v H') → r (.str a) [] H Q
section
variable {X : Cx} {np : Nat} {o a : Expr} {to te : TE} {k l : FK} {id : String} {name : Str} {apos pos : Pos} {r : V → List V → Hp → VK → Prop}
theorem je_m1 {g : D → D → Option D} (slot : Slot "str" name id) (ty : typeOf (.builtin id) = pure (.type "method_descriptor")) (rule : MtR X id r) (hm : M1M X.K r g) (ho : JK X np o to k) (ha : JK X np a te l)
    (hs : starEach [a] X.env = [(false, eval a X.env)] := by rfl) (hbase : attributeBase o name X.env (eval o X.env) = eval o X.env := by rfl) (hline : (apos.endLine == pos.line) = true := by rfl) :
    JE X np (.Call (.Attribute o name apos) [a] [] pos) (tM1 r to te) (fM1 g k l) := by
  refine ⟨pe_m1 slot ty rule ho.pe ha.pe hs hbase hline, fun B F e σ H Q hn I e' d hf q => ?_⟩
  obtain ⟨⟨e1, r1⟩, h1, hf⟩ := bnd hf
  split at hf
  · rename_i z hz
    obtain ⟨⟨e2, r2⟩, h2, hf⟩ := bnd hf
    obtain ⟨y, h3, hf⟩ := bnd hf
    obtain ⟨d', h4, hf⟩ := bnd hf
    cases hf
    refine ho.de B F e σ H _ hn I e1 r1 h1 fun F1 v1 H1 s1 I1 l1 => ?_
    have rx := l1 F1 e1 H1 _ (Same.refl _) I1 hz
    rw [rx.str.1]
    refine ⟨⟨z, rfl⟩, ha.de B F1 e1 σ H1 _ hn I1 e2 r2 h2 fun F2 v2 H2 s2 I2 l2 => ?_⟩
    exact hm B F2 e2 σ H2 z v2 y d Q I2 rx.str.2 (l2 F2 e2 H2 y (Same.refl _) I2 h3) h4 fun F' v H' s I' rp => q F' v H' (s1.trans (s2.trans s)) I' rp
  · cases hf
theorem je_m0 {g : D → Option D} (slot : Slot "str" name id) (ty : typeOf (.builtin id) = pure (.type "method_descriptor")) (rule : MtR X id r) (hm : M0M X.K r g) (ho : JK X np o to k)
    (hbase : attributeBase o name X.env (eval o X.env) = eval o X.env := by rfl) (hline : (apos.endLine == pos.line) = true := by rfl) :
    JE X np (.Call (.Attribute o name apos) [] [] pos) (tM0 r to) (fM0 g k) := by
  refine ⟨pe_m0 slot ty rule ho.pe hbase hline, fun B F e σ H Q hn I e' d hf q => ?_⟩
  obtain ⟨⟨e1, r1⟩, h1, hf⟩ := bnd hf
  split at hf
  · rename_i z hz
    obtain ⟨d', h4, hf⟩ := bnd hf
    cases hf
    refine ho.de B F e σ H _ hn I e1 r1 h1 fun F1 v1 H1 s1 I1 l1 => ?_
    have rx := l1 F1 e1 H1 _ (Same.refl _) I1 hz
    rw [rx.str.1]
    exact ⟨⟨z, rfl⟩, hm B F1 e1 σ H1 z d Q I1 rx.str.2 h4 fun F' v H' s I' rp => q F' v H' (s1.trans s) I' rp⟩
  · cases hf
end
theorem sOk_ofString (s : String) : sOk (Str.ofString s) := by
  intro c hc
  rw [Str.ofString_eq_toList] at hc
  simp only [List.toList_toArray, List.mem_map] at hc
  obtain ⟨x, _, rfl⟩ := hc
  have h := x.valid
  simp only [UInt32.isValidChar, Nat.isValidChar] at h
  show x.val.toNat < 1114112
  omega
theorem sOk_join {a : Str} (ha : sOk a) : ∀ {ys : List Str}, (∀ s ∈ ys, sOk s) → sOk (Str.join a ys)
  | [], _ => fun c hc => nomatch (show c ∈ ([] : List Nat) from hc)
  | [x], h => h x (by simp)
  | x :: y :: r, h => sOk_append (a := x ++ a) (b := Str.join a (y :: r)) (sOk_append (h x (by simp)) ha) (sOk_join ha fun s hs => h s (List.mem_cons_of_mem _ hs))
theorem mm_join {K : PySem.W.Frag} : M1M K (fun x xs H Q => ∃ a p, ∃ ys : List Str, x = .str a ∧ xs = [.ref p] ∧ (SqL K H p (ys.map V.str) ∨ SqT K H p (ys.map V.str)) ∧
    (ys.map (·.length)).sum + ys.length * a.length ≤ 16777216 ∧ Q (.str (Txt.join a ys)) H) joinD := by
  intro B F e σ H a y dy d Q I ha ry hf q
  unfold joinD at hf
  split at hf
  · rename_i b ds hab
    cases hab
    obtain ⟨ys, h1, hf⟩ := bnd hf
    split at hf
    · rename_i hz
      cases hf
      obtain ⟨p, xs, e1, t1, r1⟩ := ry.lst' I.sf
      obtain ⟨e2, ok⟩ := strs_rps r1 h1
      subst e2
      refine ⟨a, p, ys, rfl, by rw [e1], .inl t1, hz, ?_⟩
      rw [show Txt.join a ys = Str.join a ys from TL.join_eq a ys]
      exact q F _ H (Same.refl F) I (.str _ (sOk_join ha ok))
    · cases hf
  · cases hf
theorem mm_upper {K : PySem.W.Frag} : M0M K (fun x xs H Q => ∃ a, x = .str a ∧ xs = [] ∧ a.length ≤ 5592405 ∧ Q (.str (Txt.upper a)) H) upperD := by
  intro B F e σ H a d Q I ha hf q
  unfold upperD at hf
  simp only at hf
  split at hf
  · rename_i hz
    cases hf
    refine ⟨a, rfl, rfl, hz.2, q F _ H (Same.refl F) I (.str _ ?_)⟩
    rw [upper_ascii hz.1]
    intro c hc
    simp only [Array.toList_map, List.mem_map] at hc
    obtain ⟨b, hb, rfl⟩ := hc
    have := hz.1 b hb
    unfold up1
    split <;> omega
  · cases hf
def strOfD : List D → Option D
  | [.int i] => if i.natAbs.log2 < 1920 then some (.str (Str.ofString (toString i))) else none
  | _ => none
theorem cm_str {K : PySem.W.Frag} : CallM K (fun xs H Q => ∃ i : Int, xs = [.int i] ∧ i.natAbs.log2 < 1920 ∧ Q (.str (toString i)) H) strOfD := by
  intro B F e σ H xs ds d Q I r hf q
  unfold strOfD at hf
  split at hf
  · split at hf
    · rename_i hz
      cases hf
      obtain ⟨x, rfl, rx⟩ := r.one
      exact ⟨_, by rw [rx.int], hz, q F _ H (Same.refl F) I (.str _ (sOk_ofString _))⟩
    · cases hf
  · cases hf
end M

namespace M
open PySem PySem.Spec PyProof.Rows L2

/-! ### what is walked -/
def ItOk (K : PySem.W.Frag) (F : Hp) (J : It) (ds : List D) : Prop :=
  ∀ (F2 : Hp) (B : Bs) (e : Sls) (σ : L2.St) (H : Hp), Same F F2 → IV K B F2 e σ H → (∀ i, i < ds.length → J.go i H) ∧ J.stop ds.length H ∧
    ∀ i x H2, i < ds.length → J.yld i H x H2 → ∃ F3 d, Same F2 F3 ∧ IV K B F3 e σ H2 ∧ ds[i]? = some d ∧ Rp K F3 x d
abbrev FI := Sls → Option (Sls × List D)
def DI (K : PySem.W.Frag) (np : Nat) (wi : TI) (f : FI) : Prop :=
  ∀ (B : Bs) (F : Hp) (e : Sls) (σ : L2.St) (H : Hp) (R : It → Hp → Prop), B.np = np → IV K B F e σ H → ∀ (e' : Sls) (ds : List D), f e = some (e', ds) →
    (∀ (F' : Hp) (J : It) (H' : Hp), Same F F' → IV K B F' e' σ H' → ItOk K F' J ds → R J H') → wi σ H R
structure JI (X : Cx) (np : Nat) (tg iter : Expr) (wi : TI) (f : FI) : Prop where
  pi : PI X tg iter wi
  de : DI X.K np wi f
def chars (z : Str) : List D := z.cps.toList.map fun c => .str ⟨#[c]⟩
def fIt (f : FE) : FI := fun e => (f e).bind fun p => match p.2 with
  | .lst ds => some (p.1, ds)
  | .tup ds => some (p.1, ds)
  | .str z => some (p.1, chars z)
  | _ => none
def iSeq (K : PySem.W.Frag) (t : TE) : TI := fun σ H R => (iList K t σ H R ∨ iTup K t σ H R) ∨ iStr t σ H R
theorem pi_or {X : Cx} {tg it : Expr} {w1 w2 : TI} (h1 : PI X tg it w1) (h2 : PI X tg it w2) : PI X tg it (fun σ H R => w1 σ H R ∨ w2 σ H R) := by
  refine ⟨fun pins s σ H R I h => ?_⟩
  rcases h with h | h
  · exact h1.run pins s σ H R I h
  · exact h2.run pins s σ H R I h
theorem itOk_list {K : PySem.W.Frag} {F : Hp} {a : Addr} {xs : List V} {ds : List D} (h : SqL K F a xs) (r : Rps K F xs ds) : ItOk K F (Itl K a) ds := by
  intro F2 B e σ H s I
  have hq : SqL K H a xs := I.sf.seq (s.seq h)
  have l := r.length
  refine ⟨fun i hi => ⟨xs, xs[i]'(by omega), hq, by simp [l, hi]⟩, ⟨xs, hq, by omega⟩, fun i x H2 hi y => ?_⟩
  obtain ⟨rfl, y⟩ := y
  obtain ⟨d, h1, h2⟩ := (r.mono s).get (y xs hq)
  exact ⟨F2, d, Same.refl _, I, h1, h2⟩
theorem itOk_tup {K : PySem.W.Frag} {F : Hp} {a : Addr} {xs : List V} {ds : List D} (h : SqT K F a xs) (r : Rps K F xs ds) : ItOk K F (Itt K a) ds := by
  intro F2 B e σ H s I
  have hq : SqT K H a xs := sqt_mono I.sf (sqt_mono s h)
  have l := r.length
  refine ⟨fun i hi => ⟨xs, xs[i]'(by omega), hq, by simp [l, hi]⟩, ⟨xs, hq, by omega⟩, fun i x H2 hi y => ?_⟩
  obtain ⟨rfl, y⟩ := y
  obtain ⟨d, h1, h2⟩ := (r.mono s).get (y xs hq)
  exact ⟨F2, d, Same.refl _, I, h1, h2⟩
theorem itOk_str {K : PySem.W.Frag} {F : Hp} {z : Str} (h : sOk z) : ItOk K F (Its z) (chars z) := by
  intro F2 B e σ H s I
  have l : (chars z).length = z.cps.size := by unfold chars; simp
  refine ⟨fun i hi => by rw [l] at hi; exact hi, Nat.le_of_eq l.symm, fun i x H2 hi y => ?_⟩
  obtain ⟨rfl, c, hc, rfl⟩ := y
  have hc' : z.cps.toList[i]? = some c := by rw [Array.getElem?_toList]; exact hc
  refine ⟨F2, .str ⟨#[c]⟩, Same.refl _, I, ?_, .str _ (sOk_one h (List.mem_of_getElem? hc'))⟩
  unfold chars
  rw [List.getElem?_map, hc'] <;> rfl
def rngD (lo : Int) (n : Nat) : List D := (List.range n).map fun i => .int (lo + (i : Nat))
theorem itOk_range {K : PySem.W.Frag} {F : Hp} {lo : Int} {n : Nat} : ItOk K F (Itr lo n) (rngD lo n) := by
  intro F2 B e σ H s I
  have l : (rngD lo n).length = n := by unfold rngD; simp
  refine ⟨fun i hi => by rw [l] at hi; exact hi, Nat.le_of_eq l.symm, fun i x H2 hi y => ?_⟩
  obtain ⟨rfl, rfl⟩ := y
  rw [l] at hi
  refine ⟨F2, .int (lo + (i : Nat)), Same.refl _, I, ?_, .int _⟩
  unfold rngD
  rw [List.getElem?_map, List.getElem?_range hi] <;> rfl
/-- (told so that the kernel does not go through a great literal one by one) -/
def rngB : Int → Bool
  | .ofNat n => Nat.ble n 8000000
  | .negSucc n => Nat.ble n 8000000
theorem rngB_of {j : Int} (h : rngB j = true) : -(2 ^ 62) ≤ j ∧ j < 2 ^ 62 := by
  have key : ∀ n : Nat, Nat.ble n 8000000 = true → n ≤ 8000000 := fun n h => Nat.le_of_ble_eq_true h
  cases j with
  | ofNat n => have := key n h; exact ⟨by have : (0 : Int) ≤ Int.ofNat n := Int.natCast_nonneg n; omega, by have : Int.ofNat n ≤ 8000000 := Int.ofNat_le.mpr this; omega⟩
  | negSucc n =>
    have := key n h
    have e : Int.negSucc n = -((n : Int) + 1) := by omega
    have l : (n : Int) ≤ 8000000 := Int.ofNat_le.mpr this
    have g : (0 : Int) ≤ n := Int.natCast_nonneg n
    rw [e]
    generalize (n : Int) = k at l g
    exact ⟨by omega, by omega⟩
theorem rngB_n {n : Nat} (h : n ≤ 8000000) : rngB (n : Int) = true := Nat.ble_eq_true_of_le h
theorem rngB_i {j : Int} (h0 : 0 ≤ j) (h : j ≤ 8000000) : rngB j = true := by
  obtain ⟨n, rfl⟩ := Int.eq_ofNat_of_zero_le h0
  exact rngB_n (Int.ofNat_le.mp h)
def fRng1 (k : FKs) : FI := fun e => (k e).bind fun p => match p.2 p.1 with
  | some [.int j] => if rngB j = true then some (p.1, rngD 0 j.toNat) else none
  | _ => none
def fRng2 (k : FKs) : FI := fun e => (k e).bind fun p => match p.2 p.1 with
  | some [.int i, .int j] => if rngB i = true ∧ rngB j = true then some (p.1, rngD i (j - i).toNat) else none
  | _ => none
section
variable {X : Cx} {np : Nat} {tg a b : Expr} {t : TE} {ta : TA} {f : FE} {k : FKs} {p pos : Pos}
theorem ji_seq (h : JE X np a t f) : JI X np tg a (iSeq X.K t) (fIt f) := by
  refine ⟨pi_or (pi_or (pi_list h.pe) (pi_tup h.pe)) (pi_str h.pe), fun B F e σ H R hn I e' ds hf q => ?_⟩
  obtain ⟨⟨e1, d⟩, h1, hf⟩ := bnd hf
  cases d with
  | lst ds =>
    cases hf
    refine .inl (.inl (h.de B F e σ H _ hn I e1 _ h1 fun F' v H' s I' r => ?_))
    cases r with
    | lst r1 r2 => exact ⟨_, rfl, ⟨_, I'.sf.seq r1⟩, q F' _ H' s I' (itOk_list r1 r2)⟩
  | tup ds =>
    cases hf
    refine .inl (.inr (h.de B F e σ H _ hn I e1 _ h1 fun F' v H' s I' r => ?_))
    cases r with
    | tup r1 r2 => exact ⟨_, rfl, ⟨_, sqt_mono I'.sf r1⟩, q F' _ H' s I' (itOk_tup r1 r2)⟩
  | str z =>
    cases hf
    refine .inr (h.de B F e σ H _ hn I e1 _ h1 fun F' v H' s I' r => ?_)
    cases r with
    | str _ hz => exact ⟨_, rfl, q F' _ H' s I' (itOk_str hz)⟩
  | _ => cases hf
theorem ji_range1 (hg : Gl X "range") (hm : X.mg "range" = none) (ha : JKs X np [a] ta k) (hs : starEach [a] X.env = [(false, eval a X.env)] := by rfl) : JI X np tg (.Call (.Name "range" p) [a] [] pos) (iRng1 ta) (fRng1 k) := by
  refine ⟨pi_range1 hg hm ha.pa hs, fun B F e σ H R hn I e' ds hf q => ?_⟩
  obtain ⟨⟨e1, r⟩, h1, hf⟩ := bnd hf
  refine ha.de B F e σ H _ hn I e1 r h1 fun F' vs H' s I' l => ?_
  split at hf
  · rename_i j hj
    split at hf
    · rename_i hb
      cases hf
      obtain ⟨x, e2, rx⟩ := (l F' e1 H' _ (Same.refl _) I' hj).one
      exact ⟨j, by rw [e2, rx.int], (rngB_of hb).1, (rngB_of hb).2, q F' _ H' s I' itOk_range⟩
    · cases hf
  · cases hf
theorem ji_range2 (hg : Gl X "range") (hm : X.mg "range" = none) (ha : JKs X np [a, b] ta k) (hs : starEach [a, b] X.env = [(false, eval a X.env), (false, eval b X.env)] := by rfl) (hs2 : starEach [b] X.env = [(false, eval b X.env)] := by rfl) :
    JI X np tg (.Call (.Name "range" p) [a, b] [] pos) (iRng2 ta) (fRng2 k) := by
  refine ⟨pi_range2 hg hm ha.pa hs hs2, fun B F e σ H R hn I e' ds hf q => ?_⟩
  obtain ⟨⟨e1, r⟩, h1, hf⟩ := bnd hf
  refine ha.de B F e σ H _ hn I e1 r h1 fun F' vs H' s I' l => ?_
  split at hf
  · rename_i i j hj
    split at hf
    · rename_i hb
      cases hf
      obtain ⟨x, y, e2, rx, ry⟩ := (l F' e1 H' _ (Same.refl _) I' hj).two
      exact ⟨i, j, by rw [e2, rx.int, ry.int], ⟨(rngB_of hb.1).1, (rngB_of hb.1).2, (rngB_of hb.2).1, (rngB_of hb.2).2⟩, q F' _ H' s I' itOk_range⟩
    · cases hf
  · cases hf
/-- a new pair at each turn -/
theorem itOk_pairs {K : PySem.W.Frag} {F : Hp} {J : It} {ds : List D} {xs ys : Nat → Option V} (w : ∀ H, Same F H → Walk J ds.length (fun H => Same F H) (YPair xs ys))
    (h : ∀ i, i < ds.length → ∀ x y, xs i = some x → ys i = some y → ∃ d e, ds[i]? = some (.tup [d, e]) ∧ Rp K F x d ∧ Rp K F y e) : ItOk K F J ds := by
  intro F2 B e σ H s I
  have sH := s.trans I.sf
  have w := w H sH
  refine ⟨fun i hi => w.goes i H hi sH, w.stops H sH, fun i x H2 hi y => ?_⟩
  obtain ⟨T, x1, y1, rfl, hT, rfl, e1, e2⟩ := w.yields i H x H2 hi sH y
  obtain ⟨d, d2, e3, r1, r2⟩ := h i hi x1 y1 e1 e2
  have sm := same_upd (o := .tup [x1, y1]) (I.free hT).1
  have s2 := s.trans sm
  exact ⟨_, _, sm, I.laid hT, e3, .tup (.inl (.inl upd_same)) (.cons (r1.mono s2) (.cons (r2.mono s2) .nil))⟩
def pairs : List D → List D → List D
  | x :: xs, y :: ys => .tup [x, y] :: pairs xs ys
  | _, _ => []
theorem pairs_length : ∀ xs ys, (pairs xs ys).length = min xs.length ys.length
  | [], _ => by simp [pairs]
  | _ :: _, [] => by simp [pairs]
  | _ :: xs, _ :: ys => by simp [pairs, pairs_length xs ys]
theorem pairs_get : ∀ (xs ys : List D) (i : Nat) (x y : D), xs[i]? = some x → ys[i]? = some y → (pairs xs ys)[i]? = some (.tup [x, y])
  | [], _, _, _, _, h, _ => by simp at h
  | _ :: _, [], _, _, _, _, h => by simp at h
  | a :: xs, b :: ys, 0, x, y, h, h2 => by simp at h h2; subst h; subst h2; rfl
  | a :: xs, b :: ys, i + 1, x, y, h, h2 => by
    show (pairs xs ys)[i]? = _
    exact pairs_get xs ys i x y (by simpa using h) (by simpa using h2)
def fZip (k : FEs) : FI := fun e => (k e).bind fun p => match p.2 with
  | [.lst xs, .lst ys] => some (p.1, pairs xs ys)
  | _ => none
theorem ji_zip {n : Nat} {k : FEs} (hg : Gl X "zip") (hm : X.mg "zip" = none) (ha : JEs X np [a, b] n ta k) (hz : PI X tg (.Call (.Name "zip" p) [a, b] [] pos) (iZip X.K ta)) : JI X np tg (.Call (.Name "zip" p) [a, b] [] pos) (iZip X.K ta) (fZip k) := by
  refine ⟨hz, fun B F e σ H R hn I e' ds hf q => ?_⟩
  obtain ⟨⟨e1, l⟩, h1, hf⟩ := bnd hf
  refine ha.de B F e σ H _ hn I e1 l h1 fun F' vs H' s I' r _ => ?_
  split at hf
  · rename_i xs ys hl
    simp only at hl
    subst hl
    cases hf
    cases r with
    | cons r1 r2 =>
      cases r2 with
      | cons r2 r3 =>
        cases r3
        cases r1 with
        | @lst pa us _ a1 a2 =>
          cases r2 with
          | @lst pb ws _ b1 b2 =>
            refine ⟨pa, pb, us, ws, rfl, I'.sf.seq a1, I'.sf.seq b1, q F' _ H' s I' (itOk_pairs (xs := fun i => us[i]?) (ys := fun i => ws[i]?) (fun H0 _ => ?_) fun i hi x y e1 e2 => ?_)⟩
            · exact (walk_zip (a := pa) (b := pb) (K := X.K) (by rw [pairs_length, a2.length, b2.length])).mono (fun H h => ⟨h.seq a1, h.seq b1⟩) fun _ _ _ _ _ _ h => h
            · obtain ⟨d, g1, g2⟩ := a2.get e1
              obtain ⟨d2, g3, g4⟩ := b2.get e2
              exact ⟨d, d2, pairs_get _ _ _ _ _ g1 g3, g2, g4⟩
  · cases hf
def numbered (ds : List D) : List D := pairs (rngD 0 ds.length) ds
def fEnum (k : FEs) : FI := fun e => (k e).bind fun p => match p.2 with
  | [.lst xs] => some (p.1, numbered xs)
  | _ => none
theorem ints_get {lo : Int} {n i : Nat} (h : i < n) : (rngD lo n)[i]? = some (.int (lo + (i : Nat))) := by
  unfold rngD
  rw [List.getElem?_map, List.getElem?_range h] <;> rfl
theorem numbered_length (ds : List D) : (numbered ds).length = ds.length := by
  unfold numbered
  rw [pairs_length]
  simp [rngD]
theorem ji_enum {n : Nat} {k : FEs} (ha : JEs X np [a] n ta k) (hz : PI X tg (.Call (.Name "enumerate" p) [a] [] pos) (iEnum X.K ta)) : JI X np tg (.Call (.Name "enumerate" p) [a] [] pos) (iEnum X.K ta) (fEnum k) := by
  refine ⟨hz, fun B F e σ H R hn I e' ds hf q => ?_⟩
  obtain ⟨⟨e1, l⟩, h1, hf⟩ := bnd hf
  refine ha.de B F e σ H _ hn I e1 l h1 fun F' vs H' s I' r _ => ?_
  split at hf
  · rename_i xs hl
    simp only at hl
    subst hl
    cases hf
    cases r with
    | cons r1 r2 =>
      cases r2
      cases r1 with
      | @lst pa us _ a1 a2 =>
        refine ⟨pa, us, rfl, I'.sf.seq a1, q F' _ H' s I' (itOk_pairs (xs := fun i => some (.int (i : Nat))) (ys := fun i => us[i]?) (fun H0 _ => ?_) fun i hi x y e1 e2 => ?_)⟩
        · rw [numbered_length, ← a2.length]
          exact (walk_enum (a := pa) (K := X.K)).mono (fun H h => h.seq a1) fun _ _ _ _ _ _ h => h
        · obtain ⟨d, g1, g2⟩ := a2.get e2
          rw [numbered_length] at hi
          cases e1
          refine ⟨.int (i : Nat), d, pairs_get _ _ _ _ _ ?_ g1, .int _, g2⟩
          rw [ints_get hi]
          simp
  · cases hf
end

/-! ### targets -/
abbrev FG := Sls → D → Option Sls
abbrev FGs := Sls → List D → Option Sls
def Out (ts : List Nat) (σ σ' : L2.St) : Prop := σ'.length = σ.length ∧ ∀ i, i ∉ ts → σ'[i]? = σ[i]?
def DG (K : PySem.W.Frag) (np : Nat) (ts : List Nat) (g : TG) (b : FG) : Prop :=
  ∀ (B : Bs) (F : Hp) (e : Sls) (σ : L2.St) (H : Hp) (v : V) (d : D) (Q : L2.St → Hp → Prop), B.np = np → IV K B F e σ H → Rp K F v d → ∀ e', b e d = some e' →
    (∀ (F' : Hp) (σ' : L2.St) (H' : Hp), Same F F' → IV K B F' e' σ' H' → Out ts σ σ' → Q σ' H') → g v σ H Q
def DGs (K : PySem.W.Frag) (np : Nat) (ts : List Nat) (g : TGs) (b : FGs) : Prop :=
  ∀ (B : Bs) (F : Hp) (e : Sls) (σ : L2.St) (H : Hp) (vs : List V) (ds : List D) (Q : L2.St → Hp → Prop), B.np = np → IV K B F e σ H → Rps K F vs ds → ∀ e', b e ds = some e' →
    (∀ (F' : Hp) (σ' : L2.St) (H' : Hp), Same F F' → IV K B F' e' σ' H' → Out ts σ σ' → Q σ' H') → g vs σ H Q
structure JG (X : Cx) (np : Nat) (tg : Expr) (ts : List Nat) (g : TG) (b : FG) : Prop where
  pg : PG X tg g
  de : DG X.K np ts g b
structure JGs (X : Cx) (np : Nat) (tg : List Expr) (n : Nat) (ts : List Nat) (g : TGs) (b : FGs) : Prop where
  pgs : PGs X tg g
  len : tg.length = n
  de : DGs X.K np ts g b
def bName (i : Nat) : FG := fun e d => some (e.set i (.im d))
def bNil : FGs := fun e ds => match ds with | [] => some e | _ => none
def bCons (b : FG) (bs : FGs) : FGs := fun e ds => match ds with | d :: r => (b e d).bind fun e1 => bs e1 r | _ => none
def bTup (n : Nat) (bs : FGs) : FG := fun e d => match d with | .tup ds => if ds.length = n then bs e ds else none | _ => none
section
variable {X : Cx} {np : Nat}
theorem jg_name {i : Nat} {x : Str} {pos : Pos} (h : PG X (.Name x pos) (gName i)) (hi : np ≤ i := by decide) : JG X np (.Name x pos) [i] (gName i) (bName i) := by
  refine ⟨h, fun B F e σ H v d Q hn I r e' hb q => ?_⟩
  cases hb
  refine q F _ H (Same.refl F) (I.set (by rw [hn]; exact hi) r) ⟨by rw [List.length_set], fun j hj => ?_⟩
  rw [List.getElem?_set_ne (fun z => hj (by rw [z]; exact List.mem_singleton.mpr rfl))]
theorem jgs_nil : JGs X np [] 0 [] gNil bNil := by
  refine ⟨pgs_nil, rfl, fun B F e σ H vs ds Q hn I r e' hb q => ?_⟩
  cases r with
  | nil => cases hb; exact ⟨rfl, q F σ H (Same.refl F) I ⟨rfl, fun _ _ => rfl⟩⟩
  | cons _ _ => cases hb
theorem jgs_cons {e : Expr} {es : List Expr} {n : Nat} {ts us : List Nat} {g : TG} {gs : TGs} {b : FG} {bs : FGs} (h : JG X np e ts g b) (h2 : JGs X np es n us gs bs) (hs : (assignEach (e :: es) X.env).map (·.2) = assign e X.env :: (assignEach es X.env).map (·.2) := by rfl) : JGs X np (e :: es) (n + 1) (ts ++ us) (gCons g gs) (bCons b bs) := by
  refine ⟨pgs_cons h.pg h2.pgs hs, by rw [List.length_cons, h2.len], fun B F e σ H vs ds Q hn I r e' hb q => ?_⟩
  cases r with
  | nil => cases hb
  | cons r1 r2 =>
    obtain ⟨e1, h3, hb⟩ := bnd hb
    refine ⟨_, _, rfl, h.de B F e σ H _ _ _ hn I r1 e1 h3 fun F' σ' H' s I' o => ?_⟩
    refine h2.de B F' e1 σ' H' _ _ _ hn I' (r2.mono s) e' hb fun F2 σ2 H2 s2 I2 o2 => ?_
    refine q F2 σ2 H2 (s.trans s2) I2 ⟨o2.1.trans o.1, fun i hi => ?_⟩
    rw [o2.2 i fun z => hi (List.mem_append_right _ z), o.2 i fun z => hi (List.mem_append_left _ z)]
theorem jg_tup {es : List Expr} {n : Nat} {ts : List Nat} {gs : TGs} {bs : FGs} {x1} {pos : Pos} (hc : X.calm = true) (h : JGs X np es n ts gs bs) (hn : (assignEach es X.env).length = n := by rfl) (hst : (assignEach es X.env).findIdx? (·.1) = none := by rfl) :
    JG X np (.Tuple es x1 pos) ts (gTup X.K n gs) (bTup n bs) := by
  refine ⟨pg_tup hc h.pgs hn hst, fun B F e σ H v d Q hn I r e' hb q => ?_⟩
  cases d with
  | tup ds =>
    simp only [bTup] at hb
    split at hb
    · rename_i hl
      cases r with
      | tup r1 r2 => exact ⟨_, _, rfl, sqt_mono I.sf r1, r2.length.trans hl, h.de B F e σ H _ _ _ hn I r2 e' hb q⟩
    · cases hb
  | _ => cases hb
end
end M

namespace M
open PySem PySem.Spec PyProof.Rows L2

/-! ### slots set anew -/
theorem IV.re {K : PySem.W.Frag} {B : Bs} {F : Hp} {e e' : Sls} {σ σ' : L2.St} {H : Hp} (I : IV K B F e σ H) (hl : e'.length = σ'.length)
    (h : ∀ (i : Nat) (s : Sl), e'[i]? = some s → s = .un ∨ (e[i]? = some s ∧ σ'[i]? = σ[i]?) ∨ ∃ v d, s = .im d ∧ σ'[i]? = some (some v) ∧ Rp K F v d) (ha : ∀ i, i < B.np → σ'[i]? = σ[i]?) : IV K B F e' σ' H := by
  refine ⟨I.sf, I.sg, I.g1, I.g2, I.g3, hl, fun i s v h1 h2 => ?_, fun i j s t hij h1 h2 o1 o2 => ?_, fun i v hi hv => ?_,
    I.ob.go (Same.refl F) (fun b hb => ⟨rfl, I.ob.free hb⟩) (fun j c fs h1 => ?_) fun j t b h1 h2 h3 => ?_⟩
  · rcases h i s h1 with rfl | ⟨q1, q2⟩ | ⟨w, d, rfl, q, r⟩
    · exact .un
    · rw [q2] at h2; exact I.sl i s v q1 h2
    · rw [q] at h2; cases h2; exact .im r
  · have p1 : e[i]? = some s ∧ σ'[i]? = σ[i]? := by
      rcases h i s h1 with rfl | q | ⟨w, d, rfl, _⟩
      · cases o1
      · exact q
      · cases o1
    have p2 : e[j]? = some t ∧ σ'[j]? = σ[j]? := by
      rcases h j t h2 with rfl | q | ⟨w, d, rfl, _⟩
      · cases o2
      · exact q
      · cases o2
    rw [p1.2, p2.2]
    exact I.ap i j s t hij p1.1 p2.1 o1 o2
  · rw [ha i hi]; exact I.an i v hi hv
  · rcases h j _ h1 with q | q | ⟨w, d, q, _⟩
    · cases q
    · exact q
    · cases q
  · rcases h j t h1 with rfl | ⟨q1, q2⟩ | ⟨w, d, rfl, _⟩
    · cases h2
    · rw [q2] at h3
      exact fun ⟨k, s, h4, h5⟩ => I.ob.aw k j s t b h4 q1 h5 h2 h3
    · cases h2
def wipeS (e : Sls) : List Nat → Sls
  | [] => e
  | v :: vs => (wipeS e vs).set v .un
def restS (o e : Sls) : List Nat → Sls
  | [] => e
  | v :: vs => (restS o e vs).set v (o[v]?.getD .un)
theorem wipeS_length (e : Sls) : ∀ vs, (wipeS e vs).length = e.length
  | [] => rfl
  | v :: vs => by rw [wipeS, List.length_set, wipeS_length e vs]
theorem restS_length (o e : Sls) : ∀ vs, (restS o e vs).length = e.length
  | [] => rfl
  | v :: vs => by rw [restS, List.length_set, restS_length o e vs]
theorem wipeS_get {e : Sls} {i : Nat} {s : Sl} : ∀ {vs}, (wipeS e vs)[i]? = some s → s = .un ∨ (i ∉ vs ∧ e[i]? = some s)
  | [], h => .inr ⟨by simp, h⟩
  | v :: vs, h => by
    rw [wipeS] at h
    by_cases z : v = i
    · subst z
      rw [List.getElem?_set] at h
      simp only [if_true] at h
      split at h
      · cases h; exact .inl rfl
      · cases h
    · rw [List.getElem?_set_ne z] at h
      rcases wipeS_get h with q | ⟨q1, q2⟩
      · exact .inl q
      · exact .inr ⟨fun m => (List.mem_cons.mp m).elim (fun y => z y.symm) q1, q2⟩
theorem restS_get {o e : Sls} {i : Nat} {s : Sl} : ∀ {vs}, (restS o e vs)[i]? = some s → (i ∈ vs ∧ s = o[i]?.getD .un) ∨ (i ∉ vs ∧ e[i]? = some s)
  | [], h => .inr ⟨by simp, h⟩
  | v :: vs, h => by
    rw [restS] at h
    by_cases z : v = i
    · subst z
      rw [List.getElem?_set] at h
      simp only [if_true] at h
      split at h
      · cases h; exact .inl ⟨by simp, rfl⟩
      · cases h
    · rw [List.getElem?_set_ne z] at h
      rcases restS_get h with ⟨q1, q2⟩ | ⟨q1, q2⟩
      · exact .inl ⟨List.mem_cons_of_mem _ q1, q2⟩
      · exact .inr ⟨fun m => (List.mem_cons.mp m).elim (fun y => z y.symm) q1, q2⟩

/-! ### comprehensions -/
structure JTs (X : Cx) (np : Nat) (es : List Expr) (t : TT) (f : FT) : Prop where
  pts : PTs X es t
  de : DT X.K np t f
def fYes : FT := fun e => some (e, true)
theorem jts_nil {X : Cx} {np : Nat} : JTs X np [] tYes fYes := by
  refine ⟨pts_nil, fun B F e σ H Q hn I e' b hf q => ?_⟩
  cases hf
  exact q F H (Same.refl F) I
theorem jts_one {X : Cx} {np : Nat} {c : Expr} {t : TT} {f : FT} (h : JT X np c t f) : JTs X np [c] t f := ⟨pts_one h.pt, h.de⟩
def lcLoop (vs : List Nat) (b : FG) (c : FT) (f : FE) : List D → Sls → List D → Option (Sls × List D)
  | [], e, acc => some (e, acc)
  | d :: ds, e, acc => (b e d).bind fun e1 => (c e1).bind fun p => if p.2 = true then (f p.1).bind fun q => if acc.length < sizeLine then lcLoop vs b c f ds (wipeS q.1 vs) (acc ++ [q.2]) else none
    else lcLoop vs b c f ds (wipeS p.1 vs) acc
def fLc (it : FI) (vs : List Nat) (b : FG) (c : FT) (f : FE) : FE := fun e => (it e).bind fun p =>
  if vs.all (fun i => !((p.1[i]?.getD .un).hand)) = true then (lcLoop vs b c f p.2 (wipeS p.1 vs) []).bind fun q => some (restS p.1 q.1 vs, .lst q.2) else none
theorem Out.wipe {ts vs : List Nat} {σ σ' : L2.St} (h : Out ts σ σ') (hs : ∀ i ∈ ts, i ∈ vs) : L2.wipe σ' vs = L2.wipe σ vs := by
  apply List.ext_getElem?
  intro i
  by_cases hi : i ∈ vs
  · have n : ∀ (τ : L2.St), τ.length = σ.length → (L2.wipe τ vs)[i]? = (L2.wipe σ vs)[i]? := fun τ hl => by
      have g : ∀ (us : List Nat), i ∈ us → (L2.wipe τ us)[i]? = (L2.wipe σ us)[i]? := fun us => by
        induction us with
        | nil => intro h; cases h
        | cons v us ih =>
          intro hm
          unfold L2.wipe
          by_cases z : v = i
          · subst z
            rw [List.getElem?_set, List.getElem?_set]
            simp only [wipe_length, hl, if_true]
          · rw [List.getElem?_set_ne z, List.getElem?_set_ne z]
            rcases List.mem_cons.mp hm with q | q
            · exact absurd q.symm z
            · exact ih q
      exact g vs hi
    exact n σ' h.1
  · rw [wipe_out hi, wipe_out hi]
    exact h.2 i fun m => hi (hs i m)
theorem Out.get {ts vs : List Nat} {σ σ' : L2.St} (h : Out ts (L2.wipe σ vs) σ') (hs : ∀ i ∈ ts, i ∈ vs) {i : Nat} (hi : i ∉ vs) : σ'[i]? = σ[i]? := by
  rw [h.2 i fun m => hi (hs i m), wipe_out hi]
theorem Same.upd_of {G H : Hp} {D : Addr} {o : HO} (s : Same G H) (hG : G D = none) : Same (upd G D o) (upd H D o) := same_both s
/-- what a comprehension's list is: kept apart while it grows -/
theorem IV.guard {K : PySem.W.Frag} {B : Bs} {F : Hp} {e : Sls} {σ : L2.St} {H : Hp} (I : IV K B F e σ H) {p : Addr} {o : HO} (hp : H p = none) : IV K { B with G := upd B.G p o } F e σ (upd H p o) := by
  obtain ⟨f1, f2, f3, f4⟩ := I.free hp
  refine ⟨fun b u q => ?_, same_both I.sg, I.g1, fun b => ?_, fun b q => ?_, I.len, fun i s v h1 h2 => ?_, I.ap, I.an,
    I.ob.go (Same.refl F) (fun b hb => by
      have nb : b ≠ p := fun z => I.ob.there hb (by rw [z]; exact hp)
      exact ⟨upd_ne nb, (I.ob.free hb).1, by show upd B.G p o b = none; rw [upd_ne nb]; exact (I.ob.free hb).2⟩) (fun _ _ _ h => ⟨h, rfl⟩) fun j t b h1 h2 h3 ⟨i, s, h4, h5⟩ => I.ob.aw i j s t b h4 h1 h5 h2 h3⟩
  · rw [upd_ne (ne_of_none q f1)]; exact I.sf b u q
  · by_cases z : b = p
    · subst z; exact .inl (f1.trans f3.symm)
    · rcases I.g2 b with q | ⟨q1, q2, q3⟩
      · exact .inl q
      · exact .inr ⟨q1, q2, by show upd B.G p o b = none; rw [upd_ne z]; exact q3⟩
  · by_cases z : b = p
    · subst z; exact f4
    · rw [upd_ne z] at q; exact I.g3 b q
  · have r := I.sl i s v h1 h2
    cases r with
    | un => exact .un
    | im r => exact .im r
    | ow r g1 g2 g3 =>
      rename_i a
      have na : a ≠ p := fun z => by rw [z] at r; exact r.some hp
      exact .ow (r.mono (Same.refl F) (upd_ne na)) g1 (by show upd B.G p o a = none; rw [upd_ne na]; exact g2) g3
    | ob => exact .ob
/-- the guarded list grows -/
theorem IV.grow {K : PySem.W.Frag} {B : Bs} {F : Hp} {e : Sls} {σ : L2.St} {H : Hp} {p : Addr} {o o' : HO} (hB : B.F p = none) (I : IV K { B with G := upd B.G p o } F e σ H) : IV K { B with G := upd B.G p o' } F e σ (upd H p o') := by
  have hF : F p = none := by
    rcases I.g2 p with q | ⟨_, _, q⟩
    · exact q.trans hB
    · rw [show ({ B with G := upd B.G p o } : Bs).G p = upd B.G p o p from rfl, upd_same] at q; cases q
  refine ⟨fun b u q => ?_, fun b u q => ?_, I.g1, fun b => ?_, fun b q => ?_, I.len, fun i s v h1 h2 => ?_, I.ap, I.an,
    I.ob.go (Same.refl F) (fun b hb => by
      have g : upd B.G p o b = none := (I.ob.free hb).2
      have nb : b ≠ p := fun z => by rw [z, upd_same] at g; cases g
      rw [upd_ne nb] at g
      exact ⟨upd_ne nb, (I.ob.free hb).1, by show upd B.G p o' b = none; rw [upd_ne nb]; exact g⟩) (fun _ _ _ h => ⟨h, rfl⟩) fun j t b h1 h2 h3 ⟨i, s, h4, h5⟩ => I.ob.aw i j s t b h4 h1 h5 h2 h3⟩
  · rw [upd_ne (ne_of_none q hF)]; exact I.sf b u q
  · have q' : upd B.G p o' b = some u := q
    by_cases z : b = p
    · subst z; rw [upd_same] at q' ⊢; exact q'
    · rw [upd_ne z] at q' ⊢
      exact I.sg b u (show upd B.G p o b = some u by rw [upd_ne z]; exact q')
  · by_cases z : b = p
    · subst z; exact .inl (hF.trans hB.symm)
    · rcases I.g2 b with q | ⟨q1, q2, q3⟩
      · exact .inl q
      · have q3' : upd B.G p o b = none := q3
        rw [upd_ne z] at q3'
        exact .inr ⟨q1, q2, show upd B.G p o' b = none by rw [upd_ne z]; exact q3'⟩
  · by_cases z : b = p
    · subst z; rw [upd_same] at q; cases q
    · rw [upd_ne z] at q; exact I.g3 b q
  · have r := I.sl i s v h1 h2
    cases r with
    | un => exact .un
    | im r => exact .im r
    | ow r g1 g2 g3 =>
      rename_i a
      have na : a ≠ p := fun z => by
        have g2' : upd B.G p o a = none := g2
        rw [z, upd_same] at g2'; cases g2'
      have g2' : upd B.G p o a = none := g2
      rw [upd_ne na] at g2'
      exact .ow (r.mono (Same.refl F) (upd_ne na)) g1 (show upd B.G p o' a = none by rw [upd_ne na]; exact g2') g3
    | ob => exact .ob
/-- the guarded list is done: it stays -/
theorem IV.unguard {K : PySem.W.Frag} {B : Bs} {F : Hp} {e : Sls} {σ : L2.St} {H : Hp} {p : Addr} {o : HO} (hB : B.F p = none) (hG : B.G p = none) (hH : B.H p = none) (I : IV K { B with G := upd B.G p o } F e σ H) :
    Same F (upd F p o) ∧ IV K B (upd F p o) e σ H ∧ (upd F p o) p = some o := by
  have hF : F p = none := by
    rcases I.g2 p with q | ⟨_, _, q⟩
    · exact q.trans hB
    · rw [show ({ B with G := upd B.G p o } : Bs).G p = upd B.G p o p from rfl, upd_same] at q; cases q
  have hp : H p = some o := I.sg p o (show upd B.G p o p = some o from upd_same)
  have sm : Same F (upd F p o) := same_upd hF
  refine ⟨sm, ⟨fun b u q => ?_, fun b u q => ?_, I.g1.trans sm, fun b => ?_, I.g3, I.len, fun i s v h1 h2 => ?_, I.ap, I.an,
    I.ob.go sm (fun b hb => by
      have g : upd B.G p o b = none := (I.ob.free hb).2
      have nb : b ≠ p := fun z => by rw [z, upd_same] at g; cases g
      rw [upd_ne nb] at g
      exact ⟨rfl, by rw [upd_ne nb]; exact (I.ob.free hb).1, g⟩) (fun _ _ _ h => ⟨h, rfl⟩) fun j t b h1 h2 h3 ⟨i, s, h4, h5⟩ => I.ob.aw i j s t b h4 h1 h5 h2 h3⟩, upd_same⟩
  · by_cases z : b = p
    · subst z; rw [upd_same] at q; rw [hp]; exact q
    · rw [upd_ne z] at q; exact I.sf b u q
  · exact I.sg b u (show upd B.G p o b = some u by rw [upd_ne (ne_of_none q hG)]; exact q)
  · by_cases z : b = p
    · subst z; exact .inr ⟨hB, hH, hG⟩
    · rcases I.g2 b with q | ⟨q1, q2, q3⟩
      · rw [upd_ne z]; exact .inl q
      · have q3' : upd B.G p o b = none := q3
        rw [upd_ne z] at q3'
        exact .inr ⟨q1, q2, q3'⟩
  · have r := I.sl i s v h1 h2
    cases r with
    | un => exact .un
    | im r => exact .im (r.mono sm)
    | ow r g1 g2 g3 =>
      rename_i a
      have g2' : upd B.G p o a = none := g2
      have na : a ≠ p := fun z => by rw [z, upd_same] at g2'; cases g2'
      rw [upd_ne na] at g2'
      exact .ow (r.mono sm rfl) (by rw [upd_ne na]; exact g1) g2' g3
    | ob => exact .ob

theorem de_lc {K : PySem.W.Frag} {np : Nat} {wi : TI} {fi : FI} {ts vs : List Nat} {g : TG} {b : FG} {tt : TT} {c : FT} {te : TE} {f : FE} (hi : DI K np wi fi) (hg : DG K np ts g b) (ht : DT K np tt c) (he : DE K np te f)
    (hts : ∀ i ∈ ts, i ∈ vs) (hvs : ∀ i ∈ vs, np ≤ i) : DE K np (tLc wi g tt te vs) (fLc fi vs b c f) := by
  intro B F e σ H Q hn I e' d hf q
  obtain ⟨⟨e1, ds⟩, h1, hf⟩ := bnd hf
  split at hf
  · rename_i hown
    obtain ⟨⟨e2, out⟩, h2, hf⟩ := bnd hf
    cases hf
    refine hi B F e σ H _ hn I e1 ds h1 fun F1 J H1 s1 I1 it => fun p hp => ?_
    obtain ⟨fp, gp, bp, hp0⟩ := I1.free hp
    -- the wiped slots at the start of a turn
    have hw : ∀ {B' : Bs} {F' : Hp} {e' : Sls} {σ' : L2.St} {H' : Hp}, B'.np = np → IV K B' F' e' σ' H' → Out ts (L2.wipe σ vs) σ' → IV K B' F' (wipeS e' vs) (L2.wipe σ vs) H' := fun {B' F' e' σ' H'} hn' I' o => by
      refine I'.re (by rw [wipeS_length, I'.len, o.1]) (fun i s hs => ?_) fun i hi' => ?_
      · rcases wipeS_get hs with q | ⟨q1, q2⟩
        · exact .inl q
        · exact .inr (.inl ⟨q2, by rw [wipe_out q1, o.get hts q1]⟩)
      · have : i ∉ vs := fun m => by have := hvs i m; omega
        rw [wipe_out this, o.get hts this]
    refine ⟨fun i m H' => m = ds.length - i ∧ i ≤ ds.length ∧ ∃ F' e' acc accv, Same F1 F' ∧ IV K { B with G := upd B.G p (.lst accv) } F' e' (L2.wipe σ vs) H' ∧ Rps K F' accv acc ∧ lcLoop vs b c f (ds.drop i) e' acc = some (e2, out), ⟨ds.length, rfl, Nat.zero_le _, F1, wipeS e1 vs, [], [], Same.refl _, ?_, .nil, by rw [List.drop_zero]; exact h2⟩, ?_⟩
    · refine IV.guard ?_ hp
      refine I1.re (by rw [wipeS_length, L2.wipe_length, I1.len]) (fun i s hs => ?_) fun i hi' => ?_
      · rcases wipeS_get hs with q | ⟨q1, q2⟩
        · exact .inl q
        · exact .inr (.inl ⟨q2, by rw [wipe_out q1]⟩)
      · have : i ∉ vs := fun m => by have := hvs i m; omega
        rw [wipe_out this]
    · rintro i m H' ⟨rfl, hle, F', e', acc, accv, s2, I2, r2, hl⟩
      obtain ⟨i1, i2, i3⟩ := it F' _ e' _ H' s2 I2
      by_cases hlt : i < ds.length
      · refine .inr ⟨i1 i hlt, fun H4 => ∃ m', m' < ds.length - i ∧ m' = ds.length - (i + 1) ∧ i + 1 ≤ ds.length ∧ ∃ F' e' acc accv, Same F1 F' ∧ IV K { B with G := upd B.G p (.lst accv) } F' e' (L2.wipe σ vs) H4 ∧ Rps K F' accv acc ∧ lcLoop vs b c f (ds.drop (i + 1)) e' acc = some (e2, out),
          fun H4 ⟨m', a1, a2, a3⟩ => ⟨m', a1, a2, a3⟩, fun x H3 hy => ?_⟩
        obtain ⟨F3, dx, s3, I3, hd, rx⟩ := i3 i x H3 hlt hy
        have ed : ds.drop i = dx :: ds.drop (i + 1) := by
          have hlt' := hlt
          rw [List.getElem?_eq_getElem hlt] at hd
          cases hd
          exact List.drop_eq_getElem_cons hlt'
        rw [ed, lcLoop] at hl
        obtain ⟨ea, ha, hl⟩ := bnd hl
        obtain ⟨⟨eb, k⟩, hb, hl⟩ := bnd hl
        refine hg { B with G := upd B.G p (.lst accv) } F3 e' _ H3 x dx _ hn I3 rx ea ha fun F4 σ4 H4 s4 I4 o4 => ⟨?_, ?_⟩
        · have := o4.wipe hts
          rw [this]
          apply List.ext_getElem?
          intro j
          by_cases hj : j ∈ vs
          · have z : ∀ (τ : L2.St) (us : List Nat), j ∈ us → (L2.wipe τ us)[j]? = if j < τ.length then some none else none := fun τ us => by
              induction us with
              | nil => intro h; cases h
              | cons v us ih =>
                intro hm
                unfold L2.wipe
                by_cases z : v = j
                · subst z
                  rw [List.getElem?_set]
                  simp only [if_true, wipe_length]
                · rw [List.getElem?_set_ne z]
                  rcases List.mem_cons.mp hm with q | q
                  · exact absurd q.symm z
                  · exact ih q
            rw [z _ _ hj, z _ _ hj, wipe_length]
          · rw [wipe_out hj]
        refine ht { B with G := upd B.G p (.lst accv) } F4 ea σ4 H4 _ hn I4 eb k hb fun F5 H5 s5 I5 => ?_
        cases k with
        | false =>
          refine iteF ⟨_, by omega, rfl, hlt, F5, wipeS eb vs, acc, accv, s2.trans (s3.trans (s4.trans s5)), hw hn I5 o4, r2.mono (s3.trans (s4.trans s5)), hl⟩
        | true =>
          simp only [if_true] at hl
          obtain ⟨⟨ec, y⟩, hc, hl⟩ := bnd hl
          split at hl
          · rename_i hsz
            refine iteT (he { B with G := upd B.G p (.lst accv) } F5 eb σ4 H5 _ hn I5 ec y hc fun F6 v6 H6 s6 I6 r6 => ?_)
            have s26 := s3.trans (s4.trans (s5.trans s6))
            refine ⟨accv, I6.sg p _ (show upd B.G p _ p = some _ from upd_same), by rw [r2.length]; exact hsz, _, by omega, rfl, hlt, F6, wipeS ec vs, acc ++ [y], accv ++ [v6], s2.trans s26, ?_, (r2.mono s26).append (.cons r6 .nil), hl⟩
            exact IV.grow bp (hw hn I6 o4)
          · cases hl
      · have e : i = ds.length := by omega
        subst e
        rw [List.drop_length, lcLoop] at hl
        cases hl
        refine .inl ⟨i2, ?_⟩
        obtain ⟨sm, I3, hpp⟩ := IV.unguard bp gp hp0 I2
        refine q _ (.ref p) H' (s1.trans (s2.trans sm)) ?_ (.lst (.inl (.inl hpp)) (r2.mono sm))
        refine I3.re (by rw [restS_length, I3.len, L2.wipe_length]) (fun i s hs => ?_) fun i hi' => ?_
        · rcases restS_get hs with ⟨q1, q2⟩ | ⟨q1, q2⟩
          · have ho := List.all_eq_true.mp hown i q1
            cases hs1 : e1[i]? with
            | none => rw [hs1] at q2; exact .inl q2
            | some s0 =>
              rw [hs1] at q2 ho
              cases s0 with
              | un => exact .inl q2
              | im d0 =>
                obtain ⟨v0, hv0, r0⟩ := I1.slot hs1
                obtain ⟨x0, e0, r1⟩ := r0.of_im
                subst e0
                exact .inr (.inr ⟨x0, d0, q2, hv0, r1.mono (s2.trans sm)⟩)
              | lst _ => cases ho
              | dic _ => cases ho
              | ob _ _ => cases ho
          · exact .inr (.inl ⟨q2, by rw [wipe_out q1]⟩)
        · have : i ∉ vs := fun m => by have := hvs i m; omega
          rw [wipe_out this]
  · cases hf
theorem je_lc {X : Cx} {np : Nat} {elt tg iter : Expr} {ifs : List Expr} {scope : Scope} {own : List (Str × Nat)} {pos : Pos} {wi : TI} {fi : FI} {ts : List Nat} {g : TG} {b : FG} {tt : TT} {c : FT} {te : TE} {f : FE} (hc : X.calm = true) (hN : X.N.Nodup)
    (hi : JI X np tg iter wi fi) (ok : BlkOk X.N X.env.scope scope own)
    (hg : ∀ (s : Shared) (H : Hp) (C : Addr) (cl : List (Str × Addr)) (fp : List Addr), JG (X.blk s H scope (compEnvC scope cl C X.env) fp) np tg ts g b)
    (ht : ∀ (s : Shared) (H : Hp) (C : Addr) (cl : List (Str × Addr)) (fp : List Addr), JTs (X.blk s H scope (compEnvC scope cl C X.env) fp) np ifs tt c)
    (he : ∀ (s : Shared) (H : Hp) (C : Addr) (cl : List (Str × Addr)) (fp : List Addr), JE (X.blk s H scope (compEnvC scope cl C X.env) fp) np elt te f)
    (hts : ∀ i ∈ ts, i ∈ own.map (·.2) := by decide) (hvs : ∀ i ∈ own.map (·.2), np ≤ i := by decide) (hs : ∀ x, foldedSetIterable iter X.env x = pure x := by intro _; rfl) :
    JE X np (.ListComp elt [⟨tg, iter, ifs, 0⟩] scope pos) (tLc wi g tt te (own.map (·.2))) (fLc fi (own.map (·.2)) b c f) := by
  refine ⟨pe_lc hc hN hi.pi ok (fun s H C cl fp => (hg s H C cl fp).pg) (fun s H C cl fp => (ht s H C cl fp).pts) (fun s H C cl fp => (he s H C cl fp).pe) hs, ?_⟩
  exact de_lc hi.de (hg X.s_0 X.H_0 0 [] []).de (ht X.s_0 X.H_0 0 [] []).de (he X.s_0 X.H_0 0 [] []).de hts hvs
end M

namespace M
open PySem PySem.Spec PyProof.Rows L2

/-! ### statements -/
inductive Fl where
  | nx
  | rt (d : D)
  | ro (s : Sl)
  | bk
  | ct
abbrev FS := Sls → Option (Sls × Fl)
def Post (K : PySem.W.Frag) (B : Bs) (F : Hp) (E : Ends) (e' : Sls) : Fl → Prop
  | .nx => ∀ (F' : Hp) (σ' : L2.St) (H' : Hp), Same F F' → IV K B F' e' σ' H' → E.nx σ' H'
  | .bk => ∀ (F' : Hp) (σ' : L2.St) (H' : Hp), Same F F' → IV K B F' e' σ' H' → E.bk σ' H'
  | .ct => ∀ (F' : Hp) (σ' : L2.St) (H' : Hp), Same F F' → IV K B F' e' σ' H' → E.ct σ' H'
  | .rt d => ∀ (F' : Hp) (v : V) (σ' : L2.St) (H' : Hp), Same F F' → IV K B F' e' σ' H' → Rp K F' v d → E.rt v H'
  | .ro s => ∀ (F' : Hp) (a : Addr) (σ' : L2.St) (H' : Hp), Same F F' → IV K B F' e' σ' H' → Ow K F' H' a s → F' a = none → B.G a = none → B.H a = none → ¬ IsCell H' e' σ' a → E.rt (.ref a) H'
theorem Post.mono {K : PySem.W.Frag} {B : Bs} {F F1 : Hp} {E : Ends} {e' : Sls} {fl : Fl} (s : Same F F1) (h : Post K B F E e' fl) : Post K B F1 E e' fl := by
  cases fl with
  | nx => exact fun F' σ' H' s' I => h F' σ' H' (s.trans s') I
  | bk => exact fun F' σ' H' s' I => h F' σ' H' (s.trans s') I
  | ct => exact fun F' σ' H' s' I => h F' σ' H' (s.trans s') I
  | rt d => exact fun F' v σ' H' s' I r => h F' v σ' H' (s.trans s') I r
  | ro x => exact fun F' v σ' H' s' I r f g b c => h F' v σ' H' (s.trans s') I r f g b c
def DS (K : PySem.W.Frag) (np : Nat) (t : TS) (f : FS) : Prop :=
  ∀ (B : Bs) (F : Hp) (e : Sls) (σ : L2.St) (H : Hp) (E : Ends), B.np = np → IV K B F e σ H → ∀ (e' : Sls) (fl : Fl), f e = some (e', fl) → Post K B F E e' fl → t E σ H
structure JS (X : Cx) (np : Nat) (st : Stmt) (t : TS) (f : FS) : Prop where
  ps : PS X st t
  de : DS X.K np t f
structure JSs (X : Cx) (np : Nat) (st : List Stmt) (t : TS) (f : FS) : Prop where
  ps : PSs X st t
  de : DS X.K np t f
def sNil : FS := fun e => some (e, .nx)
def sSeq (f g : FS) : FS := fun e => (f e).bind fun p => match p.2 with
  | .nx => g p.1
  | fl => some (p.1, fl)
def sIf (c : FT) (f g : FS) : FS := fun e => (c e).bind fun p => if p.2 = true then f p.1 else g p.1
def sRet (f : FE) : FS := fun e => (f e).bind fun p => some (p.1, .rt p.2)
def sRetN : FS := fun e => some (e, .rt .non)
def sDrop (f : FE) : FS := fun e => (f e).bind fun p => some (p.1, .nx)
def sSet (f : FE) (b : FG) : FS := fun e => (f e).bind fun p => (b p.1 p.2).bind fun e1 => some (e1, .nx)
def sBreak : FS := fun e => some (e, .bk)
def sCont : FS := fun e => some (e, .ct)
section
variable {X : Cx} {np : Nat} {st : Stmt} {rest a b : List Stmt} {t u : TS} {f g : FS} {pos : Pos} {ex : Expr} {te : TE} {fe : FE}
theorem jss_nil : JSs X np [] tNext sNil := by
  refine ⟨pss_nil, fun B F e σ H E hn I e' fl hf q => ?_⟩
  cases hf
  exact q F σ H (Same.refl F) I
theorem jss_cons (h1 : JS X np st t f) (h2 : JSs X np rest u g) : JSs X np (st :: rest) (tSeq t u) (sSeq f g) := by
  refine ⟨pss_cons h1.ps h2.ps, fun B F e σ H E hn I e' fl hf q => ?_⟩
  obtain ⟨⟨e1, fl1⟩, q1, hf⟩ := bnd hf
  refine h1.de B F e σ H { E with nx := u E } hn I e1 fl1 q1 ?_
  cases fl1 with
  | nx => exact fun F' σ' H' s I' => h2.de B F' e1 σ' H' E hn I' e' fl hf (q.mono s)
  | rt d => cases hf; exact q
  | ro d => cases hf; exact q
  | bk => cases hf; exact q
  | ct => cases hf; exact q
theorem jss_one (h1 : JS X np st t f) : JSs X np [st] t f := ⟨pss_one h1.ps, h1.de⟩
theorem js_if {c : Expr} {tc : TT} {fc : FT} (hc : JT X np c tc fc) (ha : JSs X np a t f) (hb : JSs X np b u g) : JS X np (.If c a b pos) (tIfS tc t u) (sIf fc f g) := by
  refine ⟨ps_if hc.pt ha.ps hb.ps, fun B F e σ H E hn I e' fl hf q => ?_⟩
  obtain ⟨⟨e1, k⟩, q1, hf⟩ := bnd hf
  refine hc.de B F e σ H _ hn I e1 k q1 fun F' H' s I' => ?_
  cases k with
  | true => exact iteT (ha.de B F' e1 σ H' E hn I' e' fl hf (q.mono s))
  | false => exact iteF (hb.de B F' e1 σ H' E hn I' e' fl hf (q.mono s))
theorem js_ret (h : JE X np ex te fe) : JS X np (.Return (some ex) pos) (tRet te) (sRet fe) := by
  refine ⟨ps_ret h.pe, fun B F e σ H E hn I e' fl hf q => ?_⟩
  obtain ⟨⟨e1, d⟩, q1, hf⟩ := bnd hf
  cases hf
  exact h.de B F e σ H _ hn I e1 d q1 fun F' v H' s I' r => q F' v σ H' s I' r
theorem js_retN : JS X np (.Return none pos) tRetN sRetN := by
  refine ⟨ps_retN, fun B F e σ H E hn I e' fl hf q => ?_⟩
  cases hf
  exact q F _ σ H (Same.refl F) I .non
theorem js_expr (h : JE X np ex te fe) (hs : swapsWith ex none pos.line X.env = pure false := by rfl) : JS X np (.Expr ex pos) (tDrop te) (sDrop fe) := by
  refine ⟨ps_expr h.pe hs, fun B F e σ H E hn I e' fl hf q => ?_⟩
  obtain ⟨⟨e1, d⟩, q1, hf⟩ := bnd hf
  cases hf
  exact h.de B F e σ H _ hn I e1 d q1 fun F' v H' s I' r => q F' σ H' s I'
theorem js_pass : JS X np (.Pass pos) tNext sNil := by
  refine ⟨ps_pass, fun B F e σ H E hn I e' fl hf q => ?_⟩
  cases hf
  exact q F σ H (Same.refl F) I
theorem js_break : JS X np (.Break pos) tBreak sBreak := by
  refine ⟨ps_break, fun B F e σ H E hn I e' fl hf q => ?_⟩
  cases hf
  exact q F σ H (Same.refl F) I
theorem js_cont : JS X np (.Continue pos) tCont sCont := by
  refine ⟨ps_continue, fun B F e σ H E hn I e' fl hf q => ?_⟩
  cases hf
  exact q F σ H (Same.refl F) I
theorem ds_asg {K : PySem.W.Frag} {ts : List Nat} {tg : TG} {bg : FG} (h : DE K np te fe) (hg : DG K np ts tg bg) : DS K np (tAsg te tg) (sSet fe bg) := by
  intro B F e σ H E hn I e' fl hf q
  obtain ⟨⟨e1, d⟩, q1, hf⟩ := bnd hf
  obtain ⟨e2, q2, hf⟩ := bnd hf
  cases hf
  refine h B F e σ H _ hn I e1 d q1 fun F' v H' s I' r => ?_
  exact hg B F' e1 σ H' v d _ hn I' r e' q2 fun F2 σ2 H2 s2 I2 _ => q F2 σ2 H2 (s.trans s2) I2
theorem js_asg {tg : Expr} {ts : List Nat} {tt : TG} {bg : FG} (h : JE X np ex te fe) (hg : JG X np tg ts tt bg) (hp : PS X (.Assign [tg] ex pos) (tAsg te tt)) : JS X np (.Assign [tg] ex pos) (tAsg te tt) (sSet fe bg) := ⟨hp, ds_asg h.de hg.de⟩

/-! ### loops -/
def forL (b : FG) (body : FS) : List D → Sls → Option (Sls × Fl)
  | [], e => some (e, .nx)
  | d :: ds, e => (b e d).bind fun e1 => (body e1).bind fun p => match p.2 with
    | .nx => forL b body ds p.1
    | .ct => forL b body ds p.1
    | .bk => some (p.1, .nx)
    | .rt d => some (p.1, .rt d)
    | .ro d => some (p.1, .ro d)
def sFor (it : FI) (b : FG) (body : FS) : FS := fun e => (it e).bind fun p => forL b body p.2 p.1
theorem ds_for {K : PySem.W.Frag} {wi : TI} {fi : FI} {ts : List Nat} {tg : TG} {bg : FG} (hi : DI K np wi fi) (hg : DG K np ts tg bg) (hb : DS K np t f) : DS K np (tFor wi tg t) (sFor fi bg f) := by
  intro B F e σ H E hn I e' fl hf q
  obtain ⟨⟨e1, ds⟩, q1, hf⟩ := bnd hf
  refine hi B F e σ H _ hn I e1 ds q1 fun F1 J H1 s1 I1 it => ?_
  refine ⟨fun i m σ' H' => m = ds.length - i ∧ i ≤ ds.length ∧ ∃ F' e2, Same F1 F' ∧ IV K B F' e2 σ' H' ∧ forL bg f (ds.drop i) e2 = some (e', fl), ⟨ds.length, rfl, Nat.zero_le _, F1, e1, Same.refl _, I1, by rw [List.drop_zero]; exact hf⟩, ?_⟩
  rintro i m σ' H' ⟨rfl, hle, F', e2, s2, I2, hl⟩
  obtain ⟨i1, i2, i3⟩ := it F' B e2 σ' H' s2 I2
  by_cases hlt : i < ds.length
  · refine .inr ⟨i1 i hlt, fun σ4 H4 => ∃ F' e2, Same F1 F' ∧ IV K B F' e2 σ4 H4 ∧ forL bg f (ds.drop (i + 1)) e2 = some (e', fl), fun σ4 H4 ⟨F4, e4, a1, a2, a3⟩ => ⟨ds.length - (i + 1), by omega, rfl, hlt, F4, e4, a1, a2, a3⟩, fun x H3 hy => ?_⟩
    obtain ⟨F3, dx, s3, I3, hd, rx⟩ := i3 i x H3 hlt hy
    have ed : ds.drop i = dx :: ds.drop (i + 1) := by
      rw [List.getElem?_eq_getElem hlt] at hd
      cases hd
      exact List.drop_eq_getElem_cons hlt
    rw [ed, forL] at hl
    obtain ⟨ea, ha, hl⟩ := bnd hl
    obtain ⟨⟨eb, k⟩, hk, hl⟩ := bnd hl
    refine hg B F3 e2 σ' H3 x dx _ hn I3 rx ea ha fun F4 σ4 H4 s4 I4 _ => ?_
    have s14 := s2.trans (s3.trans s4)
    refine hb B F4 ea σ4 H4 _ hn I4 eb k hk ?_
    cases k with
    | nx => exact fun F5 σ5 H5 s5 I5 => ⟨F5, eb, s14.trans s5, I5, hl⟩
    | ct => exact fun F5 σ5 H5 s5 I5 => ⟨F5, eb, s14.trans s5, I5, hl⟩
    | bk =>
      cases hl
      exact fun F5 σ5 H5 s5 I5 => q F5 σ5 H5 (s1.trans (s14.trans s5)) I5
    | rt d =>
      cases hl
      exact fun F5 v σ5 H5 s5 I5 r => q F5 v σ5 H5 (s1.trans (s14.trans s5)) I5 r
    | ro d =>
      cases hl
      exact fun F5 v σ5 H5 s5 I5 r f g b c => q F5 v σ5 H5 (s1.trans (s14.trans s5)) I5 r f g b c
  · have ei : i = ds.length := by omega
    subst ei
    rw [List.drop_length, forL] at hl
    cases hl
    exact .inl ⟨i2, q F' σ' H' (s1.trans s2) I2⟩
theorem js_for {tg it : Expr} {wi : TI} {fi : FI} {ts : List Nat} {tt : TG} {bg : FG} (hp : PassesOwn (model X.prog X.w) X.A X.env X.xe) (hc : X.calm = true) (hi : JI X np tg it wi fi) (hg : JG X np tg ts tt bg) (hb : JSs X np a t f)
    (hs : ∀ x, foldedSetIterable it X.env x = pure x := by intro _; rfl) : JS X np (.For tg it a [] pos) (tFor wi tt t) (sFor fi bg f) := ⟨ps_for hp hc hi.pi hg.pg hb.ps hs, ds_for hi.de hg.de hb.de⟩
def whileN (c : FT) (body : FS) : Nat → Sls → Option (Sls × Fl)
  | 0, _ => none
  | n + 1, e => (c e).bind fun p => if p.2 = true then (body p.1).bind fun q => match q.2 with
      | .nx => whileN c body n q.1
      | .ct => whileN c body n q.1
      | .bk => some (q.1, .nx)
      | .rt d => some (q.1, .rt d)
      | .ro d => some (q.1, .ro d)
    else some (p.1, .nx)
/-- a while with so many turns at most -/
def sWhile (n : Nat) (c : FT) (body : FS) : FS := whileN c body n
theorem js_while {n : Nat} {c : Expr} {tc : TT} {fc : FT} (hp : PassesOwn (model X.prog X.w) X.A X.env X.xe) (hc : JT X np c tc fc) (hb : JSs X np a t f) : JS X np (.While c a [] pos) (tWhile tc t) (sWhile n fc f) := by
  refine ⟨ps_while hp hc.pt hb.ps, fun B F e σ H E hn I e' fl hf q => ?_⟩
  refine ⟨fun m σ' H' => ∃ F' e2, Same F F' ∧ IV X.K B F' e2 σ' H' ∧ whileN fc f m e2 = some (e', fl), ⟨n, F, e, Same.refl F, I, hf⟩, ?_⟩
  rintro m σ' H' ⟨F', e2, s2, I2, hl⟩
  cases m with
  | zero => cases hl
  | succ m =>
    rw [whileN] at hl
    obtain ⟨⟨e3, k⟩, q3, hl⟩ := bnd hl
    refine hc.de B F' e2 σ' H' _ hn I2 e3 k q3 fun F3 H3 s3 I3 => ?_
    cases k with
    | false =>
      simp only [Bool.false_eq_true, if_false] at hl
      cases hl
      exact iteF (q F3 σ' H3 (s2.trans s3) I3)
    | true =>
      simp only [if_true] at hl
      obtain ⟨⟨e4, k4⟩, q4, hl⟩ := bnd hl
      refine iteT ⟨fun σ4 H4 => ∃ F' e2, Same F F' ∧ IV X.K B F' e2 σ4 H4 ∧ whileN fc f m e2 = some (e', fl), fun σ4 H4 h => ⟨m, Nat.lt_succ_self m, h⟩, hb.de B F3 e3 σ' H3 _ hn I3 e4 k4 q4 ?_⟩
      have s13 := s2.trans s3
      cases k4 with
      | nx => exact fun F5 σ5 H5 s5 I5 => ⟨F5, e4, s13.trans s5, I5, hl⟩
      | ct => exact fun F5 σ5 H5 s5 I5 => ⟨F5, e4, s13.trans s5, I5, hl⟩
      | bk => cases hl; exact fun F5 σ5 H5 s5 I5 => q F5 σ5 H5 (s13.trans s5) I5
      | rt d => cases hl; exact fun F5 v σ5 H5 s5 I5 r => q F5 v σ5 H5 (s13.trans s5) I5 r
      | ro d => cases hl; exact fun F5 v σ5 H5 s5 I5 r f g b c => q F5 v σ5 H5 (s13.trans s5) I5 r f g b c
end

/-! ### own lists -/
def fAppend (i : Nat) (f : FE) : FE := fun e => match e[i]? with
  | some (.lst _) => (f e).bind fun p => match p.1[i]? with
    | some (.lst ds) => if ds.length < sizeLine then some (p.1.set i (.lst (ds ++ [p.2])), .non) else none
    | _ => none
  | _ => none
section
variable {X : Cx} {np : Nat} {ex : Expr} {te : TE} {fe : FE} {x : Str} {p apos cpos : Pos}
theorem je_append (i : Nat) (ho : PE X (.Name x p) (tVar i)) (ha : JE X np ex te fe) (hp : PE X (.Call (.Attribute (.Name x p) "append" apos) [ex] [] cpos) (tBM X.K "list" rAppend (tVar i) (tCons te tNil))) :
    JE X np (.Call (.Attribute (.Name x p) "append" apos) [ex] [] cpos) (tBM X.K "list" rAppend (tVar i) (tCons te tNil)) (fAppend i fe) := by
  refine ⟨hp, fun B F e σ H Q hn I e' d hf q => ?_⟩
  unfold fAppend at hf
  split at hf
  · rename_i ds0 h0
    obtain ⟨⟨e1, d1⟩, h1, hf⟩ := bnd hf
    split at hf
    · rename_i ds h2
      split at hf
      · rename_i hsz
        cases hf
        obtain ⟨v0, hv0, r0⟩ := I.slot h0
        obtain ⟨a, ev, o0, _⟩ := r0.of_own rfl
        subst ev
        cases o0 with
        | @lst xs0 _ g1 g2 =>
          refine ⟨.ref a, hv0, .inl ⟨rfl, _, .inl (.inl g1)⟩, ha.de B F e σ H _ hn I e1 d1 h1 fun F1 v1 H1 s1 I1 r1 => ?_⟩
          have sl := I1.sl i _ _ h2 hv0
          obtain ⟨a', ev, o1, _⟩ := sl.of_own rfl
          cases ev
          cases o1 with
          | @lst xs1 _ g3 g4 =>
            refine ⟨a, xs1, v1, rfl, rfl, g3, by rw [g4.length]; exact hsz, ?_⟩
            exact q F1 _ _ s1 (I1.turn (s' := .lst (ds ++ [d1])) h2 rfl hv0 (.lst upd_same (g4.append (.cons r1 .nil)))) .non
      · cases hf
    · cases hf
  · cases hf
/-- a name's list or dict, made anew -/
def DOw (K : PySem.W.Frag) (np : Nat) (t : TE) (f : Sls → Option (Sls × Sl)) : Prop :=
  ∀ (B : Bs) (F : Hp) (e : Sls) (σ : L2.St) (H : Hp) (Q : VK), B.np = np → IV K B F e σ H → ∀ (e' : Sls) (s : Sl), f e = some (e', s) →
    (∀ (F' : Hp) (a : Addr) (H' : Hp), Same F F' → IV K B F' e' σ H' → Ow K F' H' a s → F' a = none → B.G a = none → B.H a = none → (∀ (j : Nat) (s' : Sl), e'[j]? = some s' → s'.own = true → σ[j]? ≠ some (some (.ref a))) → ¬ IsCell H' e' σ a → Q (.ref a) H') → t σ H Q
structure JOw (X : Cx) (np : Nat) (e : Expr) (t : TE) (f : Sls → Option (Sls × Sl)) : Prop where
  pe : PE X e t
  de : DOw X.K np t f
def oLst (f : FEs) : Sls → Option (Sls × Sl) := fun e => (f e).bind fun p => some (p.1, .lst p.2)
def sSetO (i : Nat) (f : Sls → Option (Sls × Sl)) : FS := fun e => (f e).bind fun p => some (p.1.set i p.2, .nx)
theorem IV.newOwn {K : PySem.W.Frag} {B : Bs} {F : Hp} {e : Sls} {σ : L2.St} {H : Hp} (I : IV K B F e σ H) {p : Addr} {o : HO} (hp : H p = none) : IV K B F e σ (upd H p o) ∧ (∀ (j : Nat) (s : Sl), e[j]? = some s → s.own = true → σ[j]? ≠ some (some (.ref p))) ∧ ¬ IsCell (upd H p o) e σ p := by
  obtain ⟨f1, f2, f3, f4⟩ := I.free hp
  have hc : ∀ b, IsCell H e σ b → (upd H p o) b = H b ∧ F b = none := fun b hb => ⟨upd_ne fun z => I.ob.there hb (by rw [z]; exact hp), (I.ob.free hb).1⟩
  refine ⟨⟨fun b u q => ?_, fun b u q => ?_, I.g1, I.g2, fun b q => ?_, I.len, fun i s v h1 h2 => ?_, I.ap, I.an, I.ob.stay (Same.refl F) hc⟩, fun j s h1 h2 z => ?_, fun ⟨i, s, h1, h2⟩ => ?_⟩
  · rw [upd_ne (ne_of_none q f1)]; exact I.sf b u q
  · rw [upd_ne (ne_of_none q f2)]; exact I.sg b u q
  · by_cases z : b = p
    · subst z; exact f4
    · rw [upd_ne z] at q; exact I.g3 b q
  · have r := I.sl i s v h1 h2
    cases r with
    | un => exact .un
    | im r => exact .im r
    | ow r g1 g2 g3 =>
      rename_i a
      have na : a ≠ p := fun z => by rw [z] at r; exact r.some hp
      exact .ow (r.mono (Same.refl F) (upd_ne na)) g1 g2 g3
    | ob => exact .ob
  · obtain ⟨a, e1, r, _⟩ := (I.sl j s _ h1 z).of_own h2
    cases e1
    exact r.some hp
  · refine I.ob.there ⟨i, s, h1, h2.mono fun a c fs e1 e2 => ?_⟩ hp
    subst e1
    exact (hc a (I.ob.top h1 e2)).1
theorem jow_lst {es : List Expr} {n : Nat} {t : TA} {fs : FEs} {pos : Pos} (h : JEs X np es n t fs) (hz : n ≤ sizeLine := by decide) : JOw X np (.List es pos) (tLst t) (oLst fs) := by
  refine ⟨pe_lst h.pa, fun B F e σ H Q hn I e' s hf q => ?_⟩
  obtain ⟨⟨e1, ds⟩, h1, hf⟩ := bnd hf
  cases hf
  refine h.de B F e σ H _ hn I e1 ds h1 fun F1 vs H1 s1 I1 r l => ⟨by rw [l]; exact hz, fun p hp => ?_⟩
  obtain ⟨f1, f2, f3, f4⟩ := I1.free hp
  obtain ⟨I2, ne, nc⟩ := I1.newOwn (o := .lst vs) hp
  exact q F1 p _ s1 I2 (.lst upd_same r) f1 f2 f4 ne nc
theorem js_setO {i : Nat} {t : TE} {f : Sls → Option (Sls × Sl)} {pos : Pos} (h : JOw X np ex t f) (hp : PS X (.Assign [.Name x p] ex pos) (tAsg t (gName i))) (hi : np ≤ i := by decide) : JS X np (.Assign [.Name x p] ex pos) (tAsg t (gName i)) (sSetO i f) := by
  refine ⟨hp, fun B F e σ H E hn I e' fl hf q => ?_⟩
  obtain ⟨⟨e1, s⟩, h1, hf⟩ := bnd hf
  cases hf
  refine h.de B F e σ H _ hn I e1 s h1 fun F' a H' s' I' o f1 f2 f3 ne nc => ?_
  exact q F' _ H' s' (I'.setOw (by rw [hn]; exact hi) o f1 f2 f3 (fun j s0 _ h1 h2 => ne j s0 h1 h2) nc)
/-- what is returned is the caller's own -/
def sRetO (f : Sls → Option (Sls × Sl)) : FS := fun e => (f e).bind fun p => some (p.1, .ro p.2)
theorem js_retO {t : TE} {f : Sls → Option (Sls × Sl)} {pos : Pos} (h : JOw X np ex t f) : JS X np (.Return (some ex) pos) (tRet t) (sRetO f) := by
  refine ⟨ps_ret h.pe, fun B F e σ H E hn I e' fl hf q => ?_⟩
  obtain ⟨⟨e1, s⟩, h1, hf⟩ := bnd hf
  cases hf
  exact h.de B F e σ H _ hn I e1 s h1 fun F' a H' s' I' o f1 f2 f3 _ nc => q F' a σ H' s' I' o f1 f2 f3 nc
/-- an own name given away -/
def sRetV (np i : Nat) : FS := fun e => match e[i]? with
  | some s => if s.own = true ∧ np ≤ i then some (e, .ro s) else none
  | none => none
theorem js_retV (i : Nat) {pos : Pos} (h : PE X (.Name x p) (tVar i)) : JS X np (.Return (some (.Name x p)) pos) (tRet (tVar i)) (sRetV np i) := by
  refine ⟨ps_ret h, fun B F e σ H E hn I e' fl hf q => ?_⟩
  unfold sRetV at hf
  split at hf
  · rename_i s0 h0
    split at hf
    · rename_i ho
      cases hf
      obtain ⟨v0, hv0, r0⟩ := I.slot h0
      obtain ⟨a, ev, o, f1, f2, f3⟩ := r0.of_own ho.1
      subst ev
      exact ⟨.ref a, hv0, q F a σ H (Same.refl F) I o f1 f2 (f3 (by simp; omega)) fun ⟨k, s, h4, h5⟩ => I.ob.aw k i s s0 a h4 h0 h5 ho.1 hv0⟩
    · cases hf
  · cases hf
/-- x[i] = e of an own list -/
def sSetIx (i : Nat) (f g : FE) : FS := fun e => (f e).bind fun p => match p.1[i]? with
  | some (.lst _) => (g p.1).bind fun q => match q.1[i]?, q.2 with
    | some (.lst ds), .int k => (ixN ds.length k).bind fun j => some (q.1.set i (.lst (ds.set j p.2)), .nx)
    | _, _ => none
  | _ => none
theorem js_setIx {i : Nat} {ix : Expr} {ti : TE} {fi : FE} {pos tpos : Pos} (h : JE X np ex te fe) (hi : JE X np ix ti fi) (hp : PS X (.Assign [.Subscript (.Name x p) ix tpos] ex pos) (tAsg te (gSub (tVar i) ti rSetL))) :
    JS X np (.Assign [.Subscript (.Name x p) ix tpos] ex pos) (tAsg te (gSub (tVar i) ti rSetL)) (sSetIx i fe fi) := by
  refine ⟨hp, fun B F e σ H E hn I e' fl hf q => ?_⟩
  obtain ⟨⟨e1, d⟩, h1, hf⟩ := bnd hf
  simp only at hf
  split at hf
  · rename_i ds0 h0
    obtain ⟨⟨e2, k⟩, h2, hf⟩ := bnd hf
    simp only at hf
    split at hf
    · rename_i ds k hds
      obtain ⟨j, h3, hf⟩ := bnd hf
      cases hf
      refine h.de B F e σ H _ hn I e1 d h1 fun F1 v1 H1 s1 I1 r1 => ?_
      obtain ⟨v0, hv0, r0⟩ := I1.slot h0
      obtain ⟨a, ev, _, _⟩ := r0.of_own rfl
      subst ev
      refine ⟨.ref a, hv0, hi.de B F1 e1 σ H1 _ hn I1 e2 _ h2 fun F2 v2 H2 s2 I2 r2 => ?_⟩
      cases r2
      obtain ⟨a', ev, o1, _⟩ := (I2.sl i _ _ hds hv0).of_own rfl
      cases ev
      cases o1 with
      | @lst xs _ g3 g4 =>
        refine ⟨a, xs, k, j, rfl, rfl, g3, by rw [g4.length]; exact h3, ?_⟩
        exact q F2 _ _ (s1.trans s2) (I2.turn (s' := .lst (ds.set j d)) hds rfl hv0 (.lst upd_same (g4.set (r1.mono s2) j)))
    · cases hf
  · cases hf
/-! ### own dicts -/
def putG {α : Type} (kvs : List (Key × α)) (k : Key) (v : α) : List (Key × α) := if (kvs.any fun kv => decide (kv.1 = k)) = true then kvs.map fun kv => if kv.1 = k then (kv.1, v) else kv else kvs ++ [(k, v)]
theorem putG_put (kvs : List (Key × V)) (k : Key) (v : V) : putK kvs k v = putG kvs k v := rfl
theorem rpk_any {K : PySem.W.Frag} {F : Hp} {k : Key} : ∀ {kvs : List (Key × V)} {es : List (Key × D)}, Rpk K F kvs es → (kvs.any fun kv => decide (kv.1 = k)) = (es.any fun kv => decide (kv.1 = k))
  | _, _, .nil => rfl
  | _, _, .cons _ t => by simp only [List.any_cons, rpk_any t]
theorem rpk_map {K : PySem.W.Frag} {F : Hp} {k : Key} {v : V} {d : D} (r : Rp K F v d) : ∀ {kvs : List (Key × V)} {es : List (Key × D)}, Rpk K F kvs es → Rpk K F (kvs.map fun kv => if kv.1 = k then (kv.1, v) else kv) (es.map fun kv => if kv.1 = k then (kv.1, d) else kv)
  | _, _, .nil => .nil
  | _, _, .cons (k := j) r1 t => by
    simp only [List.map_cons]
    by_cases hj : j = k
    · simp only [hj, if_true]
      exact .cons r (rpk_map r t)
    · simp only [hj, if_false]
      exact .cons r1 (rpk_map r t)
theorem rpk_snoc {K : PySem.W.Frag} {F : Hp} {k : Key} {v : V} {d : D} (r : Rp K F v d) : ∀ {kvs : List (Key × V)} {es : List (Key × D)}, Rpk K F kvs es → Rpk K F (kvs ++ [(k, v)]) (es ++ [(k, d)])
  | _, _, .nil => .cons r .nil
  | _, _, .cons r1 t => .cons r1 (rpk_snoc r t)
theorem put_rpk {K : PySem.W.Frag} {F : Hp} {k : Key} {v : V} {d : D} (r : Rp K F v d) {kvs : List (Key × V)} {es : List (Key × D)} (q : Rpk K F kvs es) : Rpk K F (putG kvs k v) (putG es k d) := by
  unfold putG
  rw [rpk_any q]
  split
  · exact rpk_map r q
  · exact rpk_snoc r q
/-- x[k] = e of an own dict -/
def sDPutN (i : Nat) (f g : FE) : FS := fun e => (f e).bind fun p => match p.1[i]? with
  | some (.dic _) => (g p.1).bind fun q => match q.1[i]? with
    | some (.dic es) => q.2.key.bind fun k => if es.length < sizeLine then some (q.1.set i (.dic (putG es k p.2)), .nx) else none
    | _ => none
  | _ => none
theorem js_dput {i : Nat} {ix : Expr} {ti : TE} {fi : FE} {pos tpos : Pos} (h : JE X np ex te fe) (hi : JE X np ix ti fi) (hp : PS X (.Assign [.Subscript (.Name x p) ix tpos] ex pos) (L2.sDPut (tVar i) ti te)) :
    JS X np (.Assign [.Subscript (.Name x p) ix tpos] ex pos) (L2.sDPut (tVar i) ti te) (sDPutN i fe fi) := by
  refine ⟨hp, fun B F e σ H E hn I e' fl hf q => ?_⟩
  obtain ⟨⟨e1, d⟩, h1, hf⟩ := bnd hf
  simp only at hf
  split at hf
  · rename_i ds0 h0
    obtain ⟨⟨e2, kd⟩, h2, hf⟩ := bnd hf
    simp only at hf
    split at hf
    · rename_i es hds
      obtain ⟨k, h3, hf⟩ := bnd hf
      split at hf
      · rename_i hsz
        cases hf
        refine h.de B F e σ H _ hn I e1 d h1 fun F1 v1 H1 s1 I1 r1 => ?_
        obtain ⟨v0, hv0, r0⟩ := I1.slot h0
        obtain ⟨a, ev, _, _⟩ := r0.of_own rfl
        subst ev
        refine ⟨.ref a, hv0, hi.de B F1 e1 σ H1 _ hn I1 e2 _ h2 fun F2 v2 H2 s2 I2 r2 => ?_⟩
        obtain ⟨a', ev, o1, _⟩ := (I2.sl i _ _ hds hv0).of_own rfl
        cases ev
        cases o1 with
        | @dic kvs _ g3 g4 =>
          have ek := key_rpo (H := H2) (.rp r2) h3
          subst ek
          refine ⟨a, _, rfl, DPut.k g3 (by rw [g4.length]; exact hsz), ?_⟩
          rw [putG_put]
          exact q F2 _ _ (s1.trans s2) (I2.turn (s' := .dic (putG es k d)) hds rfl hv0 (.dic upd_same (put_rpk (r1.mono s2) g4)))
      · cases hf
    · cases hf
  · cases hf
end
end M

namespace M
open PySem PySem.Spec PyProof.Rows L2

/-! ### a def's promise, by its mirror -/
abbrev FC := Sls → Option (Sls × Sl)
inductive ResR (K : PySem.W.Frag) (B : Bs) (F H : Hp) : V → Sl → Prop
  | im {v : V} {d : D} : Rp K F v d → ResR K B F H v (.im d)
  | ow {a : Addr} {s : Sl} : Ow K F H a s → F a = none → B.G a = none → B.H a = none → ResR K B F H (.ref a) s
def spM (K : PySem.W.Frag) (n : Nat) (m : FC) : Sp := fun vs H Q _ => vs.length = n ∧ ∃ (F G : Hp) (es es' : Sls) (d : Sl), IV K ⟨F, H, G, vs.map some, vs.length, 0⟩ F es (vs.map some) H ∧ m es = some (es', d) ∧
  ∀ (F' : Hp) (v : V) (H' : Hp), IV K ⟨F, H, G, vs.map some, vs.length, 0⟩ F' es' (vs.map some) H' → ResR K ⟨F, H, G, vs.map some, vs.length, 0⟩ F' H' v d → (∀ a, v = .ref a → d.own = true → ¬ IsCell H' es' (vs.map some) a) → Q v H'
inductive Arg where
  | im (d : D)
  | ow (i : Nat)
inductive ArgR (K : PySem.W.Frag) (F : Hp) (σ : L2.St) : V → Arg → Prop
  | im {v : V} {d : D} : Rp K F v d → ArgR K F σ v (.im d)
  | ow {v : V} {i : Nat} : σ[i]? = some (some v) → ArgR K F σ v (.ow i)
inductive ArgRs (K : PySem.W.Frag) (F : Hp) (σ : L2.St) : List V → List Arg → Prop
  | nil : ArgRs K F σ [] []
  | cons {v : V} {vs : List V} {a : Arg} {as : List Arg} : ArgR K F σ v a → ArgRs K F σ vs as → ArgRs K F σ (v :: vs) (a :: as)
theorem ArgR.mono {K : PySem.W.Frag} {F F' : Hp} {σ : L2.St} (s : Same F F') {v : V} {a : Arg} (h : ArgR K F σ v a) : ArgR K F' σ v a := by
  cases h with
  | im r => exact .im (r.mono s)
  | ow h => exact .ow h
theorem ArgRs.get {K : PySem.W.Frag} {F : Hp} {σ : L2.St} : ∀ {vs : List V} {as : List Arg} {j : Nat} {a : Arg}, ArgRs K F σ vs as → as[j]? = some a → ∃ v, vs[j]? = some v ∧ ArgR K F σ v a
  | _, _, _, _, .nil, h => by simp at h
  | _, _, 0, _, .cons r _, h => by simp at h; subst h; exact ⟨_, rfl, r⟩
  | _, _, j + 1, a, .cons _ t, h => by
    obtain ⟨v, h1, h2⟩ := ArgRs.get (j := j) (a := a) t (by simpa using h)
    exact ⟨v, by simpa using h1, h2⟩
theorem ArgRs.length {K : PySem.W.Frag} {F : Hp} {σ : L2.St} : ∀ {vs : List V} {as : List Arg}, ArgRs K F σ vs as → vs.length = as.length
  | _, _, .nil => rfl
  | _, _, .cons _ t => congrArg (· + 1) t.length
abbrev FA := Sls → Option (Sls × List Arg)
def DA (K : PySem.W.Frag) (np : Nat) (t : TA) (f : FA) : Prop :=
  ∀ (B : Bs) (F : Hp) (e : Sls) (σ : L2.St) (H : Hp) (Q : List V → Hp → Prop), B.np = np → IV K B F e σ H → ∀ (e' : Sls) (as : List Arg), f e = some (e', as) →
    (∀ (F' : Hp) (vs : List V) (H' : Hp), Same F F' → IV K B F' e' σ H' → ArgRs K F' σ vs as → Q vs H') → t σ H Q
structure JA (X : Cx) (np : Nat) (es : List Expr) (t : TA) (f : FA) : Prop where
  pa : PA X es t
  de : DA X.K np t f
def aNil : FA := fun e => some (e, [])
def aIm (f : FE) (g : FA) : FA := fun e => (f e).bind fun p => (g p.1).bind fun q => some (q.1, .im p.2 :: q.2)
def aOw (i : Nat) (g : FA) : FA := fun e => if ((e[i]?.getD .un).hand) = true then (g e).bind fun q => some (q.1, .ow i :: q.2) else none
theorem Sl.hand_cases {s : Sl} (h : s.hand = true) : s.own = true ∨ ∃ c fs, s = .ob c fs := by
  cases s with
  | un => cases h
  | im _ => cases h
  | lst _ => exact .inl rfl
  | dic _ => exact .inl rfl
  | ob c fs => exact .inr ⟨c, fs, rfl⟩
theorem IV.handed {K : PySem.W.Frag} {B : Bs} {F : Hp} {e : Sls} {σ : L2.St} {H : Hp} (I : IV K B F e σ H) {i : Nat} {s : Sl} (h : e[i]? = some s) (ho : s.hand = true) : ∃ a, σ[i]? = some (some (.ref a)) := by
  rcases Sl.hand_cases ho with ho | ⟨c, fs, rfl⟩
  · obtain ⟨v0, hv0, r0⟩ := I.slot h
    obtain ⟨a, ev, _⟩ := r0.of_own ho
    subst ev
    exact ⟨a, hv0⟩
  · obtain ⟨a, hv, _⟩ := I.ob.ok i c fs h
    exact ⟨a, hv⟩
section
variable {X : Cx} {np : Nat} {ex : Expr} {es : List Expr} {te : TE} {t : TA} {fe : FE} {fa : FA}
theorem ja_nil : JA X np [] tNil aNil := by
  refine ⟨pa_nil, fun B F e σ H Q hn I e' as hf q => ?_⟩
  cases hf
  exact q F [] H (Same.refl F) I .nil
theorem ja_im (h : JE X np ex te fe) (h2 : JA X np es t fa) (hs : starEach (ex :: es) X.env = (false, eval ex X.env) :: starEach es X.env := by rfl) : JA X np (ex :: es) (tCons te t) (aIm fe fa) := by
  refine ⟨pa_cons h.pe h2.pa hs, fun B F e σ H Q hn I e' as hf q => ?_⟩
  obtain ⟨⟨e1, d⟩, h1, hf⟩ := bnd hf
  obtain ⟨⟨e2, as2⟩, h3, hf⟩ := bnd hf
  cases hf
  refine h.de B F e σ H _ hn I e1 d h1 fun F' v H' s I' r => ?_
  exact h2.de B F' e1 σ H' _ hn I' e2 as2 h3 fun F2 vs H2 s2 I2 r2 => q F2 (v :: vs) H2 (s.trans s2) I2 (.cons (.im (r.mono s2)) r2)
theorem ja_ow (i : Nat) {x : Str} {p : Pos} (h : PE X (.Name x p) (tVar i)) (h2 : JA X np es t fa) (hs : starEach (.Name x p :: es) X.env = (false, eval (.Name x p) X.env) :: starEach es X.env := by rfl) : JA X np (.Name x p :: es) (tCons (tVar i) t) (aOw i fa) := by
  refine ⟨pa_cons h h2.pa hs, fun B F e σ H Q hn I e' as hf q => ?_⟩
  unfold aOw at hf
  split at hf
  · rename_i ho
    obtain ⟨⟨e2, as2⟩, h3, hf⟩ := bnd hf
    cases hf
    cases hs0 : e[i]? with
    | none => rw [hs0] at ho; cases ho
    | some s0 =>
      rw [hs0] at ho
      obtain ⟨a, hv0⟩ := I.handed hs0 ho
      exact ⟨.ref a, hv0, h2.de B F e σ H _ hn I e2 as2 h3 fun F2 vs H2 s2 I2 r2 => q F2 (.ref a :: vs) H2 s2 I2 (.cons (.ow hv0) r2)⟩
  · cases hf
end
def argS (e : Sls) : Arg → Option Sl
  | .im d => some (.im d)
  | .ow i => match e[i]? with
    | some s => if s.hand = true then some s else none
    | none => none
def argSs (e : Sls) : List Arg → Option Sls
  | [] => some []
  | a :: as => (argS e a).bind fun s => (argSs e as).bind fun ss => some (s :: ss)
def owIx : List Arg → List Nat
  | [] => []
  | .im _ :: as => owIx as
  | .ow i :: as => i :: owIx as
def putBack (e : Sls) : List Arg → Sls → Sls
  | .ow i :: as, s :: ss => (putBack e as ss).set i s
  | .im _ :: as, _ :: ss => putBack e as ss
  | _, _ => e
def fCallS (m : FC) (k : FA) : Sls → Option (Sls × Sl) := fun e => (k e).bind fun p => if (owIx p.2).Nodup then (argSs p.1 p.2).bind fun es => (m es).bind fun q => some (putBack p.1 p.2 q.1, q.2) else none
def fCall (m : FC) (k : FA) : FE := fun e => (fCallS m k e).bind fun p => p.2.see.bind fun d => some (p.1, d)
def oCall (m : FC) (k : FA) : Sls → Option (Sls × Sl) := fun e => (fCallS m k e).bind fun p => if p.2.own = true then some p else none
theorem argSs_get {e : Sls} : ∀ {as : List Arg} {ss : Sls} {j : Nat} {s : Sl}, argSs e as = some ss → ss[j]? = some s → ∃ a, as[j]? = some a ∧ argS e a = some s
  | [], _, _, _, h, h2 => by cases h; simp at h2
  | a :: as, ss, j, s, h, h2 => by
    obtain ⟨s1, h3, h⟩ := bnd h
    obtain ⟨s2, h4, h⟩ := bnd h
    cases h
    cases j with
    | zero => simp at h2; subst h2; exact ⟨a, rfl, h3⟩
    | succ j =>
      obtain ⟨a', q1, q2⟩ := argSs_get (j := j) (s := s) h4 (by simpa using h2)
      exact ⟨a', by simpa using q1, q2⟩
theorem argSs_getA {e : Sls} : ∀ {as : List Arg} {ss : Sls} {j : Nat} {a : Arg}, argSs e as = some ss → as[j]? = some a → ∃ s, ss[j]? = some s ∧ argS e a = some s
  | [], _, _, _, h, h2 => by simp at h2
  | a :: as, ss, j, s, h, h2 => by
    obtain ⟨s1, h3, h⟩ := bnd h
    obtain ⟨s2, h4, h⟩ := bnd h
    cases h
    cases j with
    | zero => simp at h2; subst h2; exact ⟨s1, rfl, h3⟩
    | succ j =>
      obtain ⟨a', q1, q2⟩ := argSs_getA (j := j) (a := s) h4 (by simpa using h2)
      exact ⟨a', by simpa using q1, q2⟩
theorem argSs_length {e : Sls} : ∀ {as : List Arg} {ss : Sls}, argSs e as = some ss → ss.length = as.length
  | [], _, h => by cases h; rfl
  | a :: as, ss, h => by
    obtain ⟨s1, h3, h⟩ := bnd h
    obtain ⟨s2, h4, h⟩ := bnd h
    cases h
    exact congrArg (· + 1) (argSs_length h4)
theorem owIx_mem : ∀ {as : List Arg} {i : Nat}, i ∈ owIx as ↔ ∃ j : Nat, as[j]? = some (Arg.ow i)
  | [], i => by simp [owIx]
  | .im d :: as, i => by
    rw [owIx, owIx_mem]
    constructor
    · rintro ⟨j, h⟩; exact ⟨j + 1, by simpa using h⟩
    · rintro ⟨j, h⟩
      cases j with
      | zero => simp at h
      | succ j => exact ⟨j, by simpa using h⟩
  | .ow k :: as, i => by
    rw [owIx, List.mem_cons, owIx_mem]
    constructor
    · rintro (rfl | ⟨j, h⟩)
      · exact ⟨0, rfl⟩
      · exact ⟨j + 1, by simpa using h⟩
    · rintro ⟨j, h⟩
      cases j with
      | zero => simp at h; exact .inl h.symm
      | succ j => exact .inr ⟨j, by simpa using h⟩
theorem owIx_inj : ∀ {as : List Arg} {i j j' : Nat}, (owIx as).Nodup → as[j]? = some (Arg.ow i) → as[j']? = some (Arg.ow i) → j = j'
  | [], _, _, _, _, h, _ => by simp at h
  | .im d :: as, i, j, j', hn, h, h' => by
    cases j with
    | zero => simp at h
    | succ j =>
      cases j' with
      | zero => simp at h'
      | succ j' => exact congrArg (· + 1) (owIx_inj (as := as) hn (by simpa using h) (by simpa using h'))
  | .ow k :: as, i, j, j', hn, h, h' => by
    rw [owIx, List.nodup_cons] at hn
    cases j with
    | zero =>
      simp at h; subst h
      cases j' with
      | zero => rfl
      | succ j' => exact absurd (owIx_mem.mpr ⟨j', by simpa using h'⟩) hn.1
    | succ j =>
      cases j' with
      | zero => simp at h'; subst h'; exact absurd (owIx_mem.mpr ⟨j, by simpa using h⟩) hn.1
      | succ j' => exact congrArg (· + 1) (owIx_inj (as := as) hn.2 (by simpa using h) (by simpa using h'))
theorem putBack_length (e : Sls) : ∀ (as : List Arg) (ss : Sls), (putBack e as ss).length = e.length
  | [], _ => by simp [putBack]
  | .im _ :: as, [] => by simp [putBack]
  | .im _ :: as, _ :: ss => by rw [putBack]; exact putBack_length e as ss
  | .ow _ :: as, [] => by simp [putBack]
  | .ow _ :: as, _ :: ss => by rw [putBack, List.length_set]; exact putBack_length e as ss
theorem putBack_get {e : Sls} {i : Nat} {s : Sl} : ∀ {as : List Arg} {ss : Sls}, (owIx as).Nodup → ss.length = as.length → (putBack e as ss)[i]? = some s → (∃ j : Nat, as[j]? = some (Arg.ow i) ∧ ss[j]? = some s) ∨ (i ∉ owIx as ∧ e[i]? = some s)
  | [], ss, _, _, h => .inr ⟨by simp [owIx], by simpa [putBack] using h⟩
  | .im _ :: as, [], _, hl, _ => by simp at hl
  | .ow _ :: as, [], _, hl, _ => by simp at hl
  | .im _ :: as, _ :: ss, hn, hl, h => by
    rw [putBack] at h
    rcases putBack_get (as := as) hn (by simpa using hl) h with ⟨j, h1, h2⟩ | ⟨h1, h2⟩
    · exact .inl ⟨j + 1, by simpa using h1, by simpa using h2⟩
    · exact .inr ⟨h1, h2⟩
  | .ow k :: as, s0 :: ss, hn, hl, h => by
    rw [putBack] at h
    rw [owIx, List.nodup_cons] at hn
    by_cases z : k = i
    · subst z
      rw [List.getElem?_set] at h
      simp only [if_true] at h
      split at h
      · cases h; exact .inl ⟨0, rfl, rfl⟩
      · cases h
    · rw [List.getElem?_set_ne z] at h
      rcases putBack_get (as := as) hn.2 (by simpa using hl) h with ⟨j, h1, h2⟩ | ⟨h1, h2⟩
      · exact .inl ⟨j + 1, by simpa using h1, by simpa using h2⟩
      · exact .inr ⟨by rw [owIx]; exact fun m => (List.mem_cons.mp m).elim (fun y => z y.symm) h1, h2⟩

theorem IV.freezeNew {K : PySem.W.Frag} {B : Bs} {F : Hp} {e : Sls} {σ : L2.St} {H : Hp} (I : IV K B F e σ H) {a : Addr} {s : Sl} {d : D} (o : Ow K F H a s) (f : F a = none) (g : B.G a = none) (b : B.H a = none) (hs : s.see = some d) (hne : ∀ (j : Nat) (s' : Sl), e[j]? = some s' → s'.own = true → σ[j]? ≠ some (some (.ref a))) (hnc : ¬ IsCell H e σ a) :
    ∃ F', Same F F' ∧ IV K B F' e σ H ∧ Rp K F' (.ref a) d := by
  obtain ⟨u, ha⟩ : ∃ u, H a = some u := by
    cases z : H a with
    | none => exact absurd z o.some
    | some u => exact ⟨u, rfl⟩
  have sm : Same F (upd F a u) := same_upd f
  have rr : Rp K (upd F a u) (.ref a) d := by
    cases o with
    | lst r1 r2 =>
      cases hs
      rw [ha] at r1
      cases r1
      exact .lst (.inl (.inl upd_same)) (r2.mono sm)
    | dic r1 r2 =>
      cases hs
      rw [ha] at r1
      cases r1
      exact .dic (.inl upd_same) (r2.mono sm)
  refine ⟨upd F a u, sm, ⟨fun c w q => ?_, I.sg, I.g1.trans sm, fun c => ?_, I.g3, I.len, fun j t w h1 h2 => ?_, I.ap, I.an, I.ob.stay sm fun c hc => ⟨rfl, by rw [upd_ne fun z => hnc (by rw [← z]; exact hc)]; exact (I.ob.free hc).1⟩⟩, rr⟩
  · by_cases z : c = a
    · subst z; rw [upd_same] at q; rw [ha]; exact q
    · rw [upd_ne z] at q; exact I.sf c w q
  · by_cases z : c = a
    · subst z; exact .inr ⟨I.g1.free f, b, g⟩
    · rw [upd_ne z]; exact I.g2 c
  · have q := I.sl j t w h1 h2
    cases q with
    | un => exact .un
    | im q => exact .im (q.mono sm)
    | ow r1 g1 g2 g3 =>
      rename_i c
      have nc : c ≠ a := fun y => by rw [y] at h2; exact hne j t h1 r1.own h2
      exact .ow (r1.mono sm rfl) (by rw [upd_ne nc]; exact g1) g2 g3
    | ob => exact .ob
/-- what is handed on at a place: an own list, dict, an object and what it has -/
def Pas (H : Hp) (es : Sls) (vs : List V) (b : Addr) : Prop := ∃ (j : Nat) (s : Sl), es[j]? = some s ∧ ((s.own = true ∧ vs[j]? = some (.ref b)) ∨ Cell H (vs.map some)[j]? s b)
open Classical in
/-- all but what is passed -/
noncomputable def butPassed (H : Hp) (es : Sls) (vs : List V) : Hp := fun b => if Pas H es vs b then none else H b
theorem len_some {vs : List V} {j : Nat} {v : V} (h : vs[j]? = some v) : (vs.map some)[j]? = some (some v) := by rw [List.getElem?_map, h] <;> rfl
theorem of_len_some {vs : List V} {j : Nat} {w : Option V} (h : (vs.map some)[j]? = some w) : ∃ v, w = some v ∧ vs[j]? = some v := by
  rw [List.getElem?_map] at h
  cases e : vs[j]? with
  | none => rw [e] at h; cases h
  | some v => rw [e] at h; cases h; exact ⟨v, rfl, rfl⟩
theorem call_core2 {K : PySem.W.Frag} {n : Nat} {m : FC} {E : XK} (hlen : ∀ {es r}, m es = some r → es.length = n) {B : Bs} {F1 : Hp} {e1 : Sls} {σ : L2.St} {H1 : Hp} {Q : VK} {vs : List V} {as : List Arg} {es es' : Sls} {d' : Sl} (I1 : IV K B F1 e1 σ H1) (r1 : ArgRs K F1 σ vs as)
    (hnd : (owIx as).Nodup) (h2 : argSs e1 as = some es) (h3 : m es = some (es', d')) (q : ∀ (F' : Hp) (v : V) (H' : Hp), Same F1 F' → IV K B F' (putBack e1 as es') σ H' → ResR K B F' H' v d' → (∀ a, v = .ref a → d'.own = true → ∀ (j : Nat) (s' : Sl), (putBack e1 as es')[j]? = some s' → s'.own = true → σ[j]? ≠ some (some (.ref a))) →
      (∀ a, v = .ref a → d'.own = true → ¬ IsCell H' (putBack e1 as es') σ a) → Q v H') :
    spM K n m vs H1 Q E := by
  have lv : vs.length = es.length := by rw [r1.length, argSs_length h2]
  -- what an argument's slot is
  have arg : ∀ (j : Nat) (s : Sl) (v : V), es[j]? = some s → vs[j]? = some v → (∃ d, s = Sl.im d ∧ Rp K F1 v d) ∨ ∃ i : Nat, as[j]? = some (Arg.ow i) ∧ e1[i]? = some s ∧ s.hand = true ∧ σ[i]? = some (some v) := fun j s v q1 q2 => by
    obtain ⟨a, q3, q4⟩ := argSs_get h2 q1
    obtain ⟨v', q5, q6⟩ := r1.get q3
    rw [q2] at q5; cases q5
    cases q6 with
    | im r => cases q4; exact .inl ⟨_, rfl, r⟩
    | ow r =>
      rename_i i
      unfold argS at q4
      simp only at q4
      cases e0 : e1[i]? with
      | none => rw [e0] at q4; cases q4
      | some s0 =>
        rw [e0] at q4
        simp only at q4
        split at q4
        · rename_i ho; cases q4; exact .inr ⟨i, q3, e0, ho, r⟩
        · cases q4
  have vat : ∀ {j : Nat} {s : Sl}, es[j]? = some s → ∃ v, vs[j]? = some v := fun {j s} h => by
    have : j < vs.length := by rw [lv]; exact (List.getElem?_eq_some_iff.mp h).1
    exact ⟨_, List.getElem?_eq_getElem this⟩
  -- where what is passed stands
  have passed : ∀ b, Pas H1 es vs b → ∃ (j i : Nat) (s : Sl), as[j]? = some (Arg.ow i) ∧ e1[i]? = some s ∧ ((s.own = true ∧ σ[i]? = some (some (.ref b))) ∨ Cell H1 σ[i]? s b) := fun b ⟨j, s, a1, a2⟩ => by
    obtain ⟨v, hv⟩ := vat a1
    rcases arg j s v a1 hv with ⟨d, rfl, _⟩ | ⟨i, b1, b2, b3, b4⟩
    · rcases a2 with ⟨a2, _⟩ | a2
      · cases a2
      · obtain ⟨c, fs, e⟩ := a2.ob; cases e
    · refine ⟨j, i, s, b1, b2, ?_⟩
      rcases a2 with ⟨a2, a3⟩ | a2
      · rw [hv] at a3; cases a3
        exact .inl ⟨a2, b4⟩
      · rw [len_some hv] at a2
        rw [b4]
        exact .inr a2
  have gb : ∀ b o, butPassed H1 es vs b = some o → H1 b = some o := fun b o q => by
    unfold butPassed at q
    split at q
    · cases q
    · exact q
  have gp : ∀ b, Pas H1 es vs b → butPassed H1 es vs b = none := fun b q => by unfold butPassed; rw [if_pos q]
  have gn : ∀ b, ¬ Pas H1 es vs b → butPassed H1 es vs b = H1 b := fun b q => by unfold butPassed; rw [if_neg q]
  -- not passed: an own thing or a cell of a slot that is not handed on
  have notOw : ∀ (i : Nat) (s : Sl) (b : Addr), i ∉ owIx as → e1[i]? = some s → s.own = true → σ[i]? = some (some (.ref b)) → ¬ Pas H1 es vs b := fun i s b hi g1 g2 g3 hp => by
    obtain ⟨j, i2, s2, a1, a2, a3⟩ := passed b hp
    have hne : i2 ≠ i := fun y => by subst y; exact hi (owIx_mem.mpr ⟨j, a1⟩)
    rcases a3 with ⟨a3, a4⟩ | a3
    · exact I1.ap i2 i s2 s hne a2 g1 a3 g2 (by rw [a4, g3])
    · exact I1.ob.aw i2 i s2 s b a2 g1 a3 g2 g3
  have notCe : ∀ (i : Nat) (s : Sl) (b : Addr), i ∉ owIx as → e1[i]? = some s → Cell H1 σ[i]? s b → ¬ Pas H1 es vs b := fun i s b hi g1 g2 hp => by
    obtain ⟨j, i2, s2, a1, a2, a3⟩ := passed b hp
    have hne : i2 ≠ i := fun y => by subst y; exact hi (owIx_mem.mpr ⟨j, a1⟩)
    rcases a3 with ⟨a3, a4⟩ | a3
    · exact I1.ob.aw i i2 s s2 b g1 a2 g2 a3 a4
    · exact I1.ob.ap i2 i s2 s b hne a2 g1 a3 g2
  -- an object's slot among the arguments
  have oarg : ∀ (j : Nat) (c : Str) (fs : List (Str × Fd)), es[j]? = some (Sl.ob c fs) → ∃ i, as[j]? = some (Arg.ow i) ∧ e1[i]? = some (Sl.ob c fs) ∧ (vs.map some)[j]? = σ[i]? := fun j c fs h => by
    obtain ⟨v, hv⟩ := vat h
    rcases arg j _ v h hv with ⟨d, e, _⟩ | ⟨i, b1, b2, b3, b4⟩
    · cases e
    · exact ⟨i, b1, b2, by rw [len_some hv, b4]⟩
  have inj : ∀ {j k i : Nat}, as[j]? = some (Arg.ow i) → as[k]? = some (Arg.ow i) → j = k := fun h1 h2 => owIx_inj hnd h1 h2
  have O0 : Objs K ⟨F1, H1, butPassed H1 es vs, vs.map some, vs.length, 0⟩ F1 es (vs.map some) H1 := by
    have back : ∀ (j : Nat) (s : Sl) (b : Addr), es[j]? = some s → Cell H1 (vs.map some)[j]? s b → ∃ i, as[j]? = some (Arg.ow i) ∧ e1[i]? = some s ∧ Cell H1 σ[i]? s b := fun j s b g1 g2 => by
      obtain ⟨c, fs, rfl⟩ := g2.ob
      obtain ⟨i, b1, b2, b3⟩ := oarg j c fs g1
      exact ⟨i, b1, b2, by rw [← b3]; exact g2⟩
    refine ⟨fun j c fs h => ?_, fun j s b g1 g2 => ?_, fun j k s t b hjk g1 g2 g3 g4 => ?_, fun j c fs a h _ => .inl (by rw [lv]; exact (List.getElem?_eq_some_iff.mp h).1), fun j k s t b g1 g2 g3 g4 g5 => ?_⟩
    · obtain ⟨i, b1, b2, b3⟩ := oarg j c fs h
      obtain ⟨a, e, o⟩ := I1.ob.ok i c fs b2
      exact ⟨a, by rw [b3]; exact e, o⟩
    · obtain ⟨i, b1, b2, b3⟩ := back j s b g1 g2
      exact ⟨(I1.ob.fr i s b b2 b3).1, gp b ⟨j, s, g1, .inr g2⟩⟩
    · obtain ⟨i, b1, b2, b3⟩ := back j s b g1 g3
      obtain ⟨i', c1, c2, c3⟩ := back k t b g2 g4
      exact I1.ob.ap i i' s t b (fun z => hjk (inj b1 (by rw [z]; exact c1))) b2 c2 b3 c3
    · obtain ⟨i, b1, b2, b3⟩ := back j s b g1 g3
      obtain ⟨v, hv⟩ := vat g2
      rw [len_some hv] at g5; cases g5
      rcases arg k t _ g2 hv with ⟨d, rfl, _⟩ | ⟨i', c1, c2, c3, c4⟩
      · cases g4
      · exact I1.ob.aw i i' s t b b2 c2 b3 g4 c4
  refine ⟨lv.trans (hlen h3), F1, butPassed H1 es vs, es, es', d', ⟨I1.sf, gb, Same.refl _, fun b => .inl rfl, fun b z => z, by rw [List.length_map, lv], fun j s w q1 q2 => ?_, fun i j s t hij q1 q2 o1 o2 => ?_, fun i v _ hv => hv, O0⟩, h3, fun F' v H' I' rv rc => ?_⟩
  · obtain ⟨v, rfl, q3⟩ := of_len_some q2
    rcases arg j s v q1 q3 with ⟨d, rfl, r⟩ | ⟨i, b1, b2, b3, b4⟩
    · exact .im r
    · rcases Sl.hand_cases b3 with b3 | ⟨c, fs, rfl⟩
      · obtain ⟨a, ev, o, f1, f2, f3⟩ := (I1.sl i s _ b2 b4).of_own b3
        cases ev
        refine .ow o f1 (gp a ⟨j, s, q1, .inl ⟨b3, q3⟩⟩) fun z => ?_
        have hj : j < vs.length := (List.getElem?_eq_some_iff.mp q3).1
        exact absurd z (by simp [hj])
      · exact .ob
  · intro z
    obtain ⟨v1, e1'⟩ := vat q1
    obtain ⟨v2, e2'⟩ := vat q2
    rw [len_some e1', len_some e2'] at z
    cases z
    rcases arg i s v1 q1 e1' with ⟨d, rfl, _⟩ | ⟨i1, b1, b2, b3, b4⟩
    · cases o1
    rcases arg j t v1 q2 e2' with ⟨d, rfl, _⟩ | ⟨i2, c1, c2, c3, c4⟩
    · cases o2
    by_cases hi : i1 = i2
    · subst hi; exact hij (owIx_inj hnd b1 c1)
    · exact I1.ap i1 i2 s t hi b2 c2 o1 o2 (by rw [b4, c4])
  · -- behind the call
    have les : es'.length = as.length := by
      have := I'.len
      rw [List.length_map] at this
      rw [this, r1.length]
    have sm : Same F1 F' := I'.g1
    have rv' : ResR K B F' H' v d' := by
      cases rv with
      | im r => exact .im r
      | ow o f g b =>
        obtain ⟨f1, f2, f3, f4⟩ := I1.free (p := _) b
        exact .ow o f f2 f4
    have far : ∀ a, v = .ref a → d'.own = true → H1 a = none := fun a ev ho => by
      cases rv with
      | im r => cases ho
      | ow o f g b => cases ev; exact b
    have pnone : ∀ b, Pas H1 es vs b → B.G b = none := fun b hp => by
      obtain ⟨j, i, s, a1, a2, a3⟩ := passed b hp
      rcases a3 with ⟨a3, a4⟩ | a3
      · obtain ⟨a, ev, _, _, f2, _⟩ := (I1.sl i s _ a2 a4).of_own a3
        cases ev
        exact f2
      · exact (I1.ob.fr i s b a2 a3).2
    -- what is passed at a place: the slot there
    have at' : ∀ (i j : Nat) (s : Sl), as[j]? = some (Arg.ow i) → es'[j]? = some s → σ[i]? = (vs.map some)[j]? := fun i j s a1 a2 => by
      obtain ⟨v1, c1, c2⟩ := r1.get a1
      cases c2 with
      | ow c2 => rw [c2, len_some c1]
    have freshOr : ∀ b, butPassed H1 es vs b = none → H1 b = none ∨ Pas H1 es vs b := fun b hb => by
      by_cases hp : Pas H1 es vs b
      · exact .inr hp
      · rw [gn b hp] at hb; exact .inl hb
    have keepH : ∀ b, ¬ Pas H1 es vs b → H1 b ≠ none → H' b = H1 b := fun b hp hb => by
      cases ho : H1 b with
      | none => exact absurd ho hb
      | some u => exact I'.sg b u (show butPassed H1 es vs b = some u by rw [gn b hp]; exact ho)
    have back : ∀ {k : Nat} {u : Sl}, (putBack e1 as es')[k]? = some u → u.own = true → ∃ u', e1[k]? = some u' ∧ u'.own = true ∨ (∃ u', e1[k]? = some u' ∧ u'.hand = true ∧ ∃ j, as[j]? = some (Arg.ow k) ∧ es'[j]? = some u) := fun {k u} hk ho => by
        rcases putBack_get hnd les hk with ⟨j', a1, a2⟩ | ⟨a1, a2⟩
        · obtain ⟨s0, d1, d2⟩ := argSs_getA h2 a1
          unfold argS at d2
          simp only at d2
          split at d2
          · rename_i sx hx
            split at d2
            · rename_i hox; exact ⟨sx, .inr ⟨sx, hx, hox, j', a1, a2⟩⟩
            · cases d2
          · cases d2
        · exact ⟨u, .inl ⟨a2, ho⟩⟩
    -- cells not passed stay
    have stayC : ∀ (i : Nat) (s : Sl) (b : Addr), i ∉ owIx as → e1[i]? = some s → Cell H' σ[i]? s b → Cell H1 σ[i]? s b := fun i s b hi g1 g2 => g2.mono fun a c fs e1' e2' => by
      subst e1'
      have hc : Cell H1 σ[i]? (.ob c fs) a := ⟨c, fs, a, rfl, e2', .inl rfl⟩
      exact keepH a (notCe i _ a hi g1 hc) (I1.ob.there ⟨i, _, g1, hc⟩)
    -- the address at a place that is handed on is local, or a parameter's
    have local' : ∀ (i j : Nat) (a : Addr), as[j]? = some (Arg.ow i) → σ[i]? = some (some (.ref a)) → i < B.np - B.k ∨ B.H a = none := fun i j a a1 hv => by
      obtain ⟨s0, d1, d2⟩ := argSs_getA h2 a1
      obtain ⟨v1, c1⟩ := vat d1
      rcases arg j s0 v1 d1 c1 with ⟨d, rfl, _⟩ | ⟨i', b1, b2, b3, b4⟩
      · unfold argS at d2
        simp only at d2
        split at d2
        · split at d2
          · rename_i ho; cases d2; cases ho
          · cases d2
        · cases d2
      · rw [a1] at b1; cases b1
        rcases Sl.hand_cases b3 with b3 | ⟨c, fs, rfl⟩
        · obtain ⟨a', ev, _, _, _, f3⟩ := (I1.sl i s0 _ b2 hv).of_own b3
          cases ev
          by_cases y : i < B.np - B.k
          · exact .inl y
          · exact .inr (f3 (decide_eq_false y))
        · exact I1.ob.tp i c fs a b2 hv
    have O1 : Objs K B F' (putBack e1 as es') σ H' := by
      refine ⟨fun i c fs h => ?_, fun i s b g1 g2 => ?_, fun i k s t b hik g1 g2 g3 g4 => ?_, fun i c fs a h hv => ?_, fun i k s t b g1 g2 g3 g4 g5 => ?_⟩
      · rcases putBack_get hnd les h with ⟨j, a1, a2⟩ | ⟨a1, a2⟩
        · obtain ⟨a, e, o⟩ := I'.ob.ok j c fs a2
          exact ⟨a, by rw [at' i j _ a1 a2]; exact e, o⟩
        · obtain ⟨a, e, C, dx, kvs, n', ha, r, nd⟩ := I1.ob.ok i c fs a2
          have hc : ∀ b, Cell H1 σ[i]? (.ob c fs) b → H' b = H1 b := fun b hb => keepH b (notCe i _ b a1 a2 hb) (I1.ob.there ⟨i, _, a2, hb⟩)
          refine ⟨a, e, C, dx, kvs, n', ?_, r.go sm fun j b hb => hc b ⟨c, fs, a, rfl, e, .inr ⟨C, dx, kvs, j, ha, hb⟩⟩, nd⟩
          rw [hc a ⟨c, fs, a, rfl, e, .inl rfl⟩]; exact ha
      · rcases putBack_get hnd les g1 with ⟨j, a1, a2⟩ | ⟨a1, a2⟩
        · rw [at' i j s a1 a2] at g2
          obtain ⟨f1, f2⟩ := I'.ob.fr j s b a2 g2
          refine ⟨f1, ?_⟩
          rcases freshOr b f2 with z | z
          · exact (I1.free z).2.1
          · exact pnone b z
        · have g2' := stayC i s b a1 a2 g2
          obtain ⟨f1, f2⟩ := I1.ob.fr i s b a2 g2'
          refine ⟨?_, f2⟩
          rcases I'.g2 b with y | ⟨_, y, _⟩
          · exact y.trans f1
          · exact absurd y (I1.ob.there ⟨i, s, a2, g2'⟩)
      · have mixed : ∀ (i k j : Nat) (s t : Sl), as[j]? = some (Arg.ow i) → es'[j]? = some s → k ∉ owIx as → e1[k]? = some t → Cell H' σ[i]? s b → Cell H' σ[k]? t b → False := fun i k j s t a1 a2 c1 c2 g3 g4 => by
          rw [at' i j s a1 a2] at g3
          have g4' := stayC k t b c1 c2 g4
          rcases freshOr b (I'.ob.fr j s b a2 g3).2 with z | z
          · exact I1.ob.there ⟨k, t, c2, g4'⟩ z
          · exact notCe k t b c1 c2 g4' z
        rcases putBack_get hnd les g1 with ⟨j, a1, a2⟩ | ⟨a1, a2⟩
        · rcases putBack_get hnd les g2 with ⟨j', c1, c2⟩ | ⟨c1, c2⟩
          · rw [at' i j s a1 a2] at g3
            rw [at' k j' t c1 c2] at g4
            exact I'.ob.ap j j' s t b (fun z => hik (by subst z; rw [a1] at c1; cases c1; rfl)) a2 c2 g3 g4
          · exact mixed i k j s t a1 a2 c1 c2 g3 g4
        · rcases putBack_get hnd les g2 with ⟨j', c1, c2⟩ | ⟨c1, c2⟩
          · exact mixed k i j' t s c1 c2 a1 a2 g4 g3
          · exact I1.ob.ap i k s t b hik a2 c2 (stayC i s b a1 a2 g3) (stayC k t b c1 c2 g4)
      · rcases putBack_get hnd les h with ⟨j, a1, a2⟩ | ⟨a1, a2⟩
        · exact local' i j a a1 hv
        · exact I1.ob.tp i c fs a a2 hv
      · rcases putBack_get hnd les g1 with ⟨j, a1, a2⟩ | ⟨a1, a2⟩
        · rcases putBack_get hnd les g2 with ⟨j', c1, c2⟩ | ⟨c1, c2⟩
          · rw [at' i j s a1 a2] at g3
            rw [at' k j' t c1 c2] at g5
            exact I'.ob.aw j j' s t b a2 c2 g3 g4 g5
          · rw [at' i j s a1 a2] at g3
            rcases freshOr b (I'.ob.fr j s b a2 g3).2 with z | z
            · obtain ⟨a', ev, o', _⟩ := (I1.sl k t _ c2 g5).of_own g4
              cases ev
              exact o'.some z
            · exact notOw k t b c1 c2 g4 g5 z
        · have g3' := stayC i s b a1 a2 g3
          rcases putBack_get hnd les g2 with ⟨j', c1, c2⟩ | ⟨c1, c2⟩
          · rw [at' k j' t c1 c2] at g5
            obtain ⟨a', ev, _, _, f2, _⟩ := (I'.sl j' t _ c2 g5).of_own g4
            cases ev
            rcases freshOr b f2 with z | z
            · exact I1.ob.there ⟨i, s, a2, g3'⟩ z
            · exact notCe i s b a1 a2 g3' z
          · exact I1.ob.aw i k s t b a2 c2 g3' g4 g5
    -- own slots behind the call: their addresses
    have oadr : ∀ (k : Nat) (u : Sl) (b : Addr), (putBack e1 as es')[k]? = some u → u.own = true → σ[k]? = some (some (.ref b)) → H1 b ≠ none := fun k u b hk ho hv => by
      obtain ⟨u', h | ⟨u'', h1, h2, _⟩⟩ := back hk ho
      · obtain ⟨a', ev, o', _⟩ := (I1.sl k u' _ h.1 hv).of_own h.2
        cases ev
        exact o'.some
      · rcases Sl.hand_cases h2 with h2 | ⟨c, fs, rfl⟩
        · obtain ⟨a', ev, o', _⟩ := (I1.sl k u'' _ h1 hv).of_own h2
          cases ev
          exact o'.some
        · exact I1.ob.there ⟨k, _, h1, c, fs, b, rfl, hv, .inl rfl⟩
    refine q F' v H' sm ⟨I'.sf, fun b u qb => ?_, I1.g1.trans sm, fun b => ?_, fun b qb => I1.g3 b (I'.g3 b qb), by rw [putBack_length]; exact I1.len, fun i s w q1 q2 => ?_, fun i j s t hij q1 q2 o1 o2 => ?_, I1.an, O1⟩ rv' ?_ ?_
    · refine I'.sg b u (show butPassed H1 es vs b = some u from ?_)
      rw [gn]
      · exact I1.sg b u qb
      · intro z
        rw [pnone b z] at qb; cases qb
    · rcases I'.g2 b with z | ⟨z1, z2, z3⟩
      · rw [z]; exact I1.g2 b
      · obtain ⟨f1, f2, f3, f4⟩ := I1.free (p := b) z2
        exact .inr ⟨f3, f4, f2⟩
    · rcases putBack_get hnd les q1 with ⟨j, a1, a2⟩ | ⟨a1, a2⟩
      · have ew := at' i j s a1 a2
        have z := I'.sl j s w a2 (by rw [← ew]; exact q2)
        cases z with
        | un => exact .un
        | im r => exact .im r
        | ow o g1 g2 g3 =>
          rename_i a
          obtain ⟨f2, f4⟩ : B.G a = none ∧ (decide (i < B.np - B.k) = false → B.H a = none) := by
            rcases freshOr a g2 with y | y
            · obtain ⟨_, y2, _, y4⟩ := I1.free (p := a) y
              exact ⟨y2, fun _ => y4⟩
            · refine ⟨pnone a y, fun y4 => ?_⟩
              rcases local' i j a a1 q2 with y5 | y5
              · exact absurd y5 (by simpa using y4)
              · exact y5
          exact .ow o g1 f2 f4
        | ob => exact .ob
      · have z := I1.sl i s w a2 q2
        cases z with
        | un => exact .un
        | im r => exact .im (r.mono sm)
        | ow o g1 g2 g3 =>
          rename_i a
          have ha : H' a = H1 a := keepH a (notOw i s a a1 a2 o.own q2) o.some
          refine .ow (o.mono sm ha) ?_ g2 g3
          rcases I'.g2 a with y | ⟨_, y, _⟩
          · exact y.trans g1
          · exact absurd y o.some
        | ob => exact .ob
    · intro z
      rcases putBack_get hnd les q1 with ⟨j1, a1, a2⟩ | ⟨a1, a2⟩
      · rcases putBack_get hnd les q2 with ⟨j2, c1, c2⟩ | ⟨c1, c2⟩
        · rw [at' i j1 s a1 a2, at' j j2 t c1 c2] at z
          exact I'.ap j1 j2 s t (fun y => hij (by subst y; rw [a1] at c1; cases c1; rfl)) a2 c2 o1 o2 z
        · obtain ⟨w, hw, r⟩ := I1.slot c2
          obtain ⟨a, ev, _⟩ := r.of_own o2
          subst ev
          rw [hw] at z
          have hv : (vs.map some)[j1]? = some (some (.ref a)) := by rw [← at' i j1 s a1 a2]; exact z
          obtain ⟨a', ev, _, _, f2, _⟩ := (I'.sl j1 s _ a2 hv).of_own o1
          cases ev
          rcases freshOr a f2 with y | y
          · exact oadr j t a q2 o2 hw y
          · exact notOw j t a c1 c2 o2 hw y
      · rcases putBack_get hnd les q2 with ⟨j2, c1, c2⟩ | ⟨c1, c2⟩
        · obtain ⟨w, hw, r⟩ := I1.slot a2
          obtain ⟨a, ev, _⟩ := r.of_own o1
          subst ev
          rw [hw] at z
          have hv : (vs.map some)[j2]? = some (some (.ref a)) := by rw [← at' j j2 t c1 c2]; exact z.symm
          obtain ⟨a', ev, _, _, f2, _⟩ := (I'.sl j2 t _ c2 hv).of_own o2
          cases ev
          rcases freshOr a f2 with y | y
          · exact oadr i s a q1 o1 hw y
          · exact notOw i s a a1 a2 o1 hw y
        · exact I1.ap i j s t hij a2 c2 o1 o2 z
    · intro a ev ho j s' q1 o1 q2
      exact oadr j s' a q1 o1 q2 (far a ev ho)
    · rintro a ev ho ⟨i, s, g1, g2⟩
      rcases putBack_get hnd les g1 with ⟨j, a1, a2⟩ | ⟨a1, a2⟩
      · rw [at' i j s a1 a2] at g2
        exact rc a ev ho ⟨j, s, a2, g2⟩
      · exact I1.ob.there ⟨i, s, a2, stayC i s a a1 a2 g2⟩ (far a ev ho)
theorem call_core {K : PySem.W.Frag} {np n : Nat} {m : FC} {t : TA} {fa : FA} {E : XK} (h : DA K np t fa) (hlen : ∀ {es r}, m es = some r → es.length = n) :
    ∀ (B : Bs) (F : Hp) (e : Sls) (σ : L2.St) (H : Hp) (Q : VK), B.np = np → IV K B F e σ H → ∀ (e' : Sls) (d : Sl), fCallS m fa e = some (e', d) →
      (∀ (F' : Hp) (v : V) (H' : Hp), Same F F' → IV K B F' e' σ H' → ResR K B F' H' v d → (∀ a, v = .ref a → d.own = true → ∀ (j : Nat) (s' : Sl), e'[j]? = some s' → s'.own = true → σ[j]? ≠ some (some (.ref a))) → (∀ a, v = .ref a → d.own = true → ¬ IsCell H' e' σ a) → Q v H') → tCall (spM K n m) [] E t σ H Q := by
  intro B F e σ H Q hn I e' d hf q
  obtain ⟨⟨e1, as⟩, h1, hf⟩ := bnd hf
  simp only at hf
  split at hf
  · rename_i hnd
    obtain ⟨es, h2, hf⟩ := bnd hf
    obtain ⟨⟨es', d'⟩, h3, hf⟩ := bnd hf
    cases hf
    refine h B F e σ H _ hn I e1 as h1 fun F1 vs H1 s1 I1 r1 => ?_
    rw [List.append_nil]
    exact call_core2 hlen I1 r1 hnd h2 h3 fun F' v H' sm I' rv ne nc => q F' v H' (s1.trans sm) I' rv ne nc
  · cases hf
theorem de_call {K : PySem.W.Frag} {np n : Nat} {m : FC} {t : TA} {fa : FA} {E : XK} (h : DA K np t fa) (hlen : ∀ {es r}, m es = some r → es.length = n) : DE K np (tCall (spM K n m) [] E t) (fCall m fa) := by
  intro B F e σ H Q hn I e' d hf q
  obtain ⟨⟨e1, s⟩, h1, hf⟩ := bnd hf
  obtain ⟨d', h2, hf⟩ := bnd hf
  cases hf
  refine call_core (E := E) h hlen B F e σ H Q hn I e1 s h1 fun F' v H' s' I' r ne nc => ?_
  cases r with
  | im r => cases h2; exact q F' v H' s' I' r
  | ow o f g b =>
    obtain ⟨F2, s2, I2, r2⟩ := I'.freezeNew o f g b h2 (ne _ rfl o.own) (nc _ rfl o.own)
    exact q F2 _ H' (s'.trans s2) I2 r2
theorem dow_call {K : PySem.W.Frag} {np n : Nat} {m : FC} {t : TA} {fa : FA} {E : XK} (h : DA K np t fa) (hlen : ∀ {es r}, m es = some r → es.length = n) : DOw K np (tCall (spM K n m) [] E t) (oCall m fa) := by
  intro B F e σ H Q hn I e' s hf q
  obtain ⟨⟨e1, s0⟩, h1, hf⟩ := bnd hf
  split at hf
  · rename_i ho
    cases hf
    refine call_core (E := E) h hlen B F e σ H Q hn I _ _ h1 fun F' v H' s' I' r ne nc => ?_
    cases r with
    | im r => cases ho
    | ow o f g b => exact q F' _ H' s' I' o f g b (ne _ rfl ho) (nc _ rfl ho)
  · cases hf
/-- an own thing, made anew, as the only argument -/
def fCall1 (m : FC) (k : Sls → Option (Sls × Sl)) : FE := fun e => (k e).bind fun p => if p.2.own = true then (m [p.2]).bind fun q => match q.2 with
  | .im d => some (p.1, d)
  | _ => none
  else none
theorem de_call1 {K : PySem.W.Frag} {np : Nat} {m : FC} {t : TE} {fo : Sls → Option (Sls × Sl)} {E : XK} (h : DOw K np t fo) : DE K np (tCall (spM K 1 m) [] E (tCons t tNil)) (fCall1 m fo) := by
  intro B F e σ H Q hn I e' d hf q
  obtain ⟨⟨e1, s⟩, h1, hf⟩ := bnd hf
  simp only at hf
  split at hf
  · rename_i ho
    obtain ⟨⟨es', s'⟩, h3, hf⟩ := bnd hf
    refine h B F e σ H _ hn I e1 s h1 fun F1 a H1 s1 I1 o f1 f2 f3 ne nc => ?_
    have gb : ∀ b u, (fun b => if b = a then none else H1 b : Hp) b = some u → H1 b = some u := fun b u z => by
      by_cases hb : b = a
      · simp [hb] at z
      · simpa [hb] using z
    refine ⟨rfl, F1, (fun b => if b = a then none else H1 b), [s], es', s', ⟨I1.sf, gb, Same.refl _, fun b => .inl rfl, fun b z => z, rfl, fun j s0 w q1 q2 => ?_, fun i j s t hij q1 q2 o1 o2 => ?_, fun i v _ hv => hv, .nil fun j s0 q1 c fs z => ?_⟩, h3, fun F' v H' I' rv _ => ?_⟩
    · match j with
      | 0 =>
        simp at q1 q2
        subst q1
        rw [← q2]
        exact .ow o f1 (by simp) fun z => absurd z (by simp)
      | j + 1 => simp at q1
    · match i, j with
      | 0, 0 => exact absurd rfl hij
      | i + 1, _ => simp at q1
      | 0, j + 1 => simp at q2
    · match j with
      | 0 => simp at q1; subst q1; subst z; cases ho
      | j + 1 => simp at q1
    · have sm : Same F1 F' := I'.g1
      have ra : Rp K F' v d ∧ e1 = e' := by
        split at hf
        · rename_i d0 hd
          simp only at hd
          subst hd
          cases hf
          cases rv with
          | im r => exact ⟨r, rfl⟩
          | ow o _ _ _ => cases o
        · cases hf
      obtain ⟨ra, rfl⟩ := ra
      refine q F' v H' (s1.trans sm) ⟨I'.sf, fun b u qb => ?_, I1.g1.trans sm, fun b => ?_, fun b qb => I1.g3 b (I'.g3 b qb), I1.len, fun i s w q1 q2 => ?_, I1.ap, I1.an, I1.ob.stay sm fun b hb => ?_⟩ ra
      · have hb : b ≠ a := fun z => by rw [z, f2] at qb; cases qb
        exact I'.sg b u (show (if b = a then none else H1 b) = some u by rw [if_neg hb]; exact I1.sg b u qb)
      · rcases I'.g2 b with z | ⟨z1, z2, z3⟩
        · rw [z]; exact I1.g2 b
        · obtain ⟨g1, g2, g3, g4⟩ := I1.free (p := b) z2
          exact .inr ⟨g3, g4, g2⟩
      · have z := I1.sl i s w q1 q2
        cases z with
        | un => exact .un
        | im r => exact .im (r.mono sm)
        | ow o' g1 g2 g3 =>
          rename_i c
          have hc : c ≠ a := fun y => by rw [y] at q2; exact ne i s q1 o'.own q2
          have hac : H' c = H1 c := by
            cases ho : H1 c with
            | none => exact absurd ho o'.some
            | some u => exact I'.sg c u (show (if c = a then none else H1 c) = some u by rw [if_neg hc]; exact ho)
          refine .ow (o'.mono sm hac) ?_ g2 g3
          rcases I'.g2 c with y | ⟨_, y, _⟩
          · exact y.trans g1
          · exact absurd y o'.some
        | ob => exact .ob
      · have hba : b ≠ a := fun y => nc (by rw [← y]; exact hb)
        refine ⟨?_, ?_⟩
        · cases ho : H1 b with
          | none => exact absurd ho (I1.ob.there hb)
          | some u => exact I'.sg b u (show (if b = a then none else H1 b) = some u by rw [if_neg hba]; exact ho)
        · rcases I'.g2 b with y | ⟨_, y, _⟩
          · exact y.trans (I1.ob.free hb).1
          · exact absurd y (I1.ob.there hb)
  · cases hf
end M

namespace M
open PySem PySem.Spec PyProof.Rows L2

/-! ### room, counted finely: one for each call -/
structure RoomT (k : Nat) (A : Around) : Prop where
  hd : A.handled = none
  dp : A.depth + k + 8 < recursionLimit
  un : A.units + 5 * k + 200 < cLine
theorem RoomT.mono {j k : Nat} {A : Around} (r : RoomT k A) (h : j ≤ k) : RoomT j A := ⟨r.hd, by have := r.dp; omega, by have := r.un; omega⟩
theorem RoomT.deeper {k : Nat} {A : Around} (r : RoomT (k + 1) A) (env : PySem.Env) : RoomT k (A.deeper env) :=
  ⟨r.hd, by have := r.dp; show A.depth + 1 + k + 8 < _; omega, by have := r.un; show A.units + 3 + 5 * k + 200 < _; omega⟩
theorem RoomT.of {j k : Nat} {A : Around} (r : Room j A) (h : k + 3 ≤ 3 * j) : RoomT k A := ⟨r.hd, by have := r.dp; omega, by have := r.un; omega⟩
structure FnT (P : Program) (w : World) (K : PySem.W.Frag) (mg : Str → Option Value) (base : Heap) (k : Nat) (f : Addr) (fd : FuncData) (ps : List Str) (sp : Sp) : Prop where
  len : ∀ vs H Q E, sp vs H Q E → vs.length = ps.length
  run : ∀ (A : Around) (outer : List PySem.Env) (s : Shared) (H : Hp) (args : Args) (us : List Value) (vs : List V) (Q : VK) (E : XK), RoomT k A → Env0 P w K mg base A outer s H → BindsTo s fd args (ps.zip us) → Vals vs us → sp vs H Q E →
    codeAny (model P w) A (.call (.ref f) args) (CR CX0 outer P w H s Q E) s
theorem FnT.mono {P : Program} {w : World} {K : PySem.W.Frag} {mg : Str → Option Value} {base : Heap} {j k : Nat} {f : Addr} {fd : FuncData} {ps : List Str} {sp : Sp} (F : FnT P w K mg base j f fd ps sp) (h : j ≤ k) :
    FnT P w K mg base k f fd ps sp := ⟨F.len, fun A outer s H args us vs Q E hr => F.run A outer s H args us vs Q E (hr.mono h)⟩
theorem FnT.imp {P : Program} {w : World} {K : PySem.W.Frag} {mg : Str → Option Value} {base : Heap} {k : Nat} {f : Addr} {fd : FuncData} {ps : List Str} {sp sp' : Sp} (F : FnT P w K mg base k f fd ps sp)
    (h : ∀ vs H Q E, sp' vs H Q E → sp vs H Q E) : FnT P w K mg base k f fd ps sp' :=
  ⟨fun vs H Q E q => F.len vs H Q E (h _ _ _ _ q), fun A outer s H args us vs Q E hr he hb hv hs => F.run A outer s H args us vs Q E hr he hb hv (h _ _ _ _ hs)⟩
theorem FnT.ok {P : Program} {w : World} {K : PySem.W.Frag} {mg : Str → Option Value} {base : Heap} {j k : Nat} {f : Addr} {fd : FuncData} {ps : List Str} {sp : Sp} (F : FnT P w K mg base k f fd ps sp) (h : k + 3 ≤ 3 * j) : FnOk P w K mg base CX0 j f fd ps sp :=
  ⟨F.len, fun A outer s H args us vs Q E hr => F.run A outer s H args us vs Q E (.of hr h)⟩
section
variable {X : Cx} {k : Nat} {f C : Addr} {fd : FuncData} {ps ks : List Str} {sp : Sp} {dvs : List V} {ds : List Value} {E : XK} {x : Str} {p pos : Pos} {e : Expr} {es : List Expr} {kws : List Keyword} {t tk : TA} {g : List Value → List Value → List Value} {gV : List V → List V → List V}
theorem run_fnT {pins : List (Addr × Obj)} {σ : L2.St} {H : Hp} {s : Shared} {Q : VK} {us : List Value} {vs : List V} (F : FnT X.prog X.w X.K X.mg X.base k f fd ps sp) (hr : RoomT k X.A) (hb : Binds X.K fd ps ds) (hd : Vals dvs ds) (hx : Passes CX0 X E)
    (I : Inv X pins σ H s) (r : Vals vs us) (h : sp (vs ++ dvs) H Q E) : wpAny (model X.prog X.w) X.A (call (.ref f) us) (EP X pins σ Q) X.xe s := by
  have r2 : Vals (vs ++ dvs) (us ++ ds) := r.append hd
  have hl : (us ++ ds).length = ps.length := by rw [← r2.length]; exact F.len _ _ _ _ h
  refine wpAny_call (codeAny_mono (F.run X.A X.stack s H ⟨us, []⟩ (us ++ ds) (vs ++ dvs) Q E hr I.env0 (hb s us I.kIn hl) r2 h) fun r s' hq => ?_)
  cases r with
  | error e => exact hx pins σ H s e s' I hq
  | ok fl =>
    cases fl with
    | ret u => exact I.after hq
    | next => exact False.elim hq
    | brk => exact False.elim hq
    | cont => exact False.elim hq
theorem pe_callT (F : FnT X.prog X.w X.K X.mg X.base k f fd ps sp) (hr : RoomT k X.A) (hg : Gl X x) (hm : X.mg x = some (.ref f)) (hk : PySem.W.keepIn X.K (.ref f) = true) (hb : Binds X.K fd ps ds) (hd : Vals dvs ds) (hx : Passes CX0 X E)
    (ha : PA X (e :: es) t) (hdb : (x == ("__debug__" : Str)) = false := by decide) (he : starEach (e :: es) X.env = (false, eval e X.env) :: starEach es X.env := by rfl) (hpl : (backTo pos (starEach es X.env)).any (·.1) = false := by rfl) :
    PE X (.Call (.Name x p) (e :: es) [] pos) (tCall sp dvs E t) := by
  refine ⟨fun pins s σ H Q I h => ?_⟩
  refine wpAny_Call_Name_kw (ld_glob I hg hm ?_ hdb)
  refine PySem.W.callWith_K (h₀ := X.base) I.ok.mod.kin hk (thn (ha.run pos pins s σ H _ I h) fun us s1 ⟨vs, H1, I1, r, q⟩ => ⟨I1.kIn, ?_⟩) he hpl
  exact run_fnT F hr hb hd hx I1 r q
theorem pe_callLT {i : Nat} (F : FnT X.prog X.w X.K X.mg X.base k f fd ps sp) (hr : RoomT k X.A) (hN : X.N[i]? = some x) (hv : Vis X.env.scope x) (hk : PySem.W.keepIn X.K (.ref f) = true) (hb : Binds X.K fd ps ds) (hd : Vals dvs ds) (hx : Passes CX0 X E) (ha : PA X (e :: es) t)
    (hdb : (x == ("__debug__" : Str)) = false := by decide) (hcd : (x == ("__classdict__" : Str)) = false := by decide)
    (he : starEach (e :: es) X.env = (false, eval e X.env) :: starEach es X.env := by rfl) (hpl : (backTo pos (starEach es X.env)).any (·.1) = false := by rfl) : PE X (.Call (.Name x p) (e :: es) [] pos) (fun σ H Q => σ[i]? = some (some (.ref f)) ∧ t σ H fun vs H1 => sp (vs ++ dvs) H1 Q E) := by
  refine ⟨fun pins s σ H Q I h => ?_⟩
  obtain ⟨hs, ht⟩ := h
  refine wpAny_Call_Name_kw (thn ((pe_var (pos := p) hN hv hdb hcd).run pins s σ H (fun v H1 => v = .ref f ∧ H1 = H) I ⟨.ref f, hs, rfl, rfl⟩) fun u s1 ⟨v, H1, I1, r1, q1⟩ => ?_)
  obtain ⟨rfl, rfl⟩ := q1
  cases r1
  refine PySem.W.callWith_K (h₀ := X.base) I.ok.mod.kin hk (thn (ha.run pos pins s1 σ _ _ I1 ht) fun us s2 ⟨vs, H2, I2, r, q⟩ => ⟨I2.kIn, ?_⟩) he hpl
  exact run_fnT F hr hb hd hx I2 r q
theorem run_fnkT {pins : List (Addr × Obj)} {σ : L2.St} {H : Hp} {s : Shared} {Q : VK} {us ws : List Value} {vs zs : List V} (F : FnT X.prog X.w X.K X.mg X.base k f fd ps sp) (hr : RoomT k X.A) (hb : KBinds X.K fd ps ks g gV) (hx : Passes CX0 X E)
    (I : Inv X pins σ H s) (r : Vals vs us) (rz : Vals zs ws) (h : sp (gV vs zs) H Q E) : wpAny (model X.prog X.w) X.A (call (.ref f) us (ks.zip ws)) (EP X pins σ Q) X.xe s := by
  have r2 := hb.rel r rz
  have hl : (g us ws).length = ps.length := by rw [← r2.length]; exact F.len _ _ _ _ h
  refine wpAny_call (codeAny_mono (F.run X.A X.stack s H ⟨us, ks.zip ws⟩ (g us ws) (gV vs zs) Q E hr I.env0 (hb.to s us ws I.kIn hl) r2 h) fun r s' hq => ?_)
  cases r with
  | error e => exact hx pins σ H s e s' I hq
  | ok fl =>
    cases fl with
    | ret u => exact I.after hq
    | next => exact False.elim hq
    | brk => exact False.elim hq
    | cont => exact False.elim hq
theorem pe_callKT (F : FnT X.prog X.w X.K X.mg X.base k f fd ps sp) (hr : RoomT k X.A) (hg : Gl X x) (hm : X.mg x = some (.ref f)) (hk : PySem.W.keepIn X.K (.ref f) = true) (hb : KBinds X.K fd ps ks g gV) (hx : Passes CX0 X E)
    (ha : PA X (e :: es) t) (hkw : PK X kws tk) (hall : (backToKw pos (keywordEach kws X.env)).all (·.1.isSome) = true := by rfl) (hks : (backToKw pos (keywordEach kws X.env)).filterMap (·.1) = ks := by rfl)
    (hdb : (x == ("__debug__" : Str)) = false := by decide) (he : starEach (e :: es) X.env = (false, eval e X.env) :: starEach es X.env := by rfl)
    (hpl : ((backTo pos (starEach (e :: es) X.env)).any (·.1) || (backToKw pos (keywordEach kws X.env)).any (·.1.isNone)) = false := by rfl) :
    PE X (.Call (.Name x p) (e :: es) kws pos) (tCallK sp gV E t tk) := by
  refine ⟨fun pins s σ H Q I h => ?_⟩
  refine wpAny_Call_Name_kw (ld_glob I hg hm ?_ hdb)
  refine PySem.W.callWith_KW (h₀ := X.base) I.ok.mod.kin hk hall (thn (ha.run pos pins s σ H _ I h) fun us s1 ⟨vs, H1, I1, r, q⟩ => ?_) hpl he
  refine thn (hkw.run pos pins s1 σ H1 _ I1 q) fun ws s2 ⟨zs, H2, I2, rz, q2⟩ => ⟨I2.kIn, ?_⟩
  rw [hks]
  exact run_fnkT F hr hb hx I2 r rz q2
end
theorem fn_ofT {P : Program} {w : World} {K : PySem.W.Frag} {mg : Str → Option Value} {base : Heap} {k : Nat} {f : Addr} {name qual : Str} {params : Arguments} {body : List Stmt} {scope : Scope} {dV kV doc pm cdv ct oc : Value} {an od : Option Addr}
    {osl : Array (Option Value)} {N ps : List Str} {sp : Sp} (lk : K.lookup f = some ⟨oc, od, .func (PySem.W.fnOf name qual params body scope dV kV doc pm an cdv ct), osl⟩) (hcd : PySem.W.codeIn K cdv qual = true) (S : FnScope N ps scope)
    (len : ∀ vs H Q E, sp vs H Q E → vs.length = ps.length)
    (hbody : ∀ (A : Around) (outer : List PySem.Env) (s : Shared) (H : Hp) (vs : List V) (Q : VK) (E : XK), RoomT k (A.deeper (envOfC qual scope s.heap.objs.size f cdv)) → sp vs H Q E →
      ∃ t, PSs (cxOf CX0 P w K mg base N qual scope f cdv A outer s H E) body t ∧ t { nx := fun _ H' => Q .non H', rt := Q } (start N vs) H) :
    FnT P w K mg base (k + 1) f (PySem.W.fnOf name qual params body scope dV kV doc pm an cdv ct) ps sp := by
  refine ⟨len, fun A outer s H args us vs Q E hr e0 hb r hsp => ?_⟩
  have hl := len _ _ _ _ hsp
  have KX : K.In s.heap := e0.mod.kin.keeps fun b o e => (e0.bs b o e).1
  have lim : s.heap.NoLimit := e0.mod.nolimit.keeps fun b o e => (e0.bs b o e).1
  have hkind : ∀ y ∈ ps.zip us, scope.names.lookup y.1 = some .local ∨ (scope.names.lookup y.1 = some .cell ∧ ((cellsFrom (s.heap.objs.size + 1) scope.names []).lookup y.1).isSome = true) := fun ⟨n, v⟩ hy => by
    rcases S.par n (List.of_mem_zip hy).1 with q | q
    · exact .inl q
    · exact .inr ⟨q, PySem.W.cellsFrom_some _ _ _ (.inl q)⟩
  refine codeAny_call_function (by have := hr.dp; omega) (KX _ _ lk) rfl S.co S.gen rfl (PySem.W.codeRec_of KX hcd) (hb _ _ _ _ ?_)
  refine wpAny_newFunctionEnv_cells S.kind hkind fun env he s1 x => ?_
  subst he
  refine ⟨lim.keeps x.toInCall.keep, codeAny_func ?_⟩
  obtain ⟨t, ht, hq⟩ := hbody A outer s H vs Q E (hr.deeper _) hsp
  have I : Inv (cxOf CX0 P w K mg base N qual scope f cdv A outer s H E) [] (start N vs) H s1 := inv_start S hr.hd e0 hl r x
  refine wpAny_mono (ht.run [] s1 (start N vs) H _ I hq) (fun fl s' hs => ?_) fun e s' hs => hs
  have fin : ∀ {σ' : L2.St} {H' : Hp} {v : V} {u : Value}, Inv (cxOf CX0 P w K mg base N qual scope f cdv A outer s H E) [] σ' H' s' → RelV v u → Q v H' → CE outer P w H s Q u s' :=
    fun {σ' H' v u} J rv q => ⟨v, H', J.os, J.bare, J.base, J.hok, rv, q⟩
  cases fl with
  | ret u =>
    obtain ⟨v, σ', H', J, rv, q⟩ := hs
    exact fin J rv q
  | next =>
    obtain ⟨σ', H', J, q⟩ := hs
    exact fin (v := V.non) (u := Value.none) J rfl q
  | brk =>
    obtain ⟨_, _, _, q⟩ := hs
    exact False.elim q
  | cont =>
    obtain ⟨_, _, _, q⟩ := hs
    exact False.elim q
theorem funT_ok {P : Program} {w : World} {K : PySem.W.Frag} {mg : Str → Option Value} {base : Heap} {x qual : Str} {st : Stmt} {f : Addr} {fd : FuncData} {N ps : List Str} {k : Nat} {sp : Sp} (F : Fun K x qual st f fd) (S : FnScope N ps (defScope st)) (len : ∀ vs H Q E, sp vs H Q E → vs.length = ps.length)
    (hbody : ∀ (cdv : Value) (A : Around) (outer : List PySem.Env) (s : Shared) (H : Hp) (vs : List V) (Q : VK) (E : XK), RoomT k (A.deeper (envOfC qual (defScope st) s.heap.objs.size f cdv)) → sp vs H Q E →
      ∃ t, PSs (cxOf CX0 P w K mg base N qual (defScope st) f cdv A outer s H E).nox (defBody st) t ∧ t { nx := fun _ H' => Q .non H', rt := Q } (start N vs) H) : FnT P w K mg base (k + 1) f fd ps sp := by
  obtain ⟨oc, od, kV, doc, pm, an, cdv, ct, osl, rfl, lk, hcd⟩ := F.ex
  refine fn_ofT lk hcd S len fun A outer s H vs Q E hr hsp => ?_
  obtain ⟨t, h, q⟩ := hbody cdv A outer s H vs Q E hr hsp
  exact ⟨t, h.nox, q⟩
theorem je_call {X : Cx} {np n k : Nat} {x : Str} {p pos : Pos} {ex : Expr} {es : List Expr} {f : Addr} {fd : FuncData} {ps : List Str} {m : FC} {t : TA} {fa : FA} (G : FnT X.prog X.w X.K X.mg X.base k f fd ps (spM X.K n m)) (hlen : ∀ {es r}, m es = some r → es.length = n)
    (hr : RoomT k X.A) (hg : Gl X x) (hm : X.mg x = some (.ref f)) (hk : PySem.W.keepIn X.K (.ref f) = true) (hb : Binds X.K fd ps []) (ha : JA X np (ex :: es) t fa)
    (hdb : (x == ("__debug__" : Str)) = false := by decide) (he : starEach (ex :: es) X.env = (false, eval ex X.env) :: starEach es X.env := by rfl) (hpl : (backTo pos (starEach es X.env)).any (·.1) = false := by rfl) :
    JE X np (.Call (.Name x p) (ex :: es) [] pos) (tCall (spM X.K n m) [] E0 t) (fCall m fa) :=
  ⟨pe_callT G hr hg hm hk hb .nil pass0 ha.pa hdb he hpl, de_call ha.de hlen⟩

/-! ### a def's body -/
def demote (s : Sl) : Sl := if s.hand = true then .un else s
def startS (NL n np : Nat) (es : Sls) : Sls := (es.take np ++ (es.drop np).map demote) ++ List.replicate (NL - n) .un
def backS (np : Nat) (es e : Sls) : Sls := e.take np ++ (es.drop np).map demote
def callF (NL n np : Nat) (f : FS) : FC := fun es => if es.length = n ∧ np ≤ n then (f (startS NL n np es)).bind fun p => match p.2 with
  | .rt d => if n ≤ p.1.length then some (backS np es p.1, .im d) else none
  | .ro s => if n ≤ p.1.length then some (backS np es p.1, s) else none
  | .nx => if n ≤ p.1.length then some (backS np es p.1, .im .non) else none
  | _ => none
  else none
theorem callF_len {NL n np : Nat} {f : FS} {es : Sls} {r : Sls × Sl} (h : callF NL n np f es = some r) : es.length = n := by
  unfold callF at h
  split at h
  · rename_i q; exact q.1
  · cases h
theorem take_get {α : Type} {l : List α} {n i : Nat} {x : α} (h : (l.take n)[i]? = some x) : i < n ∧ l[i]? = some x := by
  rw [List.getElem?_take] at h
  split at h
  · exact ⟨by assumption, h⟩
  · cases h
theorem mix_get {a es : Sls} {np i : Nat} {s : Sl} (hl : np ≤ a.length) (h : (a.take np ++ (es.drop np).map demote)[i]? = some s) : (i < np ∧ a[i]? = some s) ∨ (np ≤ i ∧ ∃ s0, es[i]? = some s0 ∧ s = demote s0) := by
  have lt : (a.take np).length = np := by rw [List.length_take]; omega
  by_cases hi : i < np
  · rw [List.getElem?_append_left (by omega)] at h
    exact .inl (take_get h)
  · rw [List.getElem?_append_right (by omega), lt, List.getElem?_map, List.getElem?_drop] at h
    rw [show np + (i - np) = i by omega] at h
    cases e : es[i]? with
    | none => rw [e] at h; cases h
    | some s0 => rw [e] at h; cases h; exact .inr ⟨by omega, s0, rfl, rfl⟩
theorem demote_own (s : Sl) : (demote s).own = false := by cases s <;> rfl
theorem demote_hand (s : Sl) : (demote s).hand = false := by cases s <;> rfl
theorem demote_ob {s : Sl} {c : Str} {fs : List (Str × Fd)} (h : demote s = .ob c fs) : False := by cases s <;> simp [demote, Sl.hand] at h
theorem iv_start {K : PySem.W.Frag} {F H G : Hp} {vs : List V} {es : Sls} {N : List Str} {np n : Nat} (I : IV K ⟨F, H, G, vs.map some, vs.length, 0⟩ F es (vs.map some) H) (hn : es.length = n) (hnp : np ≤ n) :
    IV K ⟨F, H, G, vs.map some, np, 0⟩ F (startS N.length n np es) (L2.start N vs) H := by
  have lv : vs.length = n := by have := I.len; rw [List.length_map] at this; omega
  have lm : (es.take np ++ (es.drop np).map demote).length = n := by rw [List.length_append, List.length_take, List.length_map, List.length_drop]; omega
  have st : ∀ (i : Nat), i < n → (L2.start N vs)[i]? = (vs.map some)[i]? := fun i hi => by
    unfold L2.start
    rw [List.getElem?_append_left (by rw [List.length_map]; omega)]
  -- what a slot is
  have sl : ∀ (i : Nat) (s : Sl), (startS N.length n np es)[i]? = some s → s = .un ∨ (i < n ∧ (s.hand = true → i < np) ∧ ∃ s0, es[i]? = some s0 ∧ (s = s0 ∨ (s0.hand = true ∧ s = .un))) := fun i s h => by
    unfold startS at h
    by_cases hi : i < n
    · rw [List.getElem?_append_left (by omega)] at h
      rcases mix_get (by omega) h with ⟨h1, h2⟩ | ⟨h1, s0, h2, rfl⟩
      · exact .inr ⟨hi, fun _ => h1, s, h2, .inl rfl⟩
      · refine .inr ⟨hi, fun q => ?_, s0, h2, ?_⟩
        · rw [demote_hand] at q; cases q
        · unfold demote
          split
          · rename_i q; exact .inr ⟨q, rfl⟩
          · exact .inl rfl
    · rw [List.getElem?_append_right (by omega), List.getElem?_replicate] at h
      split at h
      · cases h; exact .inl rfl
      · cases h
  refine ⟨I.sf, I.sg, Same.refl _, fun b => .inl rfl, fun b z => z, ?_, fun i s v h1 h2 => ?_, fun i j s t hij h1 h2 o1 o2 => ?_, fun i v hi hv => ?_, I.ob.go (Same.refl F) (fun b hb => ⟨rfl, I.ob.free hb⟩) (fun i c fs h => ?_) (fun j t b h1 h2 h3 => ?_) fun i c fs h a _ => ?_⟩
  · unfold startS L2.start
    rw [List.length_append, lm, List.length_replicate, List.length_append, List.length_map, List.length_replicate, lv]
  · rcases sl i s h1 with rfl | ⟨hi, ho, s0, q, rfl | ⟨_, rfl⟩⟩
    · exact .un
    · rw [st i hi] at h2
      have z := I.sl i s v q h2
      cases z with
      | un => exact .un
      | im r => exact .im r
      | ow o g1 g2 g3 => exact .ow o g1 g2 fun y => absurd (ho (Sl.hand_own o.own)) (by simpa using y)
      | ob => exact .ob
    · exact .un
  · rcases sl i s h1 with rfl | ⟨hi, _, s0, q, rfl | ⟨_, rfl⟩⟩
    · cases o1
    · rcases sl j t h2 with rfl | ⟨hj, _, t0, q', rfl | ⟨_, rfl⟩⟩
      · cases o2
      · rw [st i hi, st j hj]
        exact I.ap i j s t hij q q' o1 o2
      · cases o2
    · cases o1
  · rw [st i (Nat.lt_of_lt_of_le hi hnp)]
    exact hv
  · rcases sl i _ h with z | ⟨hi, _, s0, q, z | ⟨_, z⟩⟩
    · cases z
    · subst z; exact ⟨q, st i hi⟩
    · cases z
  · rcases sl j t h1 with rfl | ⟨hi, _, s0, q, rfl | ⟨_, rfl⟩⟩
    · cases h2
    · rw [st j hi] at h3
      exact fun ⟨k, s, h4, h5⟩ => I.ob.aw k j s t b h4 q h5 h2 h3
    · cases h2
  · rcases sl i _ h with z | ⟨hi, ho, s0, q, z | ⟨_, z⟩⟩
    · cases z
    · exact .inl (ho rfl)
    · cases z
theorem iv_back {K : PySem.W.Frag} {F H G F' H' : Hp} {vs : List V} {es e' : Sls} {σ' : L2.St} {N : List Str} {np n : Nat} (I : IV K ⟨F, H, G, vs.map some, vs.length, 0⟩ F es (vs.map some) H) (hn : es.length = n) (hnp : np ≤ n) (hN : n ≤ e'.length)
    (I' : IV K ⟨F, H, G, vs.map some, np, 0⟩ F' e' σ' H') : IV K ⟨F, H, G, vs.map some, vs.length, 0⟩ F' (backS np es e') (vs.map some) H' := by
  have lv : vs.length = n := by have := I.len; rw [List.length_map] at this; omega
  have an : ∀ (i : Nat), i < np → σ'[i]? = (vs.map some)[i]? := fun i hi => by
    have hv : i < vs.length := by omega
    rw [len_some (List.getElem?_eq_getElem hv)]
    exact I'.an i _ hi (len_some (List.getElem?_eq_getElem hv))
  have sl : ∀ (i : Nat) (s : Sl), (backS np es e')[i]? = some s → (i < np ∧ e'[i]? = some s) ∨ (np ≤ i ∧ ∃ s0, es[i]? = some s0 ∧ s = demote s0) := fun i s h => mix_get (Nat.le_trans hnp hN) h
  refine ⟨I'.sf, I'.sg, I'.g1, I'.g2, I'.g3, ?_, fun i s v h1 h2 => ?_, fun i j s t hij h1 h2 o1 o2 => ?_, fun i v _ hv => hv, I'.ob.go (Same.refl F') (fun b hb => ⟨rfl, I'.ob.free hb⟩) (fun i c fs h => ?_) (fun j t b h1 h2 h3 => ?_) fun i c fs h a _ => ?_⟩
  · unfold backS
    rw [List.length_append, List.length_take, List.length_map, List.length_map, List.length_drop]
    omega
  · rcases sl i s h1 with ⟨hi, q⟩ | ⟨_, s0, q, rfl⟩
    · rw [← an i hi] at h2
      have z := I'.sl i s v q h2
      cases z with
      | un => exact .un
      | im r => exact .im r
      | ow o g1 g2 g3 => exact .ow o g1 g2 fun y => absurd y (by
          have : i < vs.length := by omega
          simp [this])
      | ob => exact .ob
    · have z := I.sl i s0 v q h2
      cases z with
      | un => exact .un
      | im r => exact .im (r.mono I'.g1)
      | ow o _ _ _ =>
        unfold demote
        rw [if_pos (Sl.hand_own o.own)]
        exact .un
      | ob => exact .un
  · rcases sl i s h1 with ⟨hi, q⟩ | ⟨_, s0, q, rfl⟩
    · rcases sl j t h2 with ⟨hj, q'⟩ | ⟨_, t0, q', rfl⟩
      · rw [← an i hi, ← an j hj]
        exact I'.ap i j s t hij q q' o1 o2
      · rw [demote_own] at o2; cases o2
    · rw [demote_own] at o1; cases o1
  · rcases sl i _ h with ⟨hi, q⟩ | ⟨_, s0, q, z⟩
    · exact ⟨q, (an i hi).symm⟩
    · exact (demote_ob z.symm).elim
  · rcases sl j t h1 with ⟨hi, q⟩ | ⟨_, s0, q, rfl⟩
    · rw [← an j hi] at h3
      exact fun ⟨k, s, h4, h5⟩ => I'.ob.aw k j s t b h4 q h5 h2 h3
    · rw [demote_own] at h2; cases h2
  · rcases sl i _ h with ⟨hi, q⟩ | ⟨_, s0, q, z⟩
    · exact .inl (Nat.lt_of_lt_of_le hi (by show np ≤ vs.length; omega))
    · exact (demote_ob z.symm).elim
section
variable {P : Program} {w : World} {K : PySem.W.Frag} {mg : Str → Option Value} {base : Heap}
/-- a def keeps its mirror's promise -/
theorem okM {x qual : Str} {st : Stmt} {f : Addr} {fd : FuncData} {N ps : List Str} {k n np : Nat} {t : TS} {fb : FS} (F : Fun K x qual st f fd) (S : FnScope N ps (defScope st)) (hn : ps.length = n) (hN : n ≤ N.length)
    (hb : ∀ (cdv : Value) (A : Around) (outer : List PySem.Env) (s : Shared) (H : Hp) (E : XK), RoomT k (A.deeper (envOfC qual (defScope st) s.heap.objs.size f cdv)) → JSs (cxOf CX0 P w K mg base N qual (defScope st) f cdv A outer s H E).nox np (defBody st) t fb) :
    FnT P w K mg base (k + 1) f fd ps (spM K n (callF N.length n np fb)) := by
  refine funT_ok F S (fun vs H Q E h => h.1.trans hn.symm) fun cdv A outer s H vs Q E hr h => ?_
  obtain ⟨lv, F0, G, es, es', d, I, hm, q⟩ := h
  have J := hb cdv A outer s H E hr
  refine ⟨t, J.ps, ?_⟩
  unfold callF at hm
  split at hm
  · rename_i hl
    obtain ⟨⟨e', fl⟩, h1, hm⟩ := bnd hm
    have I0 := iv_start (N := N) I hl.1 hl.2
    refine J.de ⟨F0, H, G, vs.map some, np, 0⟩ F0 _ _ H _ rfl I0 e' fl h1 ?_
    have ll : ∀ {F' H' : Hp} {σ' : L2.St}, IV K ⟨F0, H, G, vs.map some, np, 0⟩ F' e' σ' H' → n ≤ e'.length → IV K ⟨F0, H, G, vs.map some, vs.length, 0⟩ F' (backS np es e') (vs.map some) H' := fun I' hl' => iv_back (N := N) I hl.1 hl.2 hl' I'
    cases fl with
    | nx =>
      simp only at hm
      split at hm
      · rename_i hl'
        cases hm
        intro F' σ' H' s' I'
        exact q F' .non H' (ll I' hl') (.im .non) fun _ _ z => nomatch z
      · cases hm
    | rt d' =>
      simp only at hm
      split at hm
      · rename_i hl'
        cases hm
        intro F' v σ' H' s' I' r
        exact q F' v H' (ll I' hl') (.im r) fun _ _ z => nomatch z
      · cases hm
    | ro d' =>
      simp only at hm
      split at hm
      · rename_i hl'
        cases hm
        intro F' a σ' H' s' I' o f1 f2 f3 nc
        refine q F' _ H' (ll I' hl') (.ow o f1 f2 f3) fun a' ea _ => ?_
        cases ea
        rintro ⟨i, s, g1, g2⟩
        obtain ⟨c, fs, rfl⟩ := g2.ob
        have hl2 : (backS np es e').length = n := by
          unfold backS
          rw [List.length_append, List.length_take, List.length_map, List.length_drop]
          omega
        rcases mix_get (Nat.le_trans hl.2 hl') g1 with ⟨hi, g3⟩ | ⟨_, s0, _, z⟩
        · have lv : vs.length = n := by have := I.len; rw [List.length_map] at this; omega
          have hv : i < vs.length := by omega
          have an := I'.an i _ hi (len_some (List.getElem?_eq_getElem hv))
          rw [len_some (List.getElem?_eq_getElem hv), ← an] at g2
          exact nc ⟨i, _, g3, g2⟩
        · exact demote_ob z.symm
      · cases hm
    | bk => cases hm
    | ct => cases hm
  · cases hm
theorem jow_call {X : Cx} {np n k : Nat} {x : Str} {p pos : Pos} {ex : Expr} {es : List Expr} {f : Addr} {fd : FuncData} {ps : List Str} {m : FC} {t : TA} {fa : FA} (G : FnT X.prog X.w X.K X.mg X.base k f fd ps (spM X.K n m)) (hlen : ∀ {es r}, m es = some r → es.length = n)
    (hr : RoomT k X.A) (hg : Gl X x) (hm : X.mg x = some (.ref f)) (hk : PySem.W.keepIn X.K (.ref f) = true) (hb : Binds X.K fd ps []) (ha : JA X np (ex :: es) t fa)
    (hdb : (x == ("__debug__" : Str)) = false := by decide) (he : starEach (ex :: es) X.env = (false, eval ex X.env) :: starEach es X.env := by rfl) (hpl : (backTo pos (starEach es X.env)).any (·.1) = false := by rfl) :
    JOw X np (.Call (.Name x p) (ex :: es) [] pos) (tCall (spM X.K n m) [] E0 t) (oCall m fa) :=
  ⟨pe_callT G hr hg hm hk hb .nil pass0 ha.pa hdb he hpl, dow_call ha.de hlen⟩
theorem je_call1 {X : Cx} {np k : Nat} {x : Str} {p pos : Pos} {ex : Expr} {f : Addr} {fd : FuncData} {ps : List Str} {m : FC} {te : TE} {fo : Sls → Option (Sls × Sl)} (G : FnT X.prog X.w X.K X.mg X.base k f fd ps (spM X.K 1 m))
    (hr : RoomT k X.A) (hg : Gl X x) (hm : X.mg x = some (.ref f)) (hk : PySem.W.keepIn X.K (.ref f) = true) (hb : Binds X.K fd ps []) (ha : JOw X np ex te fo)
    (hdb : (x == ("__debug__" : Str)) = false := by decide) (he : starEach (ex :: []) X.env = (false, eval ex X.env) :: starEach [] X.env := by rfl) (hpl : (backTo pos (starEach [] X.env)).any (·.1) = false := by rfl) :
    JE X np (.Call (.Name x p) [ex] [] pos) (tCall (spM X.K 1 m) [] E0 (tCons te tNil)) (fCall1 m fo) :=
  ⟨pe_callT G hr hg hm hk hb .nil pass0 (pa_cons ha.pe pa_nil he) hdb he hpl, de_call1 ha.de⟩
theorem fnOk_none {f : Addr} {fd : FuncData} {ps : List Str} {n : Nat} {m : FC} (h : ∀ es, m es = none) : FnT P w K mg base 0 f fd ps (spM K n m) := by
  have no : ∀ vs H Q E, ¬ spM K n m vs H Q E := fun vs H Q E ⟨_, _, _, es, _, _, _, h2, _⟩ => by rw [h es] at h2; cases h2
  exact ⟨fun vs H Q E h => absurd h (no vs H Q E), fun A outer s H args us vs Q E _ _ _ _ h => absurd h (no vs H Q E)⟩
end

/-! ### keywords -/
structure JPK (X : Cx) (np : Nat) (kws : List Keyword) (t : TA) (f : FA) : Prop where
  pk : PK X kws t
  de : DA X.K np t f
section
variable {X : Cx} {np : Nat} {ex : Expr} {es : List Expr} {te : TE} {t : TA} {fe : FE} {fa : FA} {kws : List Keyword}
theorem jpk_nil : JPK X np [] tNil aNil := by
  refine ⟨pk_nil, fun B F e σ H Q hn I e' as hf q => ?_⟩
  cases hf
  exact q F [] H (Same.refl F) I .nil
theorem jpk_im {nm : Option Str} {kpos : Pos} (h : JE X np ex te fe) (h2 : JPK X np kws t fa) : JPK X np (⟨nm, ex, kpos⟩ :: kws) (tCons te t) (aIm fe fa) := by
  refine ⟨pk_cons h.pe h2.pk, fun B F e σ H Q hn I e' as hf q => ?_⟩
  obtain ⟨⟨e1, d⟩, h1, hf⟩ := bnd hf
  obtain ⟨⟨e2, as2⟩, h3, hf⟩ := bnd hf
  cases hf
  refine h.de B F e σ H _ hn I e1 d h1 fun F' v H' s I' r => ?_
  exact h2.de B F' e1 σ H' _ hn I' e2 as2 h3 fun F2 vs H2 s2 I2 r2 => q F2 (v :: vs) H2 (s.trans s2) I2 (.cons (.im (r.mono s2)) r2)
/-- f(k = v, ..): keywords alone, in the parameters' order -/
def KwB (K : PySem.W.Frag) (fd : FuncData) (ps : List Str) : Prop := ∀ (s : Shared) (ws : List Value), K.In s.heap → ws.length = ps.length → BindsTo s fd ⟨[], ps.zip ws⟩ (ps.zip ws)
def gKw {α : Type} : List α → List α → List α
  | [], ws => ws
  | _ :: _, _ => []
theorem kwB_binds {K : PySem.W.Frag} {fd : FuncData} {ps : List Str} (h : KwB K fd ps) (hp : ps ≠ []) : KBinds K fd ps ps gKw gKw := by
  refine ⟨fun s us ws X l => ?_, fun r1 r2 => ?_⟩
  · cases us with
    | nil => exact h s ws X l
    | cons u us => exact absurd (List.length_eq_zero_iff.mp l.symm) hp
  · cases r1 with
    | nil => exact r2
    | cons _ _ => exact .nil
def tCall0K (sp : Sp) (E : XK) (tk : TA) : TE := fun σ H Q => tk σ H fun zs H2 => sp zs H2 Q E
theorem je_call0K {n k : Nat} {x : Str} {p pos : Pos} {f : Addr} {fd : FuncData} {ps : List Str} {m : FC} (G : FnT X.prog X.w X.K X.mg X.base k f fd ps (spM X.K n m)) (hlen : ∀ {es r}, m es = some r → es.length = n)
    (hr : RoomT k X.A) (hg : Gl X x) (hm : X.mg x = some (.ref f)) (hk : PySem.W.keepIn X.K (.ref f) = true) (hb : KwB X.K fd ps) (hp : ps ≠ []) (hkw : JPK X np kws t fa)
    (hall : (backToKw pos (keywordEach kws X.env)).all (·.1.isSome) = true := by rfl) (hks : (backToKw pos (keywordEach kws X.env)).filterMap (·.1) = ps := by rfl) (hdb : (x == ("__debug__" : Str)) = false := by decide)
    (hpl : ((backTo pos (starEach [] X.env)).any (·.1) || (backToKw pos (keywordEach kws X.env)).any (·.1.isNone)) = false := by rfl) :
    JE X np (.Call (.Name x p) [] kws pos) (tCall0K (spM X.K n m) E0 t) (fCall m fa) := by
  refine ⟨⟨fun pins s σ H Q I h => ?_⟩, fun B F e σ H Q hn I e' d hf q => ?_⟩
  · refine wpAny_Call_Name_kw (ld_glob I hg hm ?_ hdb)
    refine PySem.W.callWith_KW0 (h₀ := X.base) I.ok.mod.kin hk hall ?_ hpl
    refine thn (hkw.pk.run pos pins s σ H _ I h) fun ws s2 ⟨zs, H2, I2, rz, q2⟩ => ⟨I2.kIn, ?_⟩
    rw [hks]
    exact run_fnkT (us := []) (vs := []) G hr (kwB_binds hb hp) pass0 I2 .nil rz q2
  · have z := de_call (E := E0) hkw.de hlen B F e σ H Q hn I e' d hf q
    unfold tCall at z
    unfold tCall0K
    have e2 : (fun (zs : List V) (H2 : Hp) => spM X.K n m (zs ++ []) H2 Q E0) = fun zs H2 => spM X.K n m zs H2 Q E0 := by funext zs H2; rw [List.append_nil]
    rw [e2] at z
    exact z
end
end M

namespace M
open PySem PySem.Spec PyProof.Rows L2

/-! ### short words for printed walks -/
/-- how all arguments bind -/
def BindsA (fd : FuncData) (ps : List Str) : Prop := ∀ (s : Shared) (us : List Value), us.length = ps.length → BindsTo s fd ⟨us, []⟩ (ps.zip us)
theorem BindsA.b {K : PySem.W.Frag} {fd : FuncData} {ps : List Str} (h : BindsA fd ps) : Binds K fd ps [] := fun s us _ hl => by
  rw [List.append_nil] at hl ⊢
  exact h s us hl
/-- the def x stands, and keeps its mirror's promise -/
def DefOk (P : Program) (w : World) (K : PySem.W.Frag) (mg : Str → Option Value) (base : Heap) (x : Str) (ps : List Str) (k n : Nat) (m : FC) : Prop :=
  ∃ (f : Addr) (fd : FuncData), FnT P w K mg base k f fd ps (spM K n m) ∧ BindsA fd ps ∧ PySem.W.keepIn K (.ref f) = true ∧ mg x = some (.ref f) ∧ (∀ es r, m es = some r → es.length = n) ∧ KwB K fd ps ∧ ps ≠ [] ∧ ∃ o, K.lookup f = some o ∧ o.data = .func fd
theorem DefOk.level {P : Program} {w : World} {K : PySem.W.Frag} {mg : Str → Option Value} {base : Heap} {x : Str} {ps : List Str} {k k' n : Nat} {m : FC} (h : DefOk P w K mg base x ps k n m) (hk : k ≤ k') : DefOk P w K mg base x ps k' n m := by
  obtain ⟨f, fd, G, b, kp, e, l, kw⟩ := h
  exact ⟨f, fd, G.mono hk, b, kp, e, l, kw⟩
section
variable {X : Cx} {np : Nat}
theorem jcall {K : PySem.W.Frag} {n k : Nat} {x : Str} {p pos : Pos} {ex : Expr} {es : List Expr} {ps : List Str} {m : FC} {t : TA} {fa : FA} (G : DefOk X.prog X.w K X.mg X.base x ps k n m)
    (hr : RoomT k X.A) (hg : Gl X x) (ha : JA X np (ex :: es) t fa) (hdb : (x == ("__debug__" : Str)) = false := by decide)
    (he : starEach (ex :: es) X.env = (false, eval ex X.env) :: starEach es X.env := by rfl) (hpl : (backTo pos (starEach es X.env)).any (·.1) = false := by rfl) (hK : X.K = K := by rfl) :
    JE X np (.Call (.Name x p) (ex :: es) [] pos) (tCall (spM K n m) [] E0 t) (fCall m fa) := by
  subst hK
  obtain ⟨f, fd, G, b, kp, e, l, kw⟩ := G
  exact je_call G (fun {es r} h => l es r h) hr hg e kp b.b ha hdb he hpl
theorem jcallK {K : PySem.W.Frag} {n k : Nat} {x : Str} {p pos : Pos} {kws : List Keyword} {ps : List Str} {m : FC} {t : TA} {fa : FA} (G : DefOk X.prog X.w K X.mg X.base x ps k n m)
    (hr : RoomT k X.A) (hg : Gl X x) (ha : JPK X np kws t fa) (hall : (backToKw pos (keywordEach kws X.env)).all (·.1.isSome) = true := by rfl) (hks : (backToKw pos (keywordEach kws X.env)).filterMap (·.1) = ps := by rfl)
    (hdb : (x == ("__debug__" : Str)) = false := by decide) (hpl : ((backTo pos (starEach [] X.env)).any (·.1) || (backToKw pos (keywordEach kws X.env)).any (·.1.isNone)) = false := by rfl) (hK : X.K = K := by rfl) :
    JE X np (.Call (.Name x p) [] kws pos) (tCall0K (spM K n m) E0 t) (fCall m fa) := by
  subst hK
  obtain ⟨f, fd, G, b, kp, e, l, kw⟩ := G
  exact je_call0K G (fun {es r} h => l es r h) hr hg e kp kw.1 kw.2.1 ha hall hks hdb hpl
theorem jcallO {K : PySem.W.Frag} {n k : Nat} {x : Str} {p pos : Pos} {ex : Expr} {es : List Expr} {ps : List Str} {m : FC} {t : TA} {fa : FA} (G : DefOk X.prog X.w K X.mg X.base x ps k n m)
    (hr : RoomT k X.A) (hg : Gl X x) (ha : JA X np (ex :: es) t fa) (hdb : (x == ("__debug__" : Str)) = false := by decide)
    (he : starEach (ex :: es) X.env = (false, eval ex X.env) :: starEach es X.env := by rfl) (hpl : (backTo pos (starEach es X.env)).any (·.1) = false := by rfl) (hK : X.K = K := by rfl) :
    JOw X np (.Call (.Name x p) (ex :: es) [] pos) (tCall (spM K n m) [] E0 t) (oCall m fa) := by
  subst hK
  obtain ⟨f, fd, G, b, kp, e, l, kw⟩ := G
  exact jow_call G (fun {es r} h => l es r h) hr hg e kp b.b ha hdb he hpl
theorem jcall1 {K : PySem.W.Frag} {k : Nat} {x : Str} {p pos : Pos} {ex : Expr} {ps : List Str} {m : FC} {te : TE} {fo : Sls → Option (Sls × Sl)} (G : DefOk X.prog X.w K X.mg X.base x ps k 1 m)
    (hr : RoomT k X.A) (hg : Gl X x) (ha : JOw X np ex te fo) (hdb : (x == ("__debug__" : Str)) = false := by decide)
    (he : starEach (ex :: []) X.env = (false, eval ex X.env) :: starEach [] X.env := by rfl) (hpl : (backTo pos (starEach [] X.env)).any (·.1) = false := by rfl) (hK : X.K = K := by rfl) :
    JE X np (.Call (.Name x p) [ex] [] pos) (tCall (spM K 1 m) [] E0 (tCons te tNil)) (fCall1 m fo) := by
  subst hK
  obtain ⟨f, fd, G, b, kp, e, l, kw⟩ := G
  exact je_call1 G hr hg e kp b.b ha hdb he hpl
/-- name = value -/
theorem js_set {i : Nat} {x : Str} {p pos : Pos} {ex : Expr} {te : TE} {fe : FE} (hN : X.N.Nodup) (h : JE X np ex te fe) (hi : X.N[i]? = some x := by rfl) (hx : Loc X.env.scope x := by first | exact Or.inl rfl | exact Or.inr rfl) (hnp : np ≤ i := by decide)
    (hs : swapsWith ex (some (.Name x p)) pos.line X.env = pure false := by rfl) (hf : X.fn x = true ∨ X.env.scope.names.lookup x = some .local := by first | exact .inl rfl | exact .inr rfl) : JS X np (.Assign [.Name x p] ex pos) (tAsg te (gName i)) (sSet fe (bName i)) :=
  js_asg h (jg_name (pg_name hN hi hx hf) hnp) (ps_set hN hi hx h.pe hs hf)
theorem js_new {i : Nat} {x : Str} {p pos : Pos} {ex : Expr} {te : TE} {f : Sls → Option (Sls × Sl)} (hN : X.N.Nodup) (h : JOw X np ex te f) (hi : X.N[i]? = some x := by rfl) (hx : Loc X.env.scope x := by first | exact Or.inl rfl | exact Or.inr rfl) (hnp : np ≤ i := by decide)
    (hs : swapsWith ex (some (.Name x p)) pos.line X.env = pure false := by rfl) (hf : X.fn x = true ∨ X.env.scope.names.lookup x = some .local := by first | exact .inl rfl | exact .inr rfl) : JS X np (.Assign [.Name x p] ex pos) (tAsg te (gName i)) (sSetO i f) :=
  js_setO h (ps_set hN hi hx h.pe hs hf) hnp
theorem jname {i : Nat} {x : Str} {p : Pos} (hN : X.N.Nodup) (hi : X.N[i]? = some x := by rfl) (hx : Loc X.env.scope x := by first | exact Or.inl rfl | exact Or.inr rfl) (hnp : np ≤ i := by decide) (hf : X.fn x = true ∨ X.env.scope.names.lookup x = some .local := by first | exact .inl rfl | exact .inr rfl) :
    JG X np (.Name x p) [i] (gName i) (bName i) := jg_name (pg_name hN hi hx hf) hnp
theorem js_put {i : Nat} {x : Str} {p pos tpos : Pos} {ex ix : Expr} {te ti : TE} {fe fi : FE} (h : JE X np ex te fe) (hv : PE X (.Name x p) (tVar i)) (hi : JE X np ix ti fi)
    (ha : ∀ v, assign (.Subscript (.Name x p) ix tpos) X.env v = (do
      let ov ← holding [v] (eval (.Name x p) X.env)
      let iv ← holding [v, ov] (eval ix X.env)
      standAt tpos
      holding [v, ov, iv] (setItem ov iv v)
      release [v, ov, iv] []) := by intro _; rfl)
    (hs : swapsWithSole [.Subscript (.Name x p) ix tpos] ex pos.line X.env = pure false := by rfl) (hw : swappedStores [.Subscript (.Name x p) ix tpos] ex X.env = pure none := by rfl)
    (h1 : (assignEach [.Subscript (.Name x p) ix tpos] X.env).map (·.2) = [assign (.Subscript (.Name x p) ix tpos) X.env] := by rfl) :
    JS X np (.Assign [.Subscript (.Name x p) ix tpos] ex pos) (tAsg te (gSub (tVar i) ti rSetL)) (sSetIx i fe fi) :=
  js_setIx h hi (ps_asg h.pe (pg_sub hv hi.pe set_list ha) hs hw h1)
theorem jappend {K : PySem.W.Frag} {i : Nat} {x : Str} {p apos cpos : Pos} {ex : Expr} {te : TE} {fe : FE} (hv : PE X (.Name x p) (tVar i)) (h : JE X np ex te fe)
    (hs : starEach [ex] X.env = (false, eval ex X.env) :: starEach [] X.env := by rfl) (hbase : attributeBase (.Name x p) "append" X.env (eval (.Name x p) X.env) = eval (.Name x p) X.env := by rfl)
    (hfew : ((backTo cpos (starEach (ex :: []) X.env)).all (fun x => !x.1) && (backToKw cpos (keywordEach [] X.env)).all (fun x => x.1.isSome)
      && decide ((ex :: []).length + ([] : List Keyword).length + (if ([] : List Keyword).isEmpty then 0 else 1) < 30)) = true := by rfl)
    (hline : (apos.endLine == cpos.line) = true := by rfl) (hplain : (backTo cpos (starEach [] X.env)).any (·.1) = false := by rfl) (hK : X.K = K := by rfl) :
    JE X np (.Call (.Attribute (.Name x p) "append" apos) [ex] [] cpos) (tBM K "list" rAppend (tVar i) (tCons te tNil)) (fAppend i fe) := by
  subst hK
  exact je_append i hv h (pe_bm PySem.F.plainAttrs_list PySem.F.slot_list_append PySem.F.type_list_append mt_append hv (pa_cons h.pe pa_nil hs) hbase hfew hline hs hplain)
section
variable {K : PySem.W.Frag}
theorem oadd (hK : X.K = K := by rfl) : OpR X (binaryOp .Add) (rAddD K) := by subst hK; exact op_addD
theorem oeq (hu : X.A.units + 200 < cLine) (hK : X.K = K := by rfl) : OpR X (compareOp .Eq) (rEqX K) := by subst hK; exact op_eqX hu
theorem one (hu : X.A.units + 200 < cLine) (hK : X.K = K := by rfl) : OpR X (compareOp .NotEq) (rNeX K) := by subst hK; exact op_neX hu
theorem oin (hu : X.A.units + 200 < cLine) (hK : X.K = K := by rfl) : OpR X (compareOp .In) (fun x y H Q => ∃ b, InVals K H x y b ∧ Q (.bl b) H) := by subst hK; exact op_inX hu
theorem onin (hu : X.A.units + 200 < cLine) (hK : X.K = K := by rfl) : OpR X (compareOp .NotIn) (fun x y H Q => ∃ b, InVals K H x y b ∧ Q (.bl (!b)) H) := by subst hK; exact op_notInX hu
theorem oix (hu : X.A.units + 200 < cLine) (hK : X.K = K := by rfl) : IxR X (rIxD K) := by subst hK; exact ix_D hu
theorem olen (hK : X.K = K := by rfl) : CallR X (.builtin "len") (rLenX K) := by subst hK; exact call_lenX
theorem oisa (hK : X.K = K := by rfl) : CallR X (.builtin "isinstance") (rIsi K) := by subst hK; exact call_isi
theorem oall (hc : X.calm = true := by rfl) (hK : X.K = K := by rfl) : CallR X (.builtin "all") (rAll K) := by subst hK; exact cr_all hc
theorem oany (hc : X.calm = true := by rfl) (hK : X.K = K := by rfl) : CallR X (.builtin "any") (rAny K) := by subst hK; exact cr_any hc
theorem otup (hK : X.K = K := by rfl) : CallR X (.type "tuple") (fun xs H Q => ∃ p ys, xs = [.ref p] ∧ ((SqL K H p ys ∧ ∀ l, H l = none → Q (.ref l) (upd H l (.tup ys))) ∨ (SqT K H p ys ∧ Q (.ref p) H))) := by subst hK; exact call_tuple_of
theorem olst (hK : X.K = K := by rfl) : CallR X (.type "list") (fun xs H Q => ∃ p ys, xs = [.ref p] ∧ (SqL K H p ys ∨ SqT K H p ys) ∧ ∀ l, H l = none → Q (.ref l) (upd H l (.lst ys))) := by subst hK; exact call_list_of
theorem ojoin (hK : X.K = K := by rfl) : MtR X "str.join" (fun x xs H Q => ∃ a p, ∃ ys : List Str, x = .str a ∧ xs = [.ref p] ∧ (SqL K H p (ys.map V.str) ∨ SqT K H p (ys.map V.str)) ∧
    (ys.map (·.length)).sum + ys.length * a.length ≤ 16777216 ∧ Q (.str (Txt.join a ys)) H) := by subst hK; exact mt_join
end
theorem jseq {K : PySem.W.Frag} {tg a : Expr} {t : TE} {f : FE} (h : JE X np a t f) (hK : X.K = K := by rfl) : JI X np tg a (iSeq K t) (fIt f) := by
  subst hK
  exact ji_seq h
theorem jslice {K : PySem.W.Frag} {a : Expr} {lo hi : Option Expr} {pos p2 : Pos} {t : TE} {tl th : TO} {k : FK} {l h : FO} (ha : JK X np a t k) (hl : JO X np lo tl l) (hh : JO X np hi th h) (hK : X.K = K := by rfl) :
    JE X np (.Subscript a (.Slice lo hi none p2) pos) (tSl (rSlD K) t tl th) (fSl k l h) := by
  subst hK
  exact je_slice ha hl hh
theorem jtup {K : PySem.W.Frag} {es : List Expr} {n : Nat} {ts : List Nat} {gs : TGs} {bs : FGs} {x1} {pos : Pos} (hc : X.calm = true) (h : JGs X np es n ts gs bs) (hn : (assignEach es X.env).length = n := by rfl) (hst : (assignEach es X.env).findIdx? (·.1) = none := by rfl) (hK : X.K = K := by rfl) :
    JG X np (.Tuple es x1 pos) ts (gTup K n gs) (bTup n bs) := by
  subst hK
  exact jg_tup hc h hn hst
theorem jzip {K : PySem.W.Frag} {e1 e2 : Expr} {n kk : Nat} {elts : List Expr} {p pos tpos : Pos} {ta : TA} {k : FEs} (hg : Gl X "zip") (hm : X.mg "zip" = none) (ha : JEs X np [e1, e2] n ta k) (hs : starEach [e1, e2] X.env = (false, eval e1 X.env) :: starEach [e2] X.env := by rfl)
    (hpl : (backTo pos (starEach [e2] X.env)).any (·.1) = false := by rfl) (hK : X.K = K := by rfl) : JI X np (.Tuple elts kk tpos) (.Call (.Name "zip" p) [e1, e2] [] pos) (iZip K ta) (fZip k) := by
  subst hK
  exact ji_zip hg hm ha (pi_zip hg hm ha.pa hs hpl)
theorem jenum {K : PySem.W.Frag} {e1 : Expr} {n kk : Nat} {elts : List Expr} {p pos tpos : Pos} {ta : TA} {k : FEs} (hg : Gl X "enumerate") (hm : X.mg "enumerate" = none) (ha : JEs X np [e1] n ta k) (hs : starEach [e1] X.env = [(false, eval e1 X.env)] := by rfl) (hK : X.K = K := by rfl) :
    JI X np (.Tuple elts kk tpos) (.Call (.Name "enumerate" p) [e1] [] pos) (iEnum K ta) (fEnum k) := by
  subst hK
  exact ji_enum ha (pi_enum hg hm ha.pa hs)
end

/-! ### where a def stands -/
def Src (K : PySem.W.Frag) (mg : Str → Option Value) (x : Str) (st : Stmt) (ps : List Str) : Prop := ∃ (f : Addr) (fd : FuncData), Fun K x x st f fd ∧ BindsA fd ps ∧ mg x = some (.ref f) ∧ KwB K fd ps ∧ ps ≠ []
section
variable {P : Program} {w : World} {K : PySem.W.Frag} {mg : Str → Option Value} {base : Heap}
theorem src_mk {h : Heap} {x : Str} {st : Stmt} {ps : List Str} {f : Addr} {oc : Value} {od an : Option Addr} {osl : Array (Option Value)} {kV doc pm cdv ct : Value} (X : K.In h) (G : h.Ns mainGlobals mg) (a : PySem.W.nsIn K mainGlobals x = some (some (.ref f)))
    (l : K.lookup f = some ⟨oc, od, .func (PySem.W.fnOf x x (defArgs st) (defBody st) (defScope st) .none kV doc pm an cdv ct), osl⟩) (c : PySem.W.codeIn K cdv x = true) (k : PySem.W.keepIn K (.ref f) = true)
    (hb : ∀ (kV doc pm : Value) (an : Option Addr) (cdv ct : Value) (us : List Value), us.length = ps.length → bindArgs (PySem.W.fnOf x x (defArgs st) (defBody st) (defScope st) .none kV doc pm an cdv ct) ⟨us, []⟩ = pure (ps.zip us))
    (hk : ∀ (kV doc pm : Value) (an : Option Addr) (cdv ct : Value) (us : List Value), us.length = ps.length → bindArgs (PySem.W.fnOf x x (defArgs st) (defBody st) (defScope st) .none kV doc pm an cdv ct) ⟨[], ps.zip us⟩ = pure (ps.zip us)) (hp : ps ≠ []) : Src K mg x st ps := by
  have F := fun_mk (st := st) l c k
  exact ⟨f, _, F, fun s us hl => .of_eq (hb _ _ _ _ _ _ us hl), PySem.W.mg_of X G a, fun s ws _ hl => .of_eq (hk _ _ _ _ _ _ ws hl), hp⟩
theorem src_ok {x : Str} {st : Stmt} {ps N : List Str} {k n np : Nat} {t : TS} {fb : FS} {m : FC} (S : Src K mg x st ps) (sc : FnScope N ps (defScope st)) (hn : ps.length = n) (hN : n ≤ N.length)
    (hb : ∀ (f : Addr) (cdv : Value) (A : Around) (outer : List PySem.Env) (s : Shared) (H : Hp) (E : XK), RoomT k (A.deeper (envOfC x (defScope st) s.heap.objs.size f cdv)) → JSs (cxOf CX0 P w K mg base N x (defScope st) f cdv A outer s H E).nox np (defBody st) t fb)
    (hm : m = callF N.length n np fb) : DefOk P w K mg base x ps (k + 1) n m := by
  subst hm
  obtain ⟨f, fd, F, b, e, kw1, kw2⟩ := S
  obtain ⟨oc, od, kV, doc, pm, an, cdv, ct, osl, e1, lk, _⟩ := F.ex
  exact ⟨f, fd, okM F sc hn hN (hb f), b, F.kp, e, fun es r h => callF_len h, kw1, kw2, _, lk, rfl⟩
theorem src_none {x : Str} {st : Stmt} {ps : List Str} {n : Nat} {m : FC} (S : Src K mg x st ps) (hm : ∀ es, m es = none) : DefOk P w K mg base x ps 0 n m := by
  obtain ⟨f, fd, F, b, e, kw1, kw2⟩ := S
  obtain ⟨oc, od, kV, doc, pm, an, cdv, ct, osl, e1, lk, _⟩ := F.ex
  exact ⟨f, fd, fnOk_none hm, b, F.kp, e, (fun es r h => by rw [hm es] at h; exact nomatch h), kw1, kw2, _, lk, rfl⟩
end
theorem hu200 {A : Around} {k : Nat} (hr : RoomT k A) : A.units + 200 < cLine := by have := hr.un; omega
/-! ### the law's end -/
def spTrue (K : PySem.W.Frag) : Sp := fun vs H Q _ => ∃ (a : Addr) (ns : List Int), vs = [.ref a] ∧ SqL K H a (ns.map V.int) ∧ ns.length ≤ 63 ∧ (∀ z ∈ ns, Builtin.Int.intBits z ≤ 1048576) ∧ ∀ H', Q (.bl true) H'
def scriptD (ns : List Int) : D := .lst (ns.map .int)
theorem rps_ints {K : PySem.W.Frag} {F : Hp} : ∀ ns : List Int, Rps K F (ns.map V.int) (ns.map D.int)
  | [] => .nil
  | n :: ns => .cons (.int n) (rps_ints ns)
/-- the law's def, by its mirror: at every script it gives True -/
theorem law_imp {K : PySem.W.Frag} {m : FC} (h : ∀ ns : List Int, ns.length ≤ 63 → (∀ z ∈ ns, Builtin.Int.intBits z ≤ 1048576) → ∃ es', m [.im (scriptD ns)] = some (es', .im (.bl true))) :
    ∀ vs H Q E, spTrue K vs H Q E → spM K 1 m vs H Q E := by
  rintro vs H Q E ⟨a, ns, rfl, hs, hl, hb, q⟩
  obtain ⟨es', hm⟩ := h ns hl hb
  refine ⟨rfl, H, H, [.im (scriptD ns)], es', .im (.bl true), ⟨Same.refl _, Same.refl _, Same.refl _, fun b => .inl rfl, fun b z => z, rfl, fun i s v h1 h2 => ?_, fun i j s t hij h1 h2 o1 o2 => ?_, fun i v _ hv => hv, .nil fun i s h1 c fs z => ?_⟩, hm, fun F' v H' _ r q0 => ?_⟩
  · match i with
    | 0 =>
      simp at h1 h2
      subst h1
      rw [← h2]
      exact .im (.lst hs (rps_ints ns))
    | i + 1 => simp at h1
  · match i, j with
    | 0, 0 => exact absurd rfl hij
    | i + 1, _ => simp at h1
    | 0, j + 1 => simp at h2
  · match i with
    | 0 => simp at h1; subst h1; cases z
    | i + 1 => simp at h1
  · cases r with
    | im r => cases r; exact q H'
    | ow o _ _ _ => cases o
theorem law_end {P : Program} {w : World} {K : PySem.W.Frag} {mg : Str → Option Value} {x : Str} {j k : Nat} {m : FC} {f : Addr} (hj : k + 3 ≤ 3 * j) (h0 : Heap) (D : ∀ base, DefOk P w K mg base "law" [x] k 1 m) (e : mg "law" = some (.ref f))
    (h : ∀ ns : List Int, ns.length ≤ 63 → (∀ z ∈ ns, Builtin.Int.intBits z ≤ 1048576) → ∃ es', m [.im (scriptD ns)] = some (es', .im (.bl true))) :
    ∃ fd, (∀ (s : Shared) (v : Value), BindsTo s fd ⟨[v], []⟩ [(x, v)]) ∧ ∀ base : Heap, K.In base → base.Ns mainGlobals mg → FnOk P w K mg base CX0 j f fd [x] (spTrue K) := by
  obtain ⟨f', fd, G, b, kp, e', l, kw, _, o, lk, ho⟩ := D h0
  rw [e] at e'
  cases e'
  refine ⟨fd, fun s v => b s [v] rfl, fun base _ _ => ?_⟩
  obtain ⟨f2, fd2, G2, _, _, e2, _, _, _, o2, lk2, ho2⟩ := D base
  rw [e] at e2
  cases e2
  rw [lk] at lk2
  cases lk2
  rw [ho] at ho2
  cases ho2
  exact (G2.imp (law_imp h)).ok hj
end M

namespace M
open PySem PySem.Spec PyProof.Rows L2

/-! ### what a mirror gives: an answer with a property -/
def W {α : Type} (o : Option (Sls × α)) (Q : Sls → α → Prop) : Prop := ∃ e d, o = some (e, d) ∧ Q e d
theorem W_some {α : Type} (e : Sls) (d : α) (Q : Sls → α → Prop) : W (some (e, d)) Q = Q e d := by
  apply propext
  constructor
  · rintro ⟨e1, d1, h, q⟩; cases h; exact q
  · intro h; exact ⟨e, d, rfl, h⟩
theorem W_bind {α β : Type} (o : Option (Sls × α)) (k : Sls × α → Option (Sls × β)) (Q : Sls → β → Prop) : W (o.bind k) Q = W o fun e d => W (k (e, d)) Q := by
  apply propext
  constructor
  · rintro ⟨e1, d1, h, q⟩
    obtain ⟨⟨e2, d2⟩, h1, h2⟩ := bnd h
    exact ⟨e2, d2, h1, e1, d1, h2, q⟩
  · rintro ⟨e2, d2, h1, e1, d1, h2, q⟩
    exact ⟨e1, d1, by rw [h1]; exact h2, q⟩
theorem W_none {α : Type} (Q : Sls → α → Prop) : W none Q = False := by
  apply propext
  constructor
  · rintro ⟨e1, d1, h, q⟩; cases h
  · intro h; cases h
theorem W_ite {α : Type} (c : Prop) [Decidable c] (a b : Option (Sls × α)) (Q : Sls → α → Prop) : W (if c then a else b) Q = ((c → W a Q) ∧ (¬c → W b Q)) := by
  by_cases h : c
  · simp only [h, if_true, true_imp_iff, not_true, false_imp_iff, and_true]
  · simp only [h, if_false, true_imp_iff, not_false_iff, false_imp_iff, true_and]
theorem W_guard {α : Type} (c : Prop) [Decidable c] (a : Option (Sls × α)) (Q : Sls → α → Prop) : W (if c then a else none) Q = (c ∧ W a Q) := by
  by_cases h : c
  · simp only [h, if_true, true_and]
  · simp only [h, if_false, false_and, W_none]
theorem bind_guard {α β : Type} (c : Prop) [Decidable c] (a : Option α) (k : α → Option β) : (if c then a else none).bind k = if c then a.bind k else none := by
  by_cases h : c <;> simp [h]
theorem bind_ite {α β : Type} (c : Prop) [Decidable c] (a b : Option α) (k : α → Option β) : (if c then a else b).bind k = if c then a.bind k else b.bind k := by
  by_cases h : c <;> simp [h]
theorem W_mono {α : Type} {o : Option (Sls × α)} {Q R : Sls → α → Prop} (h : W o Q) (hr : ∀ e d, Q e d → R e d) : W o R := by
  obtain ⟨e, d, h, q⟩ := h
  exact ⟨e, d, h, hr _ _ q⟩

/-! ### the combinators at a state that shows its first slot -/
section
variable (s : Sl) (e : Sls)
theorem c_kE (f : FE) : kE f (s :: e) = (f (s :: e)).bind fun p => some (p.1, fun _ => some p.2) := rfl
theorem c_kVar (i : Nat) : kVar i (s :: e) = (peek i (s :: e)).bind fun _ => some (s :: e, peek i) := rfl
theorem c_peek (i : Nat) : peek i (s :: e) = ((s :: e)[i]?).bind Sl.see := rfl
theorem c_fC (d : D) : fC d (s :: e) = some (s :: e, d) := rfl
theorem c_fV (np i : Nat) : fV np i (s :: e) = match (s :: e)[i]? with
  | some (.im d) => some (s :: e, d)
  | some (.lst ds) => if np ≤ i then some ((s :: e).set i (.im (.lst ds)), .lst ds) else none
  | some (.dic es) => if np ≤ i then some ((s :: e).set i (.im (.dic es)), .dic es) else none
  | _ => none := rfl
theorem c_fOp (g : D → D → Option D) (ka kb : FK) : fOp g ka kb (s :: e) = (ka (s :: e)).bind fun p => (kb p.1).bind fun q => (p.2 q.1).bind fun x => (q.2 q.1).bind fun y => (g x y).bind fun d => some (q.1, d) := rfl
theorem c_fUn (g : D → Option D) (ka : FK) : fUn g ka (s :: e) = (ka (s :: e)).bind fun p => (p.2 p.1).bind fun x => (g x).bind fun d => some (p.1, d) := rfl
theorem c_fTest (f : FE) : fTest f (s :: e) = (f (s :: e)).bind fun p => match p.2 with | .bl b => some (p.1, b) | _ => none := rfl
theorem c_fTru (g : D → Option Bool) (ka : FK) : fTru g ka (s :: e) = (ka (s :: e)).bind fun p => (p.2 p.1).bind fun x => (g x).bind fun b => some (p.1, b) := rfl
theorem c_fAnd (f g : FT) : fAnd f g (s :: e) = (f (s :: e)).bind fun p => if p.2 = true then g p.1 else some (p.1, false) := rfl
theorem c_fOr (f g : FT) : fOr f g (s :: e) = (f (s :: e)).bind fun p => if p.2 = true then some (p.1, true) else g p.1 := rfl
theorem c_fNot (f : FT) : fNot f (s :: e) = (f (s :: e)).bind fun p => some (p.1, !p.2) := rfl
theorem c_fAndV (f g : FE) : fAndV f g (s :: e) = (f (s :: e)).bind fun p => match p.2 with | .bl b => if b = true then g p.1 else some (p.1, .bl false) | _ => none := rfl
theorem c_fOrV (f g : FE) : fOrV f g (s :: e) = (f (s :: e)).bind fun p => match p.2 with | .bl b => if b = true then some (p.1, .bl true) else g p.1 | _ => none := rfl
theorem c_fNotV (f : FE) : fNotV f (s :: e) = (f (s :: e)).bind fun p => match p.2 with | .bl b => some (p.1, .bl (!b)) | _ => none := rfl
theorem c_fIfE (c : FT) (f g : FE) : fIfE c f g (s :: e) = (c (s :: e)).bind fun p => if p.2 = true then f p.1 else g p.1 := rfl
theorem c_fNil : fNil (s :: e) = some (s :: e, []) := rfl
theorem c_fCons (f : FE) (g : FEs) : fCons f g (s :: e) = (f (s :: e)).bind fun p => (g p.1).bind fun q => some (q.1, p.2 :: q.2) := rfl
theorem c_kNil : kNil (s :: e) = some (s :: e, fun _ => some []) := rfl
theorem c_kCons (f : FK) (g : FKs) : kCons f g (s :: e) = (f (s :: e)).bind fun p => (g p.1).bind fun q => some (q.1, fun e2 => (p.2 e2).bind fun d => (q.2 e2).bind fun ds => some (d :: ds)) := rfl
theorem c_fTup (f : FEs) : fTup f (s :: e) = (f (s :: e)).bind fun p => some (p.1, .tup p.2) := rfl
theorem c_fLst (f : FEs) : fLst f (s :: e) = (f (s :: e)).bind fun p => some (p.1, .lst p.2) := rfl
theorem c_fCB (g : List D → Option D) (k : FKs) : fCB g k (s :: e) = (k (s :: e)).bind fun p => (p.2 p.1).bind fun ds => (g ds).bind fun d => some (p.1, d) := rfl
theorem c_fNoPart : fNoPart (s :: e) = some (s :: e, none) := rfl
theorem c_fPart (f : FE) : fPart f (s :: e) = (f (s :: e)).bind fun p => match p.2 with | .int i => some (p.1, some i) | _ => none := rfl
theorem c_fSl (k : FK) (l h : FO) : fSl k l h (s :: e) = (k (s :: e)).bind fun p => (l p.1).bind fun a => (h a.1).bind fun b => (p.2 b.1).bind fun d => (cutD d a.2 b.2).bind fun c => some (b.1, c) := rfl
theorem c_fM1 (g : D → D → Option D) (k l : FK) : fM1 g k l (s :: e) = (k (s :: e)).bind fun p => match p.2 p.1 with
  | some (.str a) => (l p.1).bind fun q => (q.2 q.1).bind fun y => (g (.str a) y).bind fun d => some (q.1, d)
  | _ => none := rfl
theorem c_fM0 (g : D → Option D) (k : FK) : fM0 g k (s :: e) = (k (s :: e)).bind fun p => match p.2 p.1 with
  | some (.str a) => (g (.str a)).bind fun d => some (p.1, d)
  | _ => none := rfl
theorem c_fIt (f : FE) : fIt f (s :: e) = (f (s :: e)).bind fun p => match p.2 with
  | .lst ds => some (p.1, ds)
  | .tup ds => some (p.1, ds)
  | .str z => some (p.1, chars z)
  | _ => none := rfl
theorem c_fRng1 (k : FKs) : fRng1 k (s :: e) = (k (s :: e)).bind fun p => match p.2 p.1 with
  | some [.int j] => if rngB j = true then some (p.1, rngD 0 j.toNat) else none
  | _ => none := rfl
theorem c_fRng2 (k : FKs) : fRng2 k (s :: e) = (k (s :: e)).bind fun p => match p.2 p.1 with
  | some [.int i, .int j] => if rngB i = true ∧ rngB j = true then some (p.1, rngD i (j - i).toNat) else none
  | _ => none := rfl
theorem c_fZip (k : FEs) : fZip k (s :: e) = (k (s :: e)).bind fun p => match p.2 with
  | [.lst xs, .lst ys] => some (p.1, pairs xs ys)
  | _ => none := rfl
theorem c_fEnum (k : FEs) : fEnum k (s :: e) = (k (s :: e)).bind fun p => match p.2 with
  | [.lst xs] => some (p.1, numbered xs)
  | _ => none := rfl
theorem c_bName (i : Nat) (d : D) : bName i (s :: e) d = some ((s :: e).set i (.im d)) := rfl
theorem c_bNil (ds : List D) : bNil (s :: e) ds = match ds with | [] => some (s :: e) | _ => none := rfl
theorem c_bCons (b : FG) (bs : FGs) (ds : List D) : bCons b bs (s :: e) ds = match ds with | d :: r => (b (s :: e) d).bind fun e1 => bs e1 r | _ => none := rfl
theorem c_bTup (n : Nat) (bs : FGs) (d : D) : bTup n bs (s :: e) d = match d with | .tup ds => if ds.length = n then bs (s :: e) ds else none | _ => none := rfl
theorem c_fYes : fYes (s :: e) = some (s :: e, true) := rfl
theorem c_fLc (it : FI) (vs : List Nat) (b : FG) (c : FT) (f : FE) : fLc it vs b c f (s :: e) = (it (s :: e)).bind fun p =>
  if vs.all (fun i => !((p.1[i]?.getD .un).hand)) = true then (lcLoop vs b c f p.2 (wipeS p.1 vs) []).bind fun q => some (restS p.1 q.1 vs, .lst q.2) else none := rfl
theorem c_sNil : sNil (s :: e) = some (s :: e, .nx) := rfl
theorem c_sSeq (f g : FS) : sSeq f g (s :: e) = (f (s :: e)).bind fun p => match p.2 with
  | .nx => g p.1
  | fl => some (p.1, fl) := rfl
theorem c_sIf (c : FT) (f g : FS) : sIf c f g (s :: e) = (c (s :: e)).bind fun p => if p.2 = true then f p.1 else g p.1 := rfl
theorem c_sRet (f : FE) : sRet f (s :: e) = (f (s :: e)).bind fun p => some (p.1, .rt p.2) := rfl
theorem c_sRetN : sRetN (s :: e) = some (s :: e, .rt .non) := rfl
theorem c_sDrop (f : FE) : sDrop f (s :: e) = (f (s :: e)).bind fun p => some (p.1, .nx) := rfl
theorem c_sSet (f : FE) (b : FG) : sSet f b (s :: e) = (f (s :: e)).bind fun p => (b p.1 p.2).bind fun e1 => some (e1, .nx) := rfl
theorem c_sBreak : sBreak (s :: e) = some (s :: e, .bk) := rfl
theorem c_sCont : sCont (s :: e) = some (s :: e, .ct) := rfl
theorem c_sFor (it : FI) (b : FG) (body : FS) : sFor it b body (s :: e) = (it (s :: e)).bind fun p => forL b body p.2 p.1 := rfl
theorem c_sRetO (f : Sls → Option (Sls × Sl)) : sRetO f (s :: e) = (f (s :: e)).bind fun p => some (p.1, .ro p.2) := rfl
theorem c_sRetV (np i : Nat) : sRetV np i (s :: e) = match (s :: e)[i]? with
  | some t => if t.own = true ∧ np ≤ i then some (s :: e, .ro t) else none
  | none => none := rfl
theorem c_oLst (f : FEs) : oLst f (s :: e) = (f (s :: e)).bind fun p => some (p.1, .lst p.2) := rfl
theorem c_sSetO (i : Nat) (f : Sls → Option (Sls × Sl)) : sSetO i f (s :: e) = (f (s :: e)).bind fun p => some (p.1.set i p.2, .nx) := rfl
theorem c_fAppend (i : Nat) (f : FE) : fAppend i f (s :: e) = match (s :: e)[i]? with
  | some (.lst _) => (f (s :: e)).bind fun p => match p.1[i]? with
    | some (.lst ds) => if ds.length < sizeLine then some (p.1.set i (.lst (ds ++ [p.2])), .non) else none
    | _ => none
  | _ => none := rfl
theorem c_sSetIx (i : Nat) (f g : FE) : sSetIx i f g (s :: e) = (f (s :: e)).bind fun p => match p.1[i]? with
  | some (.lst _) => (g p.1).bind fun q => match q.1[i]?, q.2 with
    | some (.lst ds), .int k => (ixN ds.length k).bind fun j => some (q.1.set i (.lst (ds.set j p.2)), .nx)
    | _, _ => none
  | _ => none := rfl
theorem c_sDPutN (i : Nat) (f g : FE) : sDPutN i f g (s :: e) = (f (s :: e)).bind fun p => match p.1[i]? with
  | some (.dic _) => (g p.1).bind fun q => match q.1[i]? with
    | some (.dic es) => q.2.key.bind fun k => if es.length < sizeLine then some (q.1.set i (.dic (putG es k p.2)), .nx) else none
    | _ => none
  | _ => none := rfl
theorem c_fCallS (m : FC) (k : FA) : fCallS m k (s :: e) = (k (s :: e)).bind fun p => if (owIx p.2).Nodup then (argSs p.1 p.2).bind fun es => (m es).bind fun q => some (putBack p.1 p.2 q.1, q.2) else none := rfl
theorem c_fCall (m : FC) (k : FA) : fCall m k (s :: e) = (fCallS m k (s :: e)).bind fun p => p.2.see.bind fun d => some (p.1, d) := rfl
theorem c_oCall (m : FC) (k : FA) : oCall m k (s :: e) = (fCallS m k (s :: e)).bind fun p => if p.2.own = true then some p else none := rfl
theorem c_fCall1 (m : FC) (k : Sls → Option (Sls × Sl)) : fCall1 m k (s :: e) = (k (s :: e)).bind fun p => if p.2.own = true then (m [p.2]).bind fun q => match q.2 with
  | .im d => some (p.1, d)
  | _ => none
  else none := rfl
theorem c_aNil : aNil (s :: e) = some (s :: e, []) := rfl
theorem c_aIm (f : FE) (g : FA) : aIm f g (s :: e) = (f (s :: e)).bind fun p => (g p.1).bind fun q => some (q.1, .im p.2 :: q.2) := rfl
theorem c_aOw (i : Nat) (g : FA) : aOw i g (s :: e) = if ((s :: e)[i]?.getD .un).hand = true then (g (s :: e)).bind fun q => some (q.1, .ow i :: q.2) else none := rfl
theorem c_callF (NL n np : Nat) (f : FS) : callF NL n np f (s :: e) = if (s :: e).length = n ∧ np ≤ n then (f (startS NL n np (s :: e))).bind fun p => match p.2 with
  | .rt d => if n ≤ p.1.length then some (backS np (s :: e) p.1, .im d) else none
  | .ro t => if n ≤ p.1.length then some (backS np (s :: e) p.1, t) else none
  | .nx => if n ≤ p.1.length then some (backS np (s :: e) p.1, .im .non) else none
  | _ => none
  else none := rfl
theorem c_startS (NL n np : Nat) : startS NL n np (s :: e) = ((s :: e).take np ++ ((s :: e).drop np).map demote) ++ List.replicate (NL - n) .un := rfl
theorem c_backS (np : Nat) (t : Sl) (e1 : Sls) : backS np (s :: e) (t :: e1) = (t :: e1).take np ++ ((s :: e).drop np).map demote := rfl
end
theorem see_im (d : D) : Sl.see (.im d) = some d := rfl
theorem see_lst (d : List D) : Sl.see (.lst d) = some (.lst d) := rfl
theorem see_dic (d : List (Key × D)) : Sl.see (.dic d) = some (.dic d) := rfl
theorem see_un : Sl.see .un = none := rfl
theorem own_im (d : D) : Sl.own (.im d) = false := rfl
theorem own_lst (d : List D) : Sl.own (.lst d) = true := rfl
theorem own_dic (d : List (Key × D)) : Sl.own (.dic d) = true := rfl
theorem own_un : Sl.own .un = false := rfl
theorem hand_im (d : D) : Sl.hand (.im d) = false := rfl
theorem hand_lst (d : List D) : Sl.hand (.lst d) = true := rfl
theorem hand_dic (d : List (Key × D)) : Sl.hand (.dic d) = true := rfl
theorem hand_un : Sl.hand .un = false := rfl
theorem hand_ob (c : Str) (fs : List (Str × Fd)) : Sl.hand (.ob c fs) = true := rfl
theorem own_ob (c : Str) (fs : List (Str × Fd)) : Sl.own (.ob c fs) = false := rfl
theorem dem_ob (c : Str) (fs : List (Str × Fd)) : demote (.ob c fs) = .un := rfl
theorem dem_im (d : D) : demote (.im d) = .im d := rfl
theorem dem_un : demote .un = .un := rfl
theorem dem_lst (d : List D) : demote (.lst d) = .un := rfl
theorem dem_dic (d : List (Key × D)) : demote (.dic d) = .un := rfl
theorem pb_nil (e : Sls) : putBack e [] [] = e := rfl
theorem pb_im (e : Sls) (d : D) (as : List Arg) (s : Sl) (ss : Sls) : putBack e (.im d :: as) (s :: ss) = putBack e as ss := rfl
theorem pb_ow (e : Sls) (i : Nat) (as : List Arg) (s : Sl) (ss : Sls) : putBack e (.ow i :: as) (s :: ss) = (putBack e as ss).set i s := rfl
theorem ws_nil (e : Sls) : wipeS e [] = e := rfl
theorem ws_cons (e : Sls) (v : Nat) (vs : List Nat) : wipeS e (v :: vs) = (wipeS e vs).set v .un := rfl
theorem rs_nil (o e : Sls) : restS o e [] = e := rfl
theorem rs_cons (o e : Sls) (v : Nat) (vs : List Nat) : restS o e (v :: vs) = (restS o e vs).set v (o[v]?.getD .un) := rfl

/-! ### loops -/
def lcStep (vs : List Nat) (b : FG) (c : FT) (f : FE) (d : D) (e : Sls) (acc : List D) : Option (Sls × List D) :=
  (b e d).bind fun e1 => (c e1).bind fun p => if p.2 = true then (f p.1).bind fun q => if acc.length < sizeLine then some (wipeS q.1 vs, acc ++ [q.2]) else none else some (wipeS p.1 vs, acc)
theorem lc_step (vs : List Nat) (b : FG) (c : FT) (f : FE) (d : D) (ds : List D) (e : Sls) (acc : List D) : lcLoop vs b c f (d :: ds) e acc = (lcStep vs b c f d e acc).bind fun q => lcLoop vs b c f ds q.1 q.2 := by
  rw [lcLoop]
  unfold lcStep
  cases b e d with
  | none => rfl
  | some e1 =>
    simp only [Option.bind_some]
    cases c e1 with
    | none => rfl
    | some p =>
      simp only [Option.bind_some]
      by_cases h : p.2 = true
      · simp only [h, if_true]
        cases f p.1 with
        | none => rfl
        | some q =>
          simp only [Option.bind_some]
          by_cases h2 : acc.length < sizeLine
          · simp only [h2, if_true, Option.bind_some]
          · simp only [h2, if_false]; rfl
      · simp only [h]; rfl
theorem w_lc {vs : List Nat} {b : FG} {c : FT} {f : FE} (Inv : List D → Sls → List D → Prop) {ds : List D} {e : Sls} {acc : List D} {Q : Sls → List D → Prop} (h0 : Inv ds e acc)
    (hs : ∀ d ds e acc, Inv (d :: ds) e acc → W (lcStep vs b c f d e acc) fun e' acc' => Inv ds e' acc') (hq : ∀ e acc, Inv [] e acc → Q e acc) : W (lcLoop vs b c f ds e acc) Q := by
  induction ds generalizing e acc with
  | nil => exact ⟨e, acc, rfl, hq _ _ h0⟩
  | cons d ds ih =>
    rw [lc_step, W_bind]
    exact W_mono (hs _ _ _ _ h0) fun e' acc' h => ih h
def forStep (b : FG) (body : FS) (d : D) (e : Sls) : Option (Sls × Fl) := (b e d).bind body
theorem w_for {b : FG} {body : FS} (Inv : List D → Sls → Prop) {ds : List D} {e : Sls} {Q : Sls → Fl → Prop} (h0 : Inv ds e)
    (hs : ∀ d ds e, Inv (d :: ds) e → W (forStep b body d e) fun e' fl => match fl with | .nx => Inv ds e' | .ct => Inv ds e' | .bk => Q e' .nx | .rt d => Q e' (.rt d) | .ro t => Q e' (.ro t)) (hq : ∀ e, Inv [] e → Q e .nx) : W (forL b body ds e) Q := by
  induction ds generalizing e with
  | nil => exact ⟨e, .nx, rfl, hq _ h0⟩
  | cons d ds ih =>
    obtain ⟨e', fl, h1, h2⟩ := hs _ _ _ h0
    obtain ⟨e1, h3, h4⟩ := bnd h1
    rw [forL, h3, Option.bind_some, h4, Option.bind_some]
    cases fl with
    | nx => exact ih h2
    | ct => exact ih h2
    | bk => exact ⟨_, _, rfl, h2⟩
    | rt d => exact ⟨_, _, rfl, h2⟩
    | ro d => exact ⟨_, _, rfl, h2⟩
theorem c_lcStep (vs : List Nat) (b : FG) (c : FT) (f : FE) (d : D) (s : Sl) (e : Sls) (acc : List D) : lcStep vs b c f d (s :: e) acc =
  (b (s :: e) d).bind fun e1 => (c e1).bind fun p => if p.2 = true then (f p.1).bind fun q => if acc.length < sizeLine then some (wipeS q.1 vs, acc ++ [q.2]) else none else some (wipeS p.1 vs, acc) := rfl
theorem c_forStep (b : FG) (body : FS) (d : D) (s : Sl) (e : Sls) : forStep b body d (s :: e) = (b (s :: e) d).bind body := rfl
theorem op_def (x : Option (Sls × D)) : x = x := rfl
end M

namespace M
open PySem PySem.Spec PyProof.Rows L2
/-- the seed: three whole numbers -/
structure Sd where
  a : Int
  b : Int
  c : Int
def sdS (q : Sd) : Sl := .lst [.int q.a, .int q.b, .int q.c]
theorem own_sd (q : Sd) : Sl.own (sdS q) = true := rfl
theorem hand_sd (q : Sd) : Sl.hand (sdS q) = true := rfl
def Sd.ok (q : Sd) (n : Nat) : Prop := 0 ≤ q.b ∧ q.b < 100000000000000000000000000000000000000000000000151 * 100 ∧ 0 ≤ q.c ∧ q.c + n ≤ 2 ^ 80
theorem Sd.ok.le {q : Sd} {n m : Nat} (h : q.ok n) (hm : m ≤ n) : q.ok m := by
  obtain ⟨a, b, c, d⟩ := h
  exact ⟨a, b, c, by omega⟩
theorem log2_le {i : Int} {k : Nat} (h0 : 0 ≤ i) (h : i < 2 ^ k) : i.natAbs.log2 < k ∨ i = 0 := by
  by_cases hz : i = 0
  · exact .inr hz
  · refine .inl ((Nat.log2_lt (by omega)).mpr ?_)
    have : (i.natAbs : Int) = i := Int.natAbs_of_nonneg h0
    have h2 : ((2 ^ k : Nat) : Int) = (2 : Int) ^ k := by simp
    omega
theorem bitsOk_of {i j : Int} {k m : Nat} (h0 : 0 ≤ i) (h : i < 2 ^ k) (g0 : 0 ≤ j) (g : j < 2 ^ m) (hk : k + m < 100000000) : bitsOk i j = true := by
  unfold bitsOk
  have h1 : i.natAbs.log2 ≤ k := by
    rcases log2_le h0 h with h | h
    · omega
    · subst h; simp
  have h2 : j.natAbs.log2 ≤ m := by
    rcases log2_le g0 g with h | h
    · omega
    · subst h; simp
  exact decide_eq_true (by omega)
theorem w_if {α : Type} {c : Prop} [Decidable c] {a b : Option (Sls × α)} {Q : Sls → α → Prop} (h1 : c → W a Q) (h2 : ¬c → W b Q) : W (if c then a else b) Q := by
  rw [W_ite]; exact ⟨h1, h2⟩
section
variable (i j : Int) (a b : Str) (x y z w : D) (xs ys : List D) (p q : Bool)
theorem d_addI : addD (.int i) (.int j) = some (.int (i + j)) := rfl
theorem d_addS : addD (.str a) (.str b) = if a.length + b.length ≤ sizeLine then some (.str (a ++ b)) else none := rfl
theorem d_addL : addD (.lst xs) (.lst ys) = if xs.length + ys.length ≤ sizeLine then some (.lst (xs ++ ys)) else none := rfl
theorem d_addT : addD (.tup xs) (.tup ys) = if xs.length + ys.length ≤ sizeLine then some (.tup (xs ++ ys)) else none := rfl
theorem d_sub : subD (.int i) (.int j) = some (.int (i - j)) := rfl
theorem d_mul : mulD (.int i) (.int j) = if bitsOk i j = true then some (.int (i * j)) else none := rfl
theorem d_fdiv : fdivD (.int i) (.int j) = if 0 < j ∧ j.natAbs.log2 < 9000 then some (.int (i / j)) else none := rfl
theorem d_mod : modD (.int i) (.int j) = if 0 < j then some (.int (i % j)) else none := rfl
theorem d_pow : powD (.int i) (.int j) = if 0 ≤ j ∧ j ≤ 1000000 ∧ i.natAbs < 2 ^ 64 then some (.int (i ^ j.toNat)) else none := rfl
theorem d_neg : negD (.int i) = some (.int (-i)) := rfl
theorem d_ltI : ltD (.int i) (.int j) = some (.bl (decide (i < j))) := rfl
theorem d_ltS : ltD (.str a) (.str b) = some (.bl (decide (a.cps.toList < b.cps.toList))) := rfl
theorem d_gtI : gtD (.int i) (.int j) = some (.bl (decide (j < i))) := rfl
theorem d_gtS : gtD (.str a) (.str b) = some (.bl (decide (b.cps.toList < a.cps.toList))) := rfl
theorem d_leI : leD (.int i) (.int j) = some (.bl (decide (i ≤ j))) := rfl
theorem d_geI : geD (.int i) (.int j) = some (.bl (decide (j ≤ i))) := rfl
theorem d_eqS : eqD (.str a) (.str b) = some (.bl (decide (a = b))) := rfl
theorem d_eqI : eqD (.int i) (.int j) = some (.bl (decide (i = j))) := rfl
theorem d_eqT : eqD (.tup xs) (.tup []) = some (.bl xs.isEmpty) := rfl
theorem d_neS : neD (.str a) (.str b) = some (.bl (!decide (a = b))) := rfl
theorem d_neI : neD (.int i) (.int j) = some (.bl (!decide (i = j))) := rfl
theorem ix_at {xs : List D} {i : Int} {j : Nat} {d : D} (h : ixN xs.length i = some j) (hj : xs[j]? = some d := by rfl) : ixD (.lst xs) (.int i) = some d := by
  simp only [ixD, atI, h, Option.bind_some, hj]
theorem ix_atT {xs : List D} {i : Int} {j : Nat} {d : D} (h : ixN xs.length i = some j) (hj : xs[j]? = some d := by rfl) : ixD (.tup xs) (.int i) = some d := by
  simp only [ixD, atI, h, Option.bind_some, hj]
theorem d_ixL0 : ixD (.lst (x :: xs)) (.int 0) = some x := ix_at (j := 0) (by simp only [ixN, List.length_cons, List.length_nil]; first | (rw [if_pos (by omega), if_pos (by omega)]; rfl) | rfl)
theorem d_ixL1 : ixD (.lst (x :: y :: xs)) (.int 1) = some y := ix_at (j := 1) (by simp only [ixN, List.length_cons, List.length_nil]; first | (rw [if_pos (by omega), if_pos (by omega)]; rfl) | rfl)
theorem d_ixL2 : ixD (.lst (x :: y :: z :: xs)) (.int 2) = some z := ix_at (j := 2) (by simp only [ixN, List.length_cons, List.length_nil]; first | (rw [if_pos (by omega), if_pos (by omega)]; rfl) | rfl)
theorem d_ixL3 : ixD (.lst (x :: y :: z :: w :: xs)) (.int 3) = some w := ix_at (j := 3) (by simp only [ixN, List.length_cons, List.length_nil]; first | (rw [if_pos (by omega), if_pos (by omega)]; rfl) | rfl)
theorem d_ixT0 : ixD (.tup (x :: xs)) (.int 0) = some x := ix_atT (j := 0) (by simp only [ixN, List.length_cons, List.length_nil]; first | (rw [if_pos (by omega), if_pos (by omega)]; rfl) | rfl)
theorem d_ixT1 : ixD (.tup (x :: y :: xs)) (.int 1) = some y := ix_atT (j := 1) (by simp only [ixN, List.length_cons, List.length_nil]; first | (rw [if_pos (by omega), if_pos (by omega)]; rfl) | rfl)
theorem d_ixT2 : ixD (.tup (x :: y :: z :: xs)) (.int 2) = some z := ix_atT (j := 2) (by simp only [ixN, List.length_cons, List.length_nil]; first | (rw [if_pos (by omega), if_pos (by omega)]; rfl) | rfl)
theorem d_ixT3 : ixD (.tup (x :: y :: z :: w :: xs)) (.int 3) = some w := ix_atT (j := 3) (by simp only [ixN, List.length_cons, List.length_nil]; first | (rw [if_pos (by omega), if_pos (by omega)]; rfl) | rfl)
theorem d_ixTm1 : ixD (.tup [x]) (.int (-1)) = some x := ix_atT (j := 0) (by simp only [ixN, List.length_cons, List.length_nil]; first | (rw [if_pos (by omega), if_pos (by omega)]; rfl) | rfl)
theorem d_ixTm2 : ixD (.tup [x, y]) (.int (-1)) = some y := ix_atT (j := 1) (by simp only [ixN, List.length_cons, List.length_nil]; first | (rw [if_pos (by omega), if_pos (by omega)]; rfl) | rfl)
theorem d_ixTm3 : ixD (.tup [x, y, z]) (.int (-1)) = some z := ix_atT (j := 2) (by simp only [ixN, List.length_cons, List.length_nil]; first | (rw [if_pos (by omega), if_pos (by omega)]; rfl) | rfl)
theorem d_lenS : lenD [.str a] = if a.length ≤ sizeLine then some (.int a.length) else none := rfl
theorem d_lenL : lenD [.lst xs] = some (.int xs.length) := rfl
theorem d_lenT : lenD [.tup xs] = some (.int xs.length) := rfl
theorem d_intI : intOfD [.int i] = some (.int i) := rfl
theorem d_intB : intOfD [.bl p] = some (.int (if p then 1 else 0)) := rfl
theorem d_max : maxD [.int i, .int j] = some (.int (if j > i then j else i)) := rfl
theorem d_min : minD [.int i, .int j] = some (.int (if j < i then j else i)) := rfl
theorem d_tupL : tupD [.lst xs] = some (.tup xs) := rfl
theorem d_tupT : tupD [.tup xs] = some (.tup xs) := rfl
theorem d_lstL : lstD [.lst xs] = some (.lst xs) := rfl
theorem d_lstT : lstD [.tup xs] = some (.lst xs) := rfl
theorem ixN30 : ixN 3 0 = some 0 := rfl
theorem ixN31 : ixN 3 1 = some 1 := rfl
theorem ixN32 : ixN 3 2 = some 2 := rfl
theorem d_isaS : isaD [.str a, .ty "str"] = some (.bl true) := rfl
theorem ix_lst {xs : List D} {r : Int} (h0 : 0 ≤ r) (h : r < xs.length) : ∃ d ∈ xs, ixD (.lst xs) (.int r) = some d := by
  have hr : r.toNat < xs.length := by omega
  refine ⟨xs[r.toNat], List.getElem_mem hr, ?_⟩
  simp only [ixD, atI, ixN]
  have h1 : ¬ r < 0 := by omega
  rw [if_pos h0, if_pos h]
  simp [hr]
theorem ix_str {a : Str} {r : Int} (h0 : 0 ≤ r) (h : r < a.length) (hs : a.length ≤ sizeLine) : ∃ c ∈ a.cps.toList, ixD (.str a) (.int r) = some (.str ⟨#[c]⟩) := by
  have hr : r.toNat < a.cps.toList.length := by rw [Array.length_toList]; show r.toNat < a.length; omega
  refine ⟨a.cps.toList[r.toNat], List.getElem_mem hr, ?_⟩
  simp only [ixD, hs, if_true, atI, ixN]
  have h1 : ¬ r < 0 := by omega
  rw [if_pos h0, if_pos (by rw [Array.length_toList]; exact h)]
  simp [hr]
end
/-! ### names -/
def smallWs : List Str := ["a", "b", "x", "y", "xs", "f", "go", "abcdefgh", "cas", "lets", "nums", "zz"]
def greatWs : List Str := ["True", "False", "Nil", "Cons", "A", "Bool", "Abcdefgh", "Data", "Let", "Z"]
def azS : Str := "abcdefghijklmnopqrstuvwxyz"
def firstS : Str := "abefghjkmpqrstuvwxy"
def chS (c : Nat) : Str := ⟨#[c]⟩
def Lows (cs : List Nat) : Prop := ∀ c ∈ cs, c ∈ azS.cps.toList
def SmallN (s : Str) : Prop := s ∈ smallWs ∨ ∃ c cs, s = ⟨(c :: cs).toArray⟩ ∧ c ∈ firstS.cps.toList ∧ Lows cs ∧ cs.length ≤ 7
def GreatN (s : Str) : Prop := s ∈ greatWs ∨ ∃ c cs, s = ⟨(c :: cs).toArray⟩ ∧ 65 ≤ c ∧ c ≤ 90 ∧ Lows cs ∧ cs.length ≤ 7
theorem azS_cps : azS.cps.toList = [97, 98, 99, 100, 101, 102, 103, 104, 105, 106, 107, 108, 109, 110, 111, 112, 113, 114, 115, 116, 117, 118, 119, 120, 121, 122] := by decide +kernel
theorem firstS_cps : firstS.cps.toList = [97, 98, 101, 102, 103, 104, 106, 107, 109, 112, 113, 114, 115, 116, 117, 118, 119, 120, 121] := by decide +kernel
theorem low_of {c : Nat} (h : c ∈ azS.cps.toList) : 97 ≤ c ∧ c ≤ 122 := by
  rw [azS_cps] at h
  simp only [List.mem_cons, List.not_mem_nil, or_false] at h
  omega
theorem first_of {c : Nat} (h : c ∈ firstS.cps.toList) : 97 ≤ c ∧ c ≤ 122 := by
  rw [firstS_cps] at h
  simp only [List.mem_cons, List.not_mem_nil, or_false] at h
  omega
/-- letters only, one to eight -/
def Nm (s : Str) : Prop := (∀ c ∈ s.cps.toList, 65 ≤ c ∧ c ≤ 122 ∧ (c ≤ 90 ∨ 97 ≤ c)) ∧ 1 ≤ s.length ∧ s.length ≤ 8
instance (s : Str) : Decidable (Nm s) := inferInstanceAs (Decidable (_ ∧ _))
theorem nm_cons {c : Nat} {cs : List Nat} (h : 65 ≤ c ∧ c ≤ 122 ∧ (c ≤ 90 ∨ 97 ≤ c)) (hl : Lows cs) (hn : cs.length ≤ 7) : Nm ⟨(c :: cs).toArray⟩ := by
  refine ⟨fun x hx => ?_, ?_, ?_⟩
  · simp only [List.mem_cons] at hx
    rcases hx with rfl | hx
    · exact h
    · have := low_of (hl x hx); omega
  · simp [Str.length]
  · simp [Str.length]; omega
theorem SmallN.nm {s : Str} (h : SmallN s) : Nm s := by
  rcases h with h | ⟨c, cs, rfl, h1, h2, h3⟩
  · have : ∀ s ∈ smallWs, Nm s := by decide +kernel
    exact this s h
  · have := first_of h1
    exact nm_cons (by omega) h2 h3
theorem GreatN.nm {s : Str} (h : GreatN s) : Nm s := by
  rcases h with h | ⟨c, cs, rfl, h1, h2, h3, h4⟩
  · have : ∀ s ∈ greatWs, Nm s := by decide +kernel
    exact this s h
  · exact nm_cons (by omega) h3 h4
theorem strsOf_map : ∀ ss : List Str, strsOf (ss.map D.str) = some ss
  | [] => rfl
  | s :: ss => by rw [List.map_cons, strsOf, strsOf_map ss]; rfl
theorem join_nil : Str.join (Str.ofString "") [] = Str.empty := rfl
theorem join_chs : ∀ cs : List Nat, Str.join (Str.ofString "") (cs.map chS) = ⟨cs.toArray⟩
  | [] => rfl
  | [c] => rfl
  | c :: d :: cs => by
    have ih := join_chs (d :: cs)
    rw [List.map_cons] at ih
    rw [List.map_cons, List.map_cons, Str.join, ih]
    · apply Str.ext'
      simp only [Str.cps_append, chS]
      have : (Str.ofString "").cps = #[] := by decide +kernel
      rw [this]
      simp
    · simp
theorem len_chs (cs : List Nat) : ((cs.map chS).map (·.length)).sum = cs.length := by
  induction cs with
  | nil => rfl
  | cons c cs ih => simp only [List.map_cons, List.sum_cons, ih, List.length_cons]; simp [chS, Str.length]; omega
theorem nil_len : (Str.ofString "").length = 0 := by decide +kernel
theorem d_join (a : Str) (ss : List Str) : joinD (.str a) (.lst (ss.map D.str)) = if (ss.map (·.length)).sum + ss.length * a.length ≤ 16777216 then some (.str (Str.join a ss)) else none := by
  simp only [joinD, strsOf_map, Option.bind_some]
theorem rngD_length (lo : Int) (n : Nat) : (rngD lo n).length = n := by unfold rngD; simp
theorem small_len {c : Nat} : (⟨#[c]⟩ : Str).length = 1 := rfl
theorem azS_len : azS.length = 26 := by decide +kernel
theorem firstS_len : firstS.length = 19 := by decide +kernel
theorem ix_az {r : Int} (h0 : 0 ≤ r) (h : r < 26) : ∃ c ∈ azS.cps.toList, ixD (.str azS) (.int r) = some (.str ⟨#[c]⟩) := ix_str h0 (by rw [azS_len]; exact h) (by decide +kernel)
theorem ix_first {r : Int} (h0 : 0 ≤ r) (h : r < 19) : ∃ c ∈ firstS.cps.toList, ixD (.str firstS) (.int r) = some (.str ⟨#[c]⟩) := ix_str h0 (by rw [firstS_len]; exact h) (by decide +kernel)
theorem up_low {c : Nat} (h : c ∈ azS.cps.toList) : upperD (.str ⟨#[c]⟩) = some (.str ⟨#[c - 32]⟩) := by
  have := low_of h
  have g : (∀ x ∈ (⟨#[c]⟩ : Str).cps.toList, x < 128) ∧ (⟨#[c]⟩ : Str).length ≤ 5592405 := by
    refine ⟨fun x hx => ?_, by show 1 ≤ 5592405; decide⟩
    have : x = c := List.mem_singleton.mp hx
    omega
  simp only [upperD]
  rw [if_pos g, PySem.W.KOpn.upper_one (by omega), if_pos this]
theorem ite_or {α : Type} {c : Prop} [Decidable c] (e : α) (p : Bool) : (if c then some (e, true) else some (e, p)) = some (e, decide c || p) := by
  by_cases h : c <;> simp [h]
theorem ite_and {α : Type} {c : Prop} [Decidable c] (e : α) (p : Bool) : (if c then some (e, p) else some (e, false)) = some (e, decide c && p) := by
  by_cases h : c <;> simp [h]
theorem ite_orB {α : Type} {c : Prop} [Decidable c] (e : α) (p : Bool) : (if c then some (e, D.bl true) else some (e, D.bl p)) = some (e, D.bl (decide c || p)) := by
  by_cases h : c <;> simp [h]
theorem ite_andB {α : Type} {c : Prop} [Decidable c] (e : α) (p : Bool) : (if c then some (e, D.bl p) else some (e, D.bl false)) = some (e, D.bl (decide c && p)) := by
  by_cases h : c <;> simp [h]
theorem lit_eq (a b : String) : (Str.ofString a = Str.ofString b) = (a = b) := by
  apply propext
  constructor
  · intro h
    rw [Str.ofString_eq_toList, Str.ofString_eq_toList] at h
    injection h with h
    have h := congrArg Array.toList h
    simp only [List.toList_toArray] at h
    have inj : ∀ (x y : List Char), x.map Char.toNat = y.map Char.toNat → x = y := by
      intro x
      induction x with
      | nil => intro y h; cases y with
        | nil => rfl
        | cons _ _ => cases h
      | cons c x ih => intro y h; cases y with
        | nil => cases h
        | cons d y =>
          simp only [List.map_cons, List.cons.injEq] at h
          rw [ih y h.2, Char.toNat_inj.mp h.1]
    exact String.toList_inj.mp (inj _ _ h)
  · intro h; rw [h]
end M

namespace M
open PySem PySem.Spec PyProof.Rows L2
/-! ### kinds -/
def DataN (s : Str) : Prop := GreatN s ∨ s = "List" ∨ s = "Pair"
theorem DataN.nm {s : Str} (h : DataN s) : Nm s := by
  rcases h with h | rfl | rfl
  · exact h.nm
  · decide +kernel
  · decide +kernel
mutual
inductive Kd : Nat → Nat → D → Prop
  | num {n L : Nat} : 1 ≤ L → Kd (n + 1) L (.tup [.str "num"])
  | var {n L : Nat} {s : Str} : SmallN s → 1 ≤ L → Kd (n + 1) L (.tup [.str "var", .str s])
  | fn {n L M N : Nat} {a b : D} : Kd n L a → Kd n M b → L + M + 1 ≤ N → Kd (n + 1) N (.tup [.str "fun", a, b])
  | data {n L N : Nat} {s : Str} {ks : List D} : DataN s → Kds n L ks → L + 1 ≤ N → Kd (n + 1) N (.tup [.str "data", .str s, .tup ks])
inductive Kds : Nat → Nat → List D → Prop
  | nil {n L : Nat} : Kds n L []
  | cons {n L M N : Nat} {d : D} {ds : List D} : Kd n L d → Kds n M ds → L + M ≤ N → Kds n N (d :: ds)
end
mutual
theorem Kd.mono {n m : Nat} (h : n ≤ m) : ∀ {L M : Nat} {d : D}, Kd n L d → L ≤ M → Kd m M d
  | L, M, _, .num h1, h2 => by
    obtain ⟨k, rfl⟩ : ∃ k, m = k + 1 := ⟨m - 1, by omega⟩
    exact .num (Nat.le_trans h1 h2)
  | L, M, _, .var h0 h1, h2 => by
    obtain ⟨k, rfl⟩ : ∃ k, m = k + 1 := ⟨m - 1, by omega⟩
    exact .var h0 (Nat.le_trans h1 h2)
  | L, M, _, .fn a b h1, h2 => by
    obtain ⟨k, rfl⟩ : ∃ k, m = k + 1 := ⟨m - 1, by omega⟩
    exact .fn (Kd.mono (by omega) a (Nat.le_refl _)) (Kd.mono (by omega) b (Nat.le_refl _)) (Nat.le_trans h1 h2)
  | L, M, _, .data a b h1, h2 => by
    obtain ⟨k, rfl⟩ : ∃ k, m = k + 1 := ⟨m - 1, by omega⟩
    exact .data a (Kds.mono (by omega) b (Nat.le_refl _)) (Nat.le_trans h1 h2)
theorem Kds.mono {n m : Nat} (h : n ≤ m) : ∀ {L M : Nat} {d : List D}, Kds n L d → L ≤ M → Kds m M d
  | L, M, _, .nil, h2 => .nil
  | L, M, _, .cons a b h1, h2 => .cons (Kd.mono h a (Nat.le_refl _)) (Kds.mono h b (Nat.le_refl _)) (Nat.le_trans h1 h2)
end
theorem Kds.snoc {n : Nat} {d : D} {M : Nat} (hd : Kd n M d) : ∀ {ds : List D} {L : Nat}, Kds n L ds → Kds n (L + M) (ds ++ [d])
  | _, L, .nil => .cons hd .nil (by omega : M + 0 ≤ L + M)
  | _, L, .cons (L := L1) (M := M1) a b h => .cons a (Kds.snoc hd b) (by omega)
mutual
theorem Kd.plain {n : Nat} : ∀ {L : Nat} {d : D}, Kd n L d → d.plain = true
  | _, _, .num _ => rfl
  | _, _, .var _ _ => rfl
  | _, _, .fn a b _ => by simp only [D.plain, D.plains, a.plain, b.plain, Bool.and_self]
  | _, _, .data _ b _ => by simp only [D.plain, D.plains, b.plain, Bool.and_self]
theorem Kds.plain {n : Nat} : ∀ {L : Nat} {d : List D}, Kds n L d → D.plains d = true
  | _, _, .nil => rfl
  | _, _, .cons a b _ => by simp only [D.plains, a.plain, b.plain, Bool.and_self]
end
theorem ne_nil {xs : List D} (h : D.plains xs = true) : neD (.tup xs) (.tup []) = some (.bl (!xs.isEmpty)) := by
  have e : PyData.eqv (D.tup xs).py (D.tup []).py = xs.isEmpty := by
    cases xs with
    | nil => simp [D.py, D.pys, PyData.eqv, PyData.eqvAll]
    | cons x xs => simp [D.py, D.pys, PyData.eqv, PyData.eqvAll]
  have g : (D.tup xs).plain = true ∧ (D.tup []).plain = true ∧ min (D.tup xs).py.depth (D.tup []).py.depth ≤ 200 := by
    refine ⟨h, rfl, ?_⟩
    have : (D.tup []).py.depth = 1 := by simp [D.py, D.pys, PyData.depth, PyData.depthAll]
    omega
  simp only [neD, neQ, eqG]
  rw [if_pos g, e]
  rfl

/-! ### words put side by side -/
def opW (w : Str) : Bool := decide (w = "(") || decide (w = "\\")
def fl : Bool → List Str → Str
  | _, [] => Str.empty
  | op, w :: ws => (if op || decide (w = ")") then "" else " ") ++ w ++ fl (opW w) ws
def Block (ws : List Str) (t : Str) : Prop := ∀ op rest, fl op (ws ++ rest) = (if op then "" else " ") ++ t ++ fl false rest
theorem Block.one {w : Str} (h1 : opW w = false) (h2 : w ≠ ")") : Block [w] w := by
  intro op rest
  simp only [List.cons_append, List.nil_append, fl, h1, h2, decide_false, Bool.or_false]
theorem nilS : (Str.ofString "") = Str.empty := by decide +kernel
theorem Block.app {a b : List Str} {s t : Str} (h1 : Block a s) (h2 : Block b t) : Block (a ++ b) (s ++ " " ++ t) := by
  intro op rest
  rw [List.append_assoc, h1, h2]
  simp only [Str.append_assoc]
  rfl
theorem Block.par {a : List Str} {s : Str} (h : Block a s) : Block ([Str.ofString "("] ++ a ++ [Str.ofString ")"]) ("(" ++ s ++ ")") := by
  intro op rest
  have e1 : opW (Str.ofString "(") = true := by decide +kernel
  have e2 : opW (Str.ofString ")") = false := by decide +kernel
  have e3 : ¬ Str.ofString "(" = Str.ofString ")" := by decide +kernel
  simp only [List.append_assoc, List.cons_append, List.nil_append, fl, e1, e3, decide_false, Bool.or_false]
  rw [h]
  simp only [fl, e2, decide_true, Bool.or_true, if_true, nilS, Str.empty_append, Str.append_assoc]
theorem Block.join {a : List Str} {s : Str} (h : Block a s) : ∀ {ps : List (List Str × Str)}, (∀ p ∈ ps, Block p.1 p.2) → Block (a ++ (ps.map (·.1)).flatten) (Str.join " " (s :: ps.map (·.2)))
  | [], _ => by simpa [Str.join] using h
  | p :: ps, hp => by
    have ih := Block.join (h.app (hp p (List.mem_cons_self ..))) (ps := ps) fun q hq => hp q (List.mem_cons_of_mem _ hq)
    rw [StrLaws.join_shift, List.append_assoc] at ih
    exact ih
theorem Block.flat {a : List Str} {s : Str} (h : Block a s) : fl true a = s := by
  have := h true []
  rw [List.append_nil] at this
  rw [this]
  simp only [fl, if_true, nilS, Str.empty_append, Str.append_empty]
theorem nm_free {w : Str} (h : Nm w) {c : Nat} {x : Str} (hx : x.cps.toList = [c]) (hc : ¬(65 ≤ c ∧ c ≤ 122 ∧ (c ≤ 90 ∨ 97 ≤ c))) : w ≠ x := by
  rintro rfl
  refine hc (h.1 c ?_)
  rw [hx]; exact List.mem_cons_self ..
theorem nm_block {w : Str} (h : Nm w) : Block [w] w := by
  have e1 : w ≠ "(" := nm_free h (c := 40) (by decide +kernel) (by decide)
  have e2 : w ≠ "\\" := nm_free h (c := 92) (by decide +kernel) (by decide)
  have e3 : w ≠ ")" := nm_free h (c := 41) (by decide +kernel) (by decide)
  refine Block.one ?_ e3
  simp only [opW, e1, e2, decide_false, Bool.or_self]
theorem Block.arrow {a b : List Str} {s t : Str} (h1 : Block a s) (h2 : Block b t) : Block (a ++ [Str.ofString "->"] ++ b) (s ++ " -> " ++ t) := by
  have := (h1.app (Block.one (w := "->") (by decide +kernel) (by decide +kernel))).app h2
  have e : (Str.ofString " -> ") = Str.ofString " " ++ Str.ofString "->" ++ Str.ofString " " := by decide +kernel
  rw [e]
  simpa only [Str.append_assoc] using this
/-- one sign or the other -/
theorem in_two (a b c : Str) : inD (.str a) (.lst [.str b, .str c]) = some (.bl (decide (a = b) || decide (a = c))) := by
  simp only [inD, inQ, D.fv, D.fvs, Option.bind_some, Option.map_some]
  have : ∀ x y : Str, eqV (V.str x) (V.str y) = decide (x = y) := fun x y => by
    show (x == y) = _
    by_cases h : x = y
    · subst h; simp
    · simp [h]
  simp only [inV, List.any_cons, List.any_nil, this, Bool.or_false, eq_comm]
end M

namespace M
open PySem PySem.Spec PyProof.Rows L2
/-! ### a target with a starred last name -/
theorem walks_from {prog : Program} {w : World} {A : Around} {I : Addr} {fp wr : List Addr} {n k : Nat} {P : Nat → Value → Prop} {St : Nat → Heap → Prop} (W : Walks prog w A I fp wr n P St) (hk : k ≤ n) :
    Walks prog w A I fp wr (n - k) (fun i v => P (i + k) v) (fun i h => St (i + k) h) where
  sub := W.sub
  frame := fun i h h' st hk => W.frame (i + k) h h' st hk
  item := fun i s Q E hi st hQ => W.item (i + k) s Q E (by omega) st fun v h' tk hP st' hk => hQ v h' tk hP (by rw [show i + 1 + k = i + k + 1 by omega]; exact st') hk
  done := fun s Q E st hQ => W.done s Q E (by rw [show n - k + k = n by omega] at st; exact st) hQ
  self := fun i s Q E st hQ => W.self (i + k) s Q E st hQ
section
variable {prog : Program} {w : World} {A : Around} {E : Value → Shared → Prop} {s : Shared}
theorem unpackItems_star {t : Addr} {items : Array Value} {k : Nat} {Q : List Value → Shared → Prop} (hh : A.handled = none) (ht : IsTup s.heap t items) (hz : items.size ≤ sizeLine) (hk : k ≤ items.size)
    (hQ : ∀ (h' : Heap) (tk : Nat), s.toks ≤ tk → (∀ b o, s.heap.get? b = some o → h'.get? b = some o) → Q (items.toList.take k ++ [.ref h'.objs.size]) { s with heap := h'.push { cls := .type "list", data := .seq (items.toList.drop k).toArray }, toks := tk }) :
    wpAny (model prog w) A (unpackItems (.ref t) (k + 1) (some k)) Q E s := by
  have hlt : t ≠ s.heap.objs.size := by obtain ⟨o, ho, _⟩ := ht; exact Nat.ne_of_lt (Heap.lt_size ho)
  unfold unpackItems
  refine wpAny_bind ?_
  · unfold notIterableAtAll
    refine wpAny_bind (wpAny_specialOf ht.typeIs slot_tuple_iter.lookup ?_)
    refine wpAny_pure ?_
    simp only [Bool.false_eq_true, if_false]
    refine wpAny_bind (wpAny_holding (iter_tuple ht ?_))
    refine wpAny_bind (wpAny_holding (draw_tuple hlt k 0 _ _ ⟨_, Heap.get?_push_size _ rfl, rfl, rfl⟩ (ht.push _) (by omega) fun h₁ hit₁ hs₁ => ?_))
    rw [List.drop_zero, Nat.zero_add] at *
    have ht₁ : IsTup h₁ t items := (ht.push _).extBut hs₁.extBut hlt
    rw [if_neg (by rw [List.length_take, Array.length_toList]; omega)]
    have hne : s.heap.objs.size ≠ s.heap.objs.size + 1 := by omega
    have W := (walks_from (k := k) (Walks.tuple (prog := prog) (w := w) (A := A.in1) hh s.heap.objs.size t hlt items) hk).toS
    refine wpAny_bind (wpAny_holding (wpAny_collect_iter (T := "tuple_iterator") (.inr (.inr (.inr rfl))) W (fun i s st => ?_) ⟨?_, ht₁⟩ (fun b hb => ?_) (List.mem_cons_self ..) (fun s' acc hm hacc => ?_) (by omega)))
    · obtain ⟨⟨o, ho, hc, _⟩, _⟩ := st
      exact ⟨o, ho, hc⟩
    · rw [Nat.zero_add]; exact hit₁
    · simp only [List.mem_cons, List.not_mem_nil, or_false] at hb
      rcases hb with rfl | rfl
      · obtain ⟨o, ho, _⟩ := hit₁; exact Heap.lt_size ho
      · obtain ⟨o, ho, _⟩ := ht₁; exact Heap.lt_size ho
    · have ea : acc.toList = items.toList.drop k := by
        apply List.ext_getElem?
        intro j
        by_cases hj : j < acc.size
        · have h1 := hacc.2 j acc[j] (by simp [hj])
          rw [List.getElem?_drop, Array.getElem?_toList, Array.getElem?_toList, Nat.add_comm, h1]
          simp [hj]
        · have h2 := hacc.1
          rw [List.getElem?_eq_none (show acc.toList.length ≤ j by rw [Array.length_toList]; omega), List.getElem?_eq_none (show (items.toList.drop k).length ≤ j by rw [List.length_drop, Array.length_toList]; omega)]
      rw [if_neg (by rw [Nat.add_sub_cancel, Nat.sub_self]; exact Nat.not_lt_zero _)]
      refine wpAny_bind (wpAny_newList ?_ ?_)
      · refine wpAny_pure ?_
        have hl : acc.toList.length - (k + 1 - 1 - k) = acc.toList.length := by rw [Nat.add_sub_cancel, Nat.sub_self, Nat.sub_zero]
        rw [hl, List.take_length, List.drop_length, List.append_nil, ea]
        obtain ⟨hp, g, d, tk, os⟩ := s'
        obtain ⟨m1, m2, m3, m4, m5⟩ := hm
        simp only at m1 m2 m3 m4 m5
        subst m2 m3 m4
        refine hQ hp tk m5 fun b o e => ?_
        have hb := Heap.lt_size e
        exact m1 b o (fun z => Nat.ne_of_lt hb (List.mem_singleton.mp z)) (hs₁.extBut b o (Nat.ne_of_lt hb) (Heap.get?_push_of_some _ e))
      · rw [List.length_take]; rw [ea, List.length_drop, Array.length_toList]; omega
theorem assign_star {env : Env} {elts : List Expr} {x1 : Nat} {pos : Pos} {t : Addr} {items : Array Value} {k : Nat} {Q : Unit → Shared → Prop} (hh : A.handled = none) (ht : IsTup s.heap t items) (hz : items.size ≤ sizeLine) (hk : k ≤ items.size)
    (hn : (assignEach elts env).length = k + 1) (hstar : (assignEach elts env).findIdx? (·.1) = some k)
    (h : ∀ (h' : Heap) (tk : Nat), s.toks ≤ tk → (∀ b o, s.heap.get? b = some o → h'.get? b = some o) → wpAny (model prog w) A (assignInOrder ((assignEach elts env).map (·.2)) (items.toList.take k ++ [.ref h'.objs.size])) Q E { s with heap := h'.push { cls := .type "list", data := .seq (items.toList.drop k).toArray }, toks := tk }) :
    wpAny (model prog w) A (assign (.Tuple elts x1 pos) env (.ref t)) Q E s := by
  rw [assign_Tuple]
  refine wpAny_bind (wpAny_standAt ?_)
  unfold unpack
  rw [hn, hstar]
  exact wpAny_bind (wpAny_holding (unpackItems_star hh ht hz hk h))
end
section
variable {X : Cx} {np : Nat}
def gStar (K : PySem.W.Frag) (k : Nat) (t : TGs) : TG := fun v σ H Q => ∃ a xs, v = .ref a ∧ SqT K H a xs ∧ k ≤ xs.length ∧ ∀ l, H l = none → t (xs.take k ++ [.ref l]) σ (upd H l (.lst (xs.drop k))) Q
theorem pg_star {es : List Expr} {x1 : Nat} {pos : Pos} {t : TGs} {k : Nat} (hc : X.calm = true) (h : PGs X es t)
    (hn : (assignEach es X.env).length = k + 1 := by rfl) (hst : (assignEach es X.env).findIdx? (·.1) = some k := by rfl) : PG X (.Tuple es x1 pos) (gStar X.K k t) := by
  refine ⟨fun pins s σ H v u Q I r hw => ?_⟩
  obtain ⟨a, xs, e1, hq, hl, hw⟩ := hw
  subst e1
  cases r
  obtain ⟨its, rv, ht, hz⟩ := I.tuple hq
  have hlen := rv.length
  refine assign_star (I.ok.hd hc) ht (by simp only [List.size_toArray]; omega) (by simp only [List.size_toArray]; omega) hn hst fun h' tk htk hx => ?_
  have I1 : Inv X pins σ H { s with heap := h', toks := tk } := I.kept (t' := tk) hx
  have I2 := I1.lnew (t' := tk) (rv.drop k) (by rw [List.length_drop]; omega)
  refine h.run pins _ σ _ _ _ Q I2 (by simpa only [List.toList_toArray] using (rv.take k).append (.cons (show L2.RelV (.ref h'.objs.size) (.ref h'.objs.size) from rfl) .nil)) (hw _ I1.fresh)
theorem pgs_star {e : Expr} {p : Pos} {t : TG} (h1 : PG X e t)
    (hs : (assignEach [.Starred e p] X.env).map (·.2) = [assign e X.env] := by rfl) : PGs X [.Starred e p] (gCons t gNil) := by
  refine ⟨fun pins s σ H vs us Q I r h => ?_⟩
  obtain ⟨v, vr, e1, h⟩ := h
  subst e1
  cases r with
  | cons r rr =>
    rw [hs]
    exact assignInOrder_cons (thn (h1.run pins s σ H _ _ _ I r h) fun _ s1 ⟨σ1, H1, I1, q1⟩ => pgs_nil.run pins s1 σ1 H1 _ _ Q I1 rr q1)
end
end M

namespace M
open PySem PySem.Spec PyProof.Rows L2
/-! ### a starred last name, two names at once -/
def bStar (k : Nat) (bs : FGs) : FG := fun e d => match d with | .tup ds => if k ≤ ds.length then bs e (ds.take k ++ [.lst (ds.drop k)]) else none | _ => none
section
variable {X : Cx} {np : Nat}
theorem jgs_star {e : Expr} {p : Pos} {ts : List Nat} {g : TG} {b : FG} (h : JG X np e ts g b)
    (hs : (assignEach [.Starred e p] X.env).map (·.2) = [assign e X.env] := by rfl) : JGs X np [.Starred e p] 1 (ts ++ []) (gCons g gNil) (bCons b bNil) := by
  refine ⟨pgs_star h.pg hs, rfl, fun B F e σ H vs ds Q hn I r e' hb q => ?_⟩
  cases r with
  | nil => cases hb
  | cons r1 r2 =>
    obtain ⟨e1, h3, hb⟩ := bnd hb
    refine ⟨_, _, rfl, h.de B F e σ H _ _ _ hn I r1 e1 h3 fun F' σ' H' s I' o => ?_⟩
    refine jgs_nil.de B F' e1 σ' H' _ _ _ hn I' (r2.mono s) e' hb fun F2 σ2 H2 s2 I2 o2 => ?_
    refine q F2 σ2 H2 (s.trans s2) I2 ⟨o2.1.trans o.1, fun i hi => ?_⟩
    rw [o2.2 i fun z => hi (List.mem_append_right _ z), o.2 i fun z => hi (List.mem_append_left _ z)]
theorem rps_app {K : PySem.W.Frag} {F : Hp} : ∀ {xs ys : List V} {ds es : List D}, Rps K F xs ds → Rps K F ys es → Rps K F (xs ++ ys) (ds ++ es)
  | _, _, _, _, .nil, h => h
  | _, _, _, _, .cons r t, h => .cons r (rps_app t h)
theorem jstar {K : PySem.W.Frag} {es : List Expr} {k n : Nat} {ts : List Nat} {gs : TGs} {bs : FGs} {x1} {pos : Pos} (hc : X.calm = true) (h : JGs X np es n ts gs bs) (hn : (assignEach es X.env).length = k + 1 := by rfl) (hst : (assignEach es X.env).findIdx? (·.1) = some k := by rfl) (hK : X.K = K := by rfl) :
    JG X np (.Tuple es x1 pos) ts (gStar K k gs) (bStar k bs) := by
  subst hK
  refine ⟨pg_star hc h.pgs hn hst, fun B F e σ H v d Q hn I r e' hb q => ?_⟩
  cases d with
  | tup ds =>
    simp only [bStar] at hb
    split at hb
    · rename_i hl
      cases r with
      | tup r1 r2 =>
        refine ⟨_, _, rfl, sqt_mono I.sf r1, by rw [r2.length]; exact hl, fun l hp => ?_⟩
        rename_i a0 xs0
        have sm := same_upd (o := HO.lst (List.drop k xs0)) (I.free hp).1
        have r3 := r2.mono sm
        refine h.de B _ e σ _ _ _ _ hn (I.laid hp) (rps_app (r3.take k) (.cons (.lst (.inl (.inl upd_same)) (r3.drop k)) .nil)) e' hb fun F' σ' H' s I' o => q F' σ' H' (sm.trans s) I' o
    · cases hb
  | _ => cases hb
/-- a, b = x, y -/
def sPar (i j : Nat) (f : FEs) : FS := fun e => (f e).bind fun p => match p.2 with
  | [a, b] => some ((p.1.set i (.im a)).set j (.im b), .nx)
  | _ => none
theorem jpar {i j n : Nat} {x y : Str} {a b : Expr} {ta : TA} {f : FEs} {px py pt : Pos} {kt k2 pt2} {pos : Pos} (hc : X.calm = true) (hN : X.N.Nodup) (ha : JEs X np [a, b] n ta f) (hij : i ≠ j := by decide) (hi : X.N[i]? = some x := by rfl) (hj : X.N[j]? = some y := by rfl)
    (hx : X.env.scope.names.lookup x = some .local := by rfl) (hy : X.env.scope.names.lookup y = some .local := by rfl) (n1 : np ≤ i := by decide) (n2 : np ≤ j := by decide)
    (hw : swappedStores [.Tuple [.Name x px, .Name y py] kt pt] (.Tuple [a, b] k2 pt2) X.env = pure (some [x, y]) := by rfl)
    (hs : swapsWithSole [.Tuple [.Name x px, .Name y py] kt pt] (.Tuple [a, b] k2 pt2) pos.line X.env = pure false := by rfl) :
    JS X np (.Assign [.Tuple [.Name x px, .Name y py] kt pt] (.Tuple [a, b] k2 pt2) pos) (tPar i j ta) (sPar i j f) := by
  refine ⟨ps_par hc hN hi hj hij hx hy ha.pa hw hs, fun B F e σ H E hn I e' fl hf q => ?_⟩
  obtain ⟨⟨e1, ds⟩, h1, hf⟩ := bnd hf
  refine ha.de B F e σ H _ hn I e1 ds h1 fun F1 vs H1 s1 I1 r l => ?_
  match ds, r with
  | [d1, d2], .cons r1 (.cons r2 .nil) =>
    cases hf
    exact ⟨_, _, rfl, q F1 _ H1 s1 ((I1.set (by rw [hn]; exact n1) r1).set (by rw [hn]; exact n2) r2)⟩

/-! ### the module's own names -/
def GlOk (K : PySem.W.Frag) (mg : Str → Option Value) (x : Str) (d : D) : Prop := ∃ u v, mg x = some u ∧ RelV v u ∧ ∀ F : Hp, Rp K F v d
def tGl (mg : Str → Option Value) (x : Str) : TE := fun _ H Q => ∃ u v, mg x = some u ∧ RelV v u ∧ ∀ v', RelV v' u → v' = v → Q v' H
theorem je_gl {K : PySem.W.Frag} {mg : Str → Option Value} {x : Str} {d : D} {pos : Pos} (h : GlOk K mg x d) (hg : Gl X x) (hd : (x == ("__debug__" : Str)) = false := by decide) (hK : X.K = K := by rfl) (hm : X.mg = mg := by rfl) : JE X np (.Name x pos) (tGl mg x) (fC d) := by
  subst hK hm
  refine ⟨⟨fun pins s σ H Q I q => ?_⟩, fun B F e σ H Q hn I e' d' hf q => ?_⟩
  · obtain ⟨u, v, h1, h2, h3⟩ := q
    exact (pe_glob hg h1 h2 (hd := hd)).run pins s σ H Q I (h3 v h2 rfl)
  · cases hf
    obtain ⟨u, v, h1, h2, h3⟩ := h
    exact ⟨u, v, h1, h2, fun v' _ e => by rw [e]; exact q F v H (Same.refl F) I (h3 F)⟩
/-- a dict of the module with text keys -/
def tabL (tbl : List (Str × D)) (z : Str) : Option D := (tbl.find? fun p => p.1 == z).map (·.2)
def TabOk (K : PySem.W.Frag) (w : World) (mg : Str → Option Value) (x : Str) (tbl : List (Str × D)) : Prop :=
  ∃ a, mg x = some (.ref a) ∧ ∀ z d, tabL tbl z = some d → ∃ v, KDct K w a z v ∧ ∀ F : Hp, Rp K F v d
def tabD (tbl : List (Str × D)) : D → Option D
  | .str z => tabL tbl z
  | _ => none
def tTab (K : PySem.W.Frag) (w : World) (mg : Str → Option Value) (x : Str) (t : TE) : TE := fun σ H Q => ∃ a, mg x = some (.ref a) ∧ tOp (L2.rIxD K w) (tC (.ref a)) t σ H Q
theorem je_tab {K : PySem.W.Frag} {w : World} {mg : Str → Option Value} {x : Str} {tbl : List (Str × D)} {i : Expr} {ti : TE} {ki : FK} {p pos : Pos} (h : TabOk K w mg x tbl) (hg : Gl X x) (hi : JK X np i ti ki) (hs : PlainIx i) (hd : (x == ("__debug__" : Str)) = false := by decide)
    (hK : X.K = K := by rfl) (hm : X.mg = mg := by rfl) (hw : X.w = w := by rfl) : JE X np (.Subscript (.Name x p) i pos) (tTab K w mg x ti) (fUn (tabD tbl) ki) := by
  subst hK hm hw
  obtain ⟨a, h1, h2⟩ := h
  refine ⟨⟨fun pins s σ H Q I q => ?_⟩, fun B F e σ H Q hn I e' d hf q => ?_⟩
  · obtain ⟨b, e1, q⟩ := q
    exact (pe_ix ix_kdict (pe_glob hg e1 (show L2.RelV (.ref b) (.ref b) from rfl) (hd := hd)) hi.pe hs).run pins s σ H Q I q
  · obtain ⟨⟨e1, ra⟩, g1, hf⟩ := bnd hf
    obtain ⟨x, g3, hf⟩ := bnd hf
    obtain ⟨d', g5, hf⟩ := bnd hf
    cases hf
    refine ⟨a, h1, hi.de B F e σ H _ hn I e1 ra g1 fun F1 v1 H1 s1 I1 l1 => ?_⟩
    have rx := l1 F1 e1 H1 x (Same.refl _) I1 g3
    cases x with
    | str z =>
      obtain ⟨v, k, r⟩ := h2 z d g5
      exact ⟨a, z, v, rfl, rx.str.1, k, q F1 v H1 s1 I1 (r F1)⟩
    | _ => cases g5
end
end M

namespace M
open PySem PySem.Spec PyProof.Rows L2
/-! ### dicts of one's own -/
/-- something made anew, kept aside while more is worked out -/
theorem IV.guard2 {K : PySem.W.Frag} {B : Bs} {F : Hp} {e : Sls} {σ : L2.St} {H : Hp} (I : IV K B F e σ H) {p : Addr} {o : HO} (hp : H p = none) : IV K { B with G := upd B.G p o } F e σ (upd H p o) := by
  obtain ⟨f1, f2, f3, f4⟩ := I.free hp
  refine ⟨fun b u q => ?_, same_both I.sg, I.g1, fun b => ?_, fun b q => ?_, I.len, fun i s v h1 h2 => ?_, I.ap, I.an,
    I.ob.go (Same.refl F) (fun b hb => by
      have nb : b ≠ p := fun z => I.ob.there hb (by rw [z]; exact hp)
      exact ⟨upd_ne nb, (I.ob.free hb).1, by show upd B.G p o b = none; rw [upd_ne nb]; exact (I.ob.free hb).2⟩) (fun _ _ _ h => ⟨h, rfl⟩) fun j t b h1 h2 h3 ⟨i, s, h4, h5⟩ => I.ob.aw i j s t b h4 h1 h5 h2 h3⟩
  · rw [upd_ne (ne_of_none q f1)]; exact I.sf b u q
  · by_cases z : b = p
    · subst z; exact .inl (f1.trans f3.symm)
    · rcases I.g2 b with h | ⟨h1, h2, h3⟩
      · exact .inl h
      · exact .inr ⟨h1, h2, by show upd B.G p o b = none; rw [upd_ne z]; exact h3⟩
  · by_cases z : b = p
    · subst z; exact f4
    · rw [upd_ne z] at q; exact I.g3 b q
  · have r := I.sl i s v h1 h2
    cases r with
    | un => exact .un
    | im r => exact .im r
    | ow r g1 g2 g3 =>
      rename_i a
      have na : a ≠ p := fun z => by rw [z] at r; exact r.some hp
      exact .ow (r.mono (Same.refl F) (upd_ne na)) g1 (by show upd B.G p o a = none; rw [upd_ne na]; exact g2) g3
    | ob => exact .ob
theorem IV.unguard2 {K : PySem.W.Frag} {B : Bs} {F : Hp} {e : Sls} {σ : L2.St} {H : Hp} {p : Addr} {o : HO} (hg : B.G p = none) (hf : B.F p = none) (I : IV K { B with G := upd B.G p o } F e σ H) :
    IV K B F e σ H ∧ H p = some o ∧ F p = none ∧ (∀ (j : Nat) (s : Sl), e[j]? = some s → s.own = true → σ[j]? ≠ some (some (.ref p))) ∧ ¬ IsCell H e σ p := by
  have hp : H p = some o := I.sg p o (by show upd B.G p o p = some o; exact upd_same)
  have gp : ∀ b, upd B.G p o b = none → B.G b = none := fun b h => by
    by_cases z : b = p
    · subst z; exact hg
    · rw [upd_ne z] at h; exact h
  refine ⟨⟨I.sf, fun b u q => I.sg b u ?_, I.g1, fun b => ?_, I.g3, I.len, fun i s v h1 h2 => ?_, I.ap, I.an,
    I.ob.go (Same.refl F) (fun b hb => ⟨rfl, (I.ob.free hb).1, gp b (I.ob.free hb).2⟩) (fun _ _ _ h => ⟨h, rfl⟩) fun j t b h1 h2 h3 ⟨i, s, h4, h5⟩ => I.ob.aw i j s t b h4 h1 h5 h2 h3⟩, hp, ?_, fun j s h1 h2 z => ?_, fun hc => ?_⟩
  · show upd B.G p o b = some u
    rw [upd_ne (ne_of_none q hg)]; exact q
  · rcases I.g2 b with h | ⟨h1, h2, h3⟩
    · exact .inl h
    · exact .inr ⟨h1, h2, gp b h3⟩
  · have r := I.sl i s v h1 h2
    cases r with
    | un => exact .un
    | im r => exact .im r
    | ow r g1 g2 g3 => exact .ow r g1 (gp _ g2) g3
    | ob => exact .ob
  · rcases I.g2 p with h | ⟨_, _, h⟩
    · exact h.trans hf
    · have h : upd B.G p o p = none := h
      rw [upd_same] at h; cases h
  · obtain ⟨a, e1, _, _, g, _⟩ := (I.sl j s _ h1 z).of_own h2
    cases e1
    have g : upd B.G p o p = none := g
    rw [upd_same] at g; cases g
  · have g : upd B.G p o p = none := (I.ob.free hc).2
    rw [upd_same] at g; cases g
theorem nc_upd {H : Hp} {e : Sls} {σ : L2.St} {p : Addr} {o : HO} (h : ¬ IsCell H e σ p) : ¬ IsCell (upd H p o) e σ p := by
  rintro ⟨i, s, h1, h2⟩
  obtain ⟨c, fs, a, rfl, e2, h3⟩ := h2
  have ha : a ≠ p := fun z => h ⟨i, _, h1, c, fs, a, rfl, e2, .inl z.symm⟩
  refine h ⟨i, _, h1, c, fs, a, rfl, e2, ?_⟩
  rcases h3 with h3 | ⟨C, dx, kvs, j, h4, h5⟩
  · exact .inl h3
  · rw [upd_ne ha] at h4
    exact .inr ⟨C, dx, kvs, j, h4, h5⟩
def fPairs : List (FE × FE) → Sls → Option (Sls × List (Key × D))
  | [], e => some (e, [])
  | (k, v) :: r, e => (k e).bind fun p => (v p.1).bind fun q => p.2.key.bind fun k => (fPairs r q.1).bind fun t => some (t.1, (k, q.2) :: t.2)
def mergeG (es : List (Key × D)) : List (Key × D) := es.foldl (fun acc kv => putG acc kv.1 kv.2) []
theorem merge_rpk {K : PySem.W.Frag} {F : Hp} : ∀ {kvs : List (Key × V)} {es : List (Key × D)} {as : List (Key × V)} {bs : List (Key × D)}, Rpk K F kvs es → Rpk K F as bs → Rpk K F (mergeK as kvs) (es.foldl (fun acc kv => putG acc kv.1 kv.2) bs)
  | _, _, _, _, .nil, q => q
  | _, _, as, bs, .cons (k := k) (v := v) (d := d) r t, q => by
    have ih := merge_rpk (as := putK as k v) (bs := putG bs k d) t (put_rpk r q)
    exact ih
inductive DPs (X : Cx) (np : Nat) : List (Option Expr) → List Expr → List (TE × TE) → List (FE × FE) → Prop
  | nil : DPs X np [] [] [] []
  | cons {k v : Expr} {ks : List (Option Expr)} {vs : List Expr} {tk tv : TE} {fk fv : FE} {ts : List (TE × TE)} {fs : List (FE × FE)} : JE X np k tk fk → JE X np v tv fv → DPs X np ks vs ts fs → DPs X np (some k :: ks) (v :: vs) ((tk, tv) :: ts) ((fk, fv) :: fs)
section
variable {X : Cx} {np : Nat}
theorem DPs.pps {pos : Pos} : ∀ {ks : List (Option Expr)} {vs : List Expr} {ts : List (TE × TE)} {fs : List (FE × FE)}, DPs X np ks vs ts fs → PPs X pos ks vs ts
  | _, _, _, _, .nil => pps_nil
  | _, _, _, _, .cons a b c => pps_cons a.pe b.pe c.pps
theorem DPs.len : ∀ {ks : List (Option Expr)} {vs : List Expr} {ts : List (TE × TE)} {fs : List (FE × FE)}, DPs X np ks vs ts fs → ks.length = fs.length
  | _, _, _, _, .nil => rfl
  | _, _, _, _, .cons a b c => congrArg (· + 1) c.len
theorem fPairs_len : ∀ {fs : List (FE × FE)} {e e' : Sls} {es : List (Key × D)}, fPairs fs e = some (e', es) → es.length = fs.length
  | [], _, _, _, h => by cases h; rfl
  | (k, v) :: r, e, e', es, h => by
    obtain ⟨p, _, h⟩ := bnd h
    obtain ⟨q, _, h⟩ := bnd h
    obtain ⟨k', _, h⟩ := bnd h
    obtain ⟨⟨t1, t2⟩, h4, h⟩ := bnd h
    cases h
    exact congrArg (· + 1) (fPairs_len h4)
theorem DPs.de : ∀ {ks : List (Option Expr)} {vs : List Expr} {ts : List (TE × TE)} {fs : List (FE × FE)}, DPs X np ks vs ts fs → ∀ (B : Bs) (F : Hp) (e : Sls) (σ : L2.St) (H : Hp) (Q : List (V × V) → Hp → Prop), B.np = np → IV X.K B F e σ H → ∀ (e' : Sls) (es : List (Key × D)), fPairs fs e = some (e', es) →
    (∀ (F' : Hp) (kvs : List (Key × V)) (H' : Hp), Same F F' → IV X.K B F' e' σ H' → Rpk X.K F' kvs es → Q (kvs.map fun kv => (kV kv.1, kv.2)) H') → tPairs ts σ H Q
  | _, _, _, _, .nil, B, F, e, σ, H, Q, hn, I, e', es, hf, q => by
    cases hf
    exact q F [] H (Same.refl F) I .nil
  | _, _, _, _, .cons a b c, B, F, e, σ, H, Q, hn, I, e', es, hf, q => by
    obtain ⟨⟨e1, dk⟩, h1, hf⟩ := bnd hf
    obtain ⟨⟨e2, dv⟩, h2, hf⟩ := bnd hf
    obtain ⟨k', h3, hf⟩ := bnd hf
    obtain ⟨⟨e3, t2⟩, h4, hf⟩ := bnd hf
    cases hf
    refine a.de B F e σ H _ hn I e1 dk h1 fun F1 x H1 s1 I1 r1 => ?_
    refine b.de B F1 e1 σ H1 _ hn I1 e2 dv h2 fun F2 y H2 s2 I2 r2 => ?_
    refine c.de B F2 e2 σ H2 _ hn I2 _ t2 h4 fun F3 kvs H3 s3 I3 r3 => ?_
    have ex : x = kV k' := key_rpo (.rp r1 : RpO X.K F1 H1 x dk) h3
    rw [ex]
    exact q F3 ((k', y) :: kvs) H3 ((s1.trans s2).trans s3) I3 (.cons (r2.mono s3) r3)
def oDic (fs : List (FE × FE)) : Sls → Option (Sls × Sl) := fun e => (fPairs fs e).bind fun p => some (p.1, .dic (mergeG p.2))
theorem jow_dic {ks : List (Option Expr)} {vs : List Expr} {ts : List (TE × TE)} {fs : List (FE × FE)} {pos : Pos} (h : DPs X np ks vs ts fs) (hall : ks.all (·.isSome) = true := by rfl) (hl : ks.length = vs.length := by rfl) (h0 : ks ≠ [] := by simp) (h15 : ks.length ≤ 15 := by decide) :
    JOw X np (.Dict ks vs pos) (tDisp ts) (oDic fs) := by
  refine ⟨pe_disp h.pps hall hl h0 h15, fun B F e σ H Q hn I e' s hf q => ?_⟩
  obtain ⟨⟨e1, es⟩, h1, hf⟩ := bnd hf
  cases hf
  intro p hp
  obtain ⟨f1, f2, f3, f4⟩ := I.free hp
  refine h.de { B with G := upd B.G p (.dK []) } F e σ _ _ hn (I.guard2 hp) e1 es h1 fun F1 kvs H1 s1 I1 r1 => ?_
  obtain ⟨I2, g1, g2, g3, g4⟩ := I1.unguard2 f2 f3
  have hlen : kvs.length = es.length := r1.length
  refine ⟨g1, kvs, rfl, by rw [hlen, fPairs_len h1, ← h.len]; exact h15, ?_⟩
  have I3 : IV X.K B F1 e1 σ (upd H1 p (.dK (mergeK [] kvs))) := by
    refine ⟨fun b u w => ?_, fun b u w => ?_, I2.g1, I2.g2, fun b w => ?_, I2.len, fun i s v k1 k2 => ?_, I2.ap, I2.an,
      I2.ob.stay (Same.refl F1) fun b hb => ⟨upd_ne fun z => g4 (by rw [← z]; exact hb), (I2.ob.free hb).1⟩⟩
    · rw [upd_ne (ne_of_none w g2)]; exact I2.sf b u w
    · rw [upd_ne (ne_of_none w f2)]; exact I2.sg b u w
    · by_cases z : b = p
      · subst z; exact f4
      · rw [upd_ne z] at w; exact I2.g3 b w
    · have r := I2.sl i s v k1 k2
      cases r with
      | un => exact .un
      | im r => exact .im r
      | ow r y1 y2 y3 =>
        rename_i a
        have na : a ≠ p := fun z => by
          subst z
          exact g3 i s k1 r.own k2
        exact .ow (r.mono (Same.refl F1) (upd_ne na)) y1 y2 y3
      | ob => exact .ob
  exact q F1 p _ s1 I3 (.dic upd_same (merge_rpk r1 .nil)) g2 f2 f4 g3 (nc_upd g4)
theorem jow_dic0 {pos : Pos} : JOw X np (.Dict [] [] pos) tDNewK (oDic []) := by
  refine ⟨pe_dnewK, fun B F e σ H Q hn I e' s hf q => ?_⟩
  cases hf
  intro p hp
  obtain ⟨f1, f2, f3, f4⟩ := I.free hp
  obtain ⟨I2, ne, nc⟩ := I.newOwn (o := .dK []) hp
  exact q F p _ (Same.refl F) I2 (.dic upd_same .nil) f1 f2 f4 ne nc
/-- something made anew, as a value -/
def fO (f : Sls → Option (Sls × Sl)) : FE := fun e => (f e).bind fun p => p.2.see.bind fun d => some (p.1, d)
theorem je_o {ex : Expr} {t : TE} {f : Sls → Option (Sls × Sl)} (h : JOw X np ex t f) : JE X np ex t (fO f) := by
  refine ⟨h.pe, fun B F e σ H Q hn I e' d hf q => ?_⟩
  obtain ⟨⟨e1, s⟩, h1, hf⟩ := bnd hf
  obtain ⟨d', h2, hf⟩ := bnd hf
  cases hf
  refine h.de B F e σ H _ hn I e1 s h1 fun F1 a H1 s1 I1 o f g b ne nc => ?_
  obtain ⟨F2, s2, I2, r2⟩ := I1.freezeNew o f g b h2 ne nc
  exact q F2 _ H1 (s1.trans s2) I2 r2
/-- d.get(k, x) -/
def fGet2 (ko : FK) (kk : FK) (kd : FE) : FE := fun e => (ko e).bind fun p => (kk p.1).bind fun q => (kd q.1).bind fun r => match p.2 p.1 with
  | some (.dic _) => match p.2 r.1 with
    | some (.dic es) => (q.2 r.1).bind fun k => k.key.bind fun k => match lookK k es with
      | some d => some (r.1, d)
      | none => some (r.1, r.2)
    | _ => none
  | _ => none
theorem isD_of {K : PySem.W.Frag} {F H : Hp} {x : V} {es : List (Key × D)} (sf : Same F H) (h : RpO K F H x (.dic es)) : ∃ a kvs, x = .ref a ∧ IsD H a ∧ Rd H a (.dK kvs) ∧ Rpk K F kvs es := by
  obtain ⟨a, kvs, e, r, k⟩ := h.dic' sf
  exact ⟨a, kvs, e, .inl ⟨kvs, r⟩, r, k⟩
theorem je_get2 {o k d : Expr} {to tk td : TE} {ko kk : FK} {kd : FE} {apos cpos : Pos} (hu : X.A.units + 200 < cLine) (ho : JK X np o to ko) (hk : JK X np k tk kk) (hd : JE X np d td kd) (m : L2.M2 X o "get" apos k d cpos) :
    JE X np (.Call (.Attribute o "get" apos) [k, d] [] cpos) (tDGet2 to tk td) (fGet2 ko kk kd) := by
  refine ⟨pe_dget2 (by omega) ho.pe hk.pe hd.pe m, fun B F e σ H Q hn I e' d' hf q => ?_⟩
  obtain ⟨⟨e1, r1⟩, h1, hf⟩ := bnd hf
  obtain ⟨⟨e2, r2⟩, h2, hf⟩ := bnd hf
  obtain ⟨⟨e3, r3⟩, h3, hf⟩ := bnd hf
  simp only at hf
  split at hf
  · rename_i es0 z0
    split at hf
    · rename_i es z1
      obtain ⟨kd', y1, hf⟩ := bnd hf
      obtain ⟨key, y2, hf⟩ := bnd hf
      refine ho.de B F e σ H _ hn I e1 r1 h1 fun F1 x H1 s1 I1 l1 => ?_
      obtain ⟨a, kvs0, ex, isd, _, _⟩ := isD_of I1.sf (l1 F1 e1 H1 _ (Same.refl _) I1 z0)
      refine ⟨a, ex, isd, ?_⟩
      refine hk.de B F1 e1 σ H1 _ hn I1 e2 r2 h2 fun F2 y H2 s2 I2 l2 => ?_
      refine hd.de B F2 e2 σ H2 _ hn I2 e3 r3 h3 fun F3 z H3 s3 I3 rz => ?_
      obtain ⟨a', kvs, ex', _, rd, rk⟩ := isD_of I3.sf (l1 F3 e3 H3 _ (s2.trans s3) I3 z1)
      have ea : a = a' := by rw [ex] at ex'; cases ex'; rfl
      subst ea
      have ey := key_rpo (l2 F3 e3 H3 _ s3 I3 y1) y2
      refine ⟨valV kvs key, .inl ⟨kvs, key, rd, ey, rfl⟩, ?_⟩
      rcases look_rpk (k := key) rk with ⟨w1, w2⟩ | ⟨v, dv, w1, w2, w3⟩
      · rw [w1] at hf
        cases hf
        rw [w2]
        exact q F3 z H3 ((s1.trans s2).trans s3) I3 rz
      · rw [w1] at hf
        cases hf
        rw [w2]
        exact q F3 v H3 ((s1.trans s2).trans s3) I3 w3
    · cases hf
  · cases hf
theorem js_setLc {i : Nat} {y : Str} {py : Pos} {elt tg iter : Expr} {ifs : List Expr} {scope : Scope} {own : List (Str × Nat)} {pos spos : Pos} {wi : TI} {fi : FI} {ts : List Nat} {g : TG} {b : FG} {tt : TT} {c : FT} {te : TE} {f : FE} (hc : X.calm = true) (hN : X.N.Nodup)
    (hi : JI X np tg iter wi fi) (ok : BlkOk X.N X.env.scope scope own)
    (hg : ∀ (s : Shared) (H : Hp) (C : Addr) (cl : List (Str × Addr)) (fp : List Addr), JG (X.blk s H scope (compEnvC scope cl C X.env) fp) np tg ts g b)
    (ht : ∀ (s : Shared) (H : Hp) (C : Addr) (cl : List (Str × Addr)) (fp : List Addr), JTs (X.blk s H scope (compEnvC scope cl C X.env) fp) np ifs tt c)
    (he : ∀ (s : Shared) (H : Hp) (C : Addr) (cl : List (Str × Addr)) (fp : List Addr), JE (X.blk s H scope (compEnvC scope cl C X.env) fp) np elt te f)
    (hts : ∀ i ∈ ts, i ∈ own.map (·.2) := by decide) (hvs : ∀ i ∈ own.map (·.2), np ≤ i := by decide) (hs : ∀ x, foldedSetIterable iter X.env x = pure x := by intro _; rfl)
    (hy : X.N[i]? = some y := by rfl) (hyl : X.env.scope.names.lookup y = some .local := by rfl) (hnp : np ≤ i := by decide)
    (hsw : swapsWith (.ListComp elt [⟨tg, iter, ifs, 0⟩] scope pos) (some (.Name y py)) spos.line X.env = pure true := by rfl) (hx : Loc X.env.scope y := by first | exact Or.inl rfl | exact Or.inr rfl)
    (hf : X.fn y = true ∨ X.env.scope.names.lookup y = some .local := by first | exact .inl rfl | exact .inr rfl) :
    JS X np (.Assign [.Name y py] (.ListComp elt [⟨tg, iter, ifs, 0⟩] scope pos) spos) (tAsg (tLc wi g tt te (own.map (·.2))) (gName i)) (sSet (fLc fi (own.map (·.2)) b c f) (bName i)) :=
  js_asg (je_lc hc hN hi ok hg ht he hts hvs hs) (jg_name (pos := py) (pg_name hN hy hx hf) hnp)
    (ps_setLc hc hN hy hyl hsw hi.pi ok (fun s H C cl fp => (hg s H C cl fp).pg) (fun s H C cl fp => (ht s H C cl fp).pts) (fun s H C cl fp => (he s H C cl fp).pe) hs)
theorem jasg {tg ex : Expr} {ts : List Nat} {tt : TG} {bg : FG} {te : TE} {fe : FE} {pos : Pos} (h : JE X np ex te fe) (hg : JG X np tg ts tt bg) (hs : swapsWithSole [tg] ex pos.line X.env = pure false := by rfl) (hw : swappedStores [tg] ex X.env = pure none := by rfl)
    (h1 : (assignEach [tg] X.env).map (·.2) = [assign tg X.env] := by rfl) : JS X np (.Assign [tg] ex pos) (tAsg te tt) (sSet fe bg) := js_asg h hg (ps_asg h.pe hg.pg hs hw h1)
theorem jget2 {o k d : Expr} {to tk td : TE} {ko kk : FK} {kd : FE} {apos cpos : Pos} (hu : X.A.units + 200 < cLine) (ho : JK X np o to ko) (hk : JK X np k tk kk) (hd : JE X np d td kd)
    (h1 : attributeBase o "get" X.env (eval o X.env) = eval o X.env := by rfl)
    (h2 : ((backTo cpos (starEach [k, d] X.env)).all (fun x => !x.1) && (backToKw cpos (keywordEach [] X.env)).all (fun x => x.1.isSome)
    && decide (([k, d] : List Expr).length + ([] : List Keyword).length + (if ([] : List Keyword).isEmpty then 0 else 1) < 30)) = true := by rfl)
    (h3 : (apos.endLine == cpos.line) = true := by rfl) (h4 : backTo cpos (starEach [k, d] X.env) = [(false, eval k X.env), (false, eval d X.env)] := by rfl) :
    JE X np (.Call (.Attribute o "get" apos) [k, d] [] cpos) (tDGet2 to tk td) (fGet2 ko kk kd) := je_get2 hu ho hk hd ⟨h1, h2, h3, h4⟩
end
end M

namespace M
open PySem PySem.Spec PyProof.Rows L2
def TabL (K : PySem.W.Frag) (a : Addr) : List (Str × D) → Prop
  | [] => True
  | (z, d) :: r => (∃ u v, PySem.W.nsIn K a z = some (some u) ∧ RelV v u ∧ ∀ F : Hp, Rp K F v d) ∧ TabL K a r
theorem tabL_get {K : PySem.W.Frag} {a : Addr} {z : Str} {d : D} : ∀ {tbl : List (Str × D)}, TabL K a tbl → tabL tbl z = some d → ∃ u v, PySem.W.nsIn K a z = some (some u) ∧ RelV v u ∧ ∀ F : Hp, Rp K F v d
  | [], _, h => by cases h
  | (y, c) :: r, ⟨h1, h2⟩, h => by
    by_cases e : y = z
    · subst e
      have : tabL ((y, c) :: r) y = some c := by simp [tabL]
      rw [this] at h
      cases h
      exact h1
    · have : tabL ((y, c) :: r) z = tabL r z := by
        have e' : (y == z) = false := by simpa using e
        simp only [tabL, List.find?_cons, e']
      rw [this] at h
      exact tabL_get h2 h
theorem tab_mk {K : PySem.W.Frag} {w : World} {h : Heap} {mg : Str → Option Value} {x : Str} {a : Addr} {ks : List Str} {tbl : List (Str × D)} (X : K.In h) (G : h.Ns mainGlobals mg) (q : PySem.W.nsIn K mainGlobals x = some (some (.ref a))) (hd : He.dicW K a = some (He.keysIn w.params ks)) (hl : TabL K a tbl) : TabOk K w mg x tbl := by
  refine ⟨a, PySem.W.mg_of X G q, fun z d hz => ?_⟩
  obtain ⟨u, v, h1, h2, h3⟩ := tabL_get hl hz
  obtain ⟨es, n, kd⟩ := He.dicW_ok hd
  exact ⟨v, ⟨es, n, u, kd.at_, kd.lit, h1, h2⟩, h3⟩
theorem tab_mk2 {K : PySem.W.Frag} {w : World} {h : Heap} {mg : Str → Option Value} {x : Str} {a : Addr} {es : Array DictEntry} {n : Nat} {tbl : List (Str × D)} (X : K.In h) (G : h.Ns mainGlobals mg) (q : PySem.W.nsIn K mainGlobals x = some (some (.ref a))) (hd : K.lookup a = some ⟨.type "dict", none, .dict es n, #[]⟩) (hk : PySem.W.KeysLit w.params es.toList) (hl : TabL K a tbl) : TabOk K w mg x tbl := by
  refine ⟨a, PySem.W.mg_of X G q, fun z d hz => ?_⟩
  obtain ⟨u, v, h1, h2, h3⟩ := tabL_get hl hz
  exact ⟨v, ⟨es, n, u, hd, hk, h1, h2⟩, h3⟩
theorem tabl_int {K : PySem.W.Frag} {a : Addr} {z : Str} {i : Int} {t : Tok} {r : List (Str × D)} (h : PySem.W.nsIn K a z = some (some (.int i t))) (hr : TabL K a r) : TabL K a ((z, .int i) :: r) := ⟨⟨_, .int i, h, ⟨t, rfl⟩, fun F => .int i⟩, hr⟩
theorem tabl_str {K : PySem.W.Frag} {a : Addr} {z : Str} {s : Str} {t : Tok} {r : List (Str × D)} (h : PySem.W.nsIn K a z = some (some (.str s t))) (hs : sOk s) (hr : TabL K a r) : TabL K a ((z, .str s) :: r) := ⟨⟨_, .str s, h, ⟨t, rfl⟩, fun F => .str s hs⟩, hr⟩
theorem gl_int {K : PySem.W.Frag} {h : Heap} {mg : Str → Option Value} {x : Str} {i : Int} {t : Tok} (X : K.In h) (G : h.Ns mainGlobals mg) (q : PySem.W.nsIn K mainGlobals x = some (some (.int i t))) : GlOk K mg x (.int i) := ⟨_, .int i, PySem.W.mg_of X G q, ⟨t, rfl⟩, fun F => .int i⟩
theorem gl_str {K : PySem.W.Frag} {h : Heap} {mg : Str → Option Value} {x s : Str} {t : Tok} (X : K.In h) (G : h.Ns mainGlobals mg) (q : PySem.W.nsIn K mainGlobals x = some (some (.str s t))) (hs : sOk s) : GlOk K mg x (.str s) := ⟨_, .str s, PySem.W.mg_of X G q, ⟨t, rfl⟩, fun F => .str s hs⟩
/-- a tuple of texts of the module -/
def strsW (K : PySem.W.Frag) (a : Addr) : Option (List (Option Str)) := match K.lookup a with
  | some o => match o.data with
    | .seq its _ => (match o.cls == .type "tuple" && decide (its.size ≤ 1000) with
      | true => some (its.toList.map fun v => match v with | .str s _ => some s | _ => none)
      | false => none)
    | _ => none
  | none => none
theorem strs_vals {K : PySem.W.Frag} : ∀ {its : List Value} {ss : List Str}, (its.map fun v => match v with | Value.str s _ => some s | _ => none) = ss.map some → (∀ s ∈ ss, sOk s) → Vals (ss.map V.str) its ∧ ∀ F : Hp, Rps K F (ss.map V.str) (ss.map D.str)
  | [], [], _, _ => ⟨.nil, fun F => .nil⟩
  | [], s :: ss, h, _ => by cases h
  | v :: vs, [], h, _ => by cases h
  | v :: vs, s :: ss, h, ho => by
    simp only [List.map_cons, List.cons.injEq] at h
    obtain ⟨h1, h2⟩ := h
    obtain ⟨i1, i2⟩ := strs_vals (K := K) h2 fun s hs => ho s (List.mem_cons_of_mem _ hs)
    cases v with
    | str z t =>
      cases h1
      exact ⟨.cons ⟨t, rfl⟩ i1, fun F => .cons (.str _ (ho _ (List.mem_cons_self ..))) (i2 F)⟩
    | _ => cases h1
theorem gl_strs {K : PySem.W.Frag} {h : Heap} {mg : Str → Option Value} {x : Str} {a : Addr} {ss : List Str} (X : K.In h) (G : h.Ns mainGlobals mg) (q : PySem.W.nsIn K mainGlobals x = some (some (.ref a))) (hw : strsW K a = some (ss.map some)) (hs : ∀ s ∈ ss, sOk s) : GlOk K mg x (.tup (ss.map .str)) := by
  refine ⟨_, .ref a, PySem.W.mg_of X G q, rfl, fun F => ?_⟩
  unfold strsW at hw
  split at hw
  · rename_i o ho
    split at hw
    · rename_i its n hd
      split at hw
      · rename_i hc
        simp only [Bool.and_eq_true, beq_iff_eq, decide_eq_true_eq] at hc
        obtain ⟨i1, i2⟩ := strs_vals (K := K) (Option.some.inj hw) hs
        exact .tup (.inr ⟨o, its, n, ho, hc.1, hd, Nat.le_trans hc.2 (by decide), by simpa using i1⟩) (i2 F)
      · cases hw
    · cases hw
  · cases hw
end M

namespace M
open PySem PySem.Spec PyProof.Rows L2
/-! ### str of a whole number, of a text -/
def strOfX : List D → Option D
  | [.int i] => if i.natAbs.log2 < 1920 then some (.str (Str.ofString (toString i))) else none
  | [.str a] => some (.str a)
  | _ => none
def rStrX : List V → Hp → VK → Prop := fun xs H Q => (∃ i : Int, xs = [.int i] ∧ i.natAbs.log2 < 1920 ∧ Q (.str (toString i)) H) ∨ (∃ a, xs = [.str a] ∧ Q (.str a) H)
theorem call_strX {X : Cx} : CallR X (.type "str") rStrX := call_str_int.or SkE.call_str_str
theorem cm_strX {K : PySem.W.Frag} : CallM K rStrX strOfX := by
  intro B F e σ H xs ds d Q I r hf q
  unfold strOfX at hf
  split at hf
  · split at hf
    · rename_i hz
      cases hf
      obtain ⟨x, rfl, rx⟩ := r.one
      exact .inl ⟨_, by rw [rx.int], hz, q F _ H (Same.refl F) I (.str _ (sOk_ofString _))⟩
    · cases hf
  · cases hf
    obtain ⟨x, rfl, rx⟩ := r.one
    exact .inr ⟨_, by rw [rx.str.1], q F _ H (Same.refl F) I (.str _ rx.str.2)⟩
  · cases hf
theorem d_strI (i : Int) : strOfX [.int i] = if i.natAbs.log2 < 1920 then some (.str (Str.ofString (toString i))) else none := rfl
theorem d_strS (a : Str) : strOfX [.str a] = some (.str a) := rfl
/-! ### terms -/
def opsL : List Str := ["+", "-", "*", "<", "=="]
mutual
inductive Tm : Nat → Nat → D → Prop
  | name {n L : Nat} {s : Str} : SmallN s → 1 ≤ L → Tm (n + 1) L (.tup [.str "name", .str s])
  | make {n L : Nat} {s : Str} : GreatN s → 1 ≤ L → Tm (n + 1) L (.tup [.str "make", .str s])
  | num {n L : Nat} {i : Int} : 0 ≤ i → i < 10 ^ 20 → 1 ≤ L → Tm (n + 1) L (.tup [.str "num", .int i])
  | app {n L M N : Nat} {a b : D} : Tm n L a → Tm n M b → L + M + 1 ≤ N → Tm (n + 1) N (.tup [.str "app", a, b])
  | op {n L M N : Nat} {o : Str} {a b : D} : o ∈ opsL → Tm n L a → Tm n M b → L + M + 1 ≤ N → Tm (n + 1) N (.tup [.str "op", .str o, a, b])
  | fn {n L N : Nat} {x : Str} {a : D} : SmallN x → Tm n L a → L + 1 ≤ N → Tm (n + 1) N (.tup [.str "fun", .str x, a])
  | lt {n L M N : Nat} {bs : List (Str × D)} {b : D} : Bds n L bs → bs ≠ [] → (bs.map Prod.fst).Nodup → Tm n M b → L + M + 1 ≤ N → Tm (n + 1) N (.tup [.str "let", .tup (bs.map fun p => .tup [.str p.1, p.2]), b])
  | cs {n L M N : Nat} {ws : List (Str × List Str × D)} {a : D} : Tm n L a → Wys n M ws → ws ≠ [] → L + M + 1 ≤ N → Tm (n + 1) N (.tup [.str "case", a, .tup (ws.map fun p => .tup [.str p.1, .tup (p.2.1.map .str), p.2.2])])
inductive Bds : Nat → Nat → List (Str × D) → Prop
  | nil {n L : Nat} : Bds n L []
  | cons {n L M N : Nat} {x : Str} {d : D} {r : List (Str × D)} : SmallN x → Tm n L d → Bds n M r → L + M ≤ N → Bds n N ((x, d) :: r)
inductive Wys : Nat → Nat → List (Str × List Str × D) → Prop
  | nil {n L : Nat} : Wys n L []
  | cons {n L M N : Nat} {x : Str} {ns : List Str} {d : D} {r : List (Str × List Str × D)} : GreatN x → (∀ s ∈ ns, SmallN s) → ns.Nodup → ns.length ≤ 3 → Tm n L d → Wys n M r → L + M ≤ N → Wys n N ((x, ns, d) :: r)
end
mutual
theorem Tm.mono {n m : Nat} (h : n ≤ m) : ∀ {L M : Nat} {d : D}, Tm n L d → L ≤ M → Tm m M d
  | L, M, _, t, h2 => by
    cases t with
    | name h0 h1 => obtain ⟨k, rfl⟩ : ∃ k, m = k + 1 := ⟨m - 1, by omega⟩; exact .name h0 (by omega)
    | make h0 h1 => obtain ⟨k, rfl⟩ : ∃ k, m = k + 1 := ⟨m - 1, by omega⟩; exact .make h0 (by omega)
    | num h0 h1 h2 => obtain ⟨k, rfl⟩ : ∃ k, m = k + 1 := ⟨m - 1, by omega⟩; exact .num h0 h1 (by omega)
    | app a b h1 => obtain ⟨k, rfl⟩ : ∃ k, m = k + 1 := ⟨m - 1, by omega⟩; exact .app (Tm.mono (by omega) a (Nat.le_refl _)) (Tm.mono (by omega) b (Nat.le_refl _)) (by omega)
    | op o a b h1 => obtain ⟨k, rfl⟩ : ∃ k, m = k + 1 := ⟨m - 1, by omega⟩; exact .op o (Tm.mono (by omega) a (Nat.le_refl _)) (Tm.mono (by omega) b (Nat.le_refl _)) (by omega)
    | fn x a h1 => obtain ⟨k, rfl⟩ : ∃ k, m = k + 1 := ⟨m - 1, by omega⟩; exact .fn x (Tm.mono (by omega) a (Nat.le_refl _)) (by omega)
    | lt a b c d h1 => obtain ⟨k, rfl⟩ : ∃ k, m = k + 1 := ⟨m - 1, by omega⟩; exact .lt (Bds.mono (by omega) a (Nat.le_refl _)) b c (Tm.mono (by omega) d (Nat.le_refl _)) (by omega)
    | cs a b c h1 => obtain ⟨k, rfl⟩ : ∃ k, m = k + 1 := ⟨m - 1, by omega⟩; exact .cs (Tm.mono (by omega) a (Nat.le_refl _)) (Wys.mono (by omega) b (Nat.le_refl _)) c (by omega)
theorem Bds.mono {n m : Nat} (h : n ≤ m) : ∀ {L M : Nat} {d : List (Str × D)}, Bds n L d → L ≤ M → Bds m M d
  | L, M, _, .nil, h2 => .nil
  | L, M, _, .cons x a b h1, h2 => .cons x (Tm.mono h a (Nat.le_refl _)) (Bds.mono h b (Nat.le_refl _)) (Nat.le_trans h1 h2)
theorem Wys.mono {n m : Nat} (h : n ≤ m) : ∀ {L M : Nat} {d : List (Str × List Str × D)}, Wys n L d → L ≤ M → Wys m M d
  | L, M, _, .nil, h2 => .nil
  | L, M, _, .cons x y z w a b h1, h2 => .cons x y z w (Tm.mono h a (Nat.le_refl _)) (Wys.mono h b (Nat.le_refl _)) (Nat.le_trans h1 h2)
end
theorem Bds.snoc {n : Nat} {x : Str} {d : D} {M : Nat} (hx : SmallN x) (hd : Tm n M d) : ∀ {ds : List (Str × D)} {L : Nat}, Bds n L ds → Bds n (L + M) (ds ++ [(x, d)])
  | _, L, .nil => .cons hx hd .nil (by omega : M + 0 ≤ L + M)
  | _, L, .cons y a b h => .cons y a (Bds.snoc hx hd b) (by omega)
theorem Wys.snoc {n : Nat} {x : Str} {ns : List Str} {d : D} {M : Nat} (hx : GreatN x) (h1 : ∀ s ∈ ns, SmallN s) (h2 : ns.Nodup) (h3 : ns.length ≤ 3) (hd : Tm n M d) : ∀ {ds : List (Str × List Str × D)} {L : Nat}, Wys n L ds → Wys n (L + M) (ds ++ [(x, ns, d)])
  | _, L, .nil => .cons hx h1 h2 h3 hd .nil (by omega : M + 0 ≤ L + M)
  | _, L, .cons y1 y2 y3 y4 a b h => .cons y1 y2 y3 y4 a (Wys.snoc hx h1 h2 h3 hd b) (by omega)
theorem Tm.pos {n L : Nat} {d : D} (h : Tm n L d) : 1 ≤ L := by
  cases h <;> omega
end M

namespace M
open PySem PySem.Spec PyProof.Rows L2
theorem fvs_strs : ∀ ns : List Str, D.fvs (ns.map D.str) = some (ns.map V.str)
  | [] => rfl
  | s :: ns => by simp only [List.map_cons, D.fvs, D.fv, fvs_strs ns, Option.bind_some]
theorem eqV_str (x y : Str) : eqV (V.str x) (V.str y) = decide (x = y) := by
  show (x == y) = _
  by_cases h : x = y
  · subst h; simp
  · simp [h]
theorem inV_strs (a : Str) : ∀ ns : List Str, inV (V.str a) (ns.map V.str) = decide (a ∈ ns)
  | [] => by simp [inV]
  | s :: ns => by
    have ih := inV_strs a ns
    simp only [inV] at ih
    simp only [inV, List.map_cons, List.any_cons, ih, eqV_str, List.mem_cons, Bool.decide_or]
    congr 1
    exact decide_eq_decide.mpr eq_comm
theorem in_strsL (a : Str) (ns : List Str) : inD (.str a) (.lst (ns.map .str)) = some (.bl (decide (a ∈ ns))) := by
  simp only [inD, inQ, fvs_strs, D.fv, Option.bind_some, Option.map_some, inV_strs]
theorem in_strsT (a : Str) (ns : List Str) : inD (.str a) (.tup (ns.map .str)) = some (.bl (decide (a ∈ ns))) := by
  simp only [inD, inQ, fvs_strs, D.fv, Option.bind_some, Option.map_some, inV_strs]
theorem notIn_strsL (a : Str) (ns : List Str) : notInD (.str a) (.lst (ns.map .str)) = some (.bl (!decide (a ∈ ns))) := by
  simp only [notInD, inQ, fvs_strs, D.fv, Option.bind_some, Option.map_some, inV_strs]
theorem notIn_strsT (a : Str) (ns : List Str) : notInD (.str a) (.tup (ns.map .str)) = some (.bl (!decide (a ∈ ns))) := by
  simp only [notInD, inQ, fvs_strs, D.fv, Option.bind_some, Option.map_some, inV_strs]
theorem in_threeT (a b c d : Str) : inD (.str a) (.tup [.str b, .str c, .str d]) = some (.bl (decide (a = b) || (decide (a = c) || decide (a = d)))) := by
  have := in_strsT a [b, c, d]
  simpa only [List.map_cons, List.map_nil, List.mem_cons, List.not_mem_nil, or_false, Bool.decide_or] using this
theorem in_threeL (a b c d : Str) : inD (.str a) (.lst [.str b, .str c, .str d]) = some (.bl (decide (a = b) || (decide (a = c) || decide (a = d)))) := by
  have := in_strsL a [b, c, d]
  simpa only [List.map_cons, List.map_nil, List.mem_cons, List.not_mem_nil, or_false, Bool.decide_or] using this
/-! ### figures -/
theorem int_free {i : Int} {k : Nat} {x : Str} (hx : x.cps.toList = [k]) (hk : k ≠ 45 ∧ (k < 48 ∨ 57 < k)) : Str.ofString (toString i) ≠ x := by
  intro e
  have := int_text_free' k hk i
  rw [e, hx] at this
  exact this (List.mem_cons_self ..)
theorem int_block {i : Int} : Block [Str.ofString (toString i)] (Str.ofString (toString i)) := by
  refine Block.one ?_ (int_free (k := 41) (by decide +kernel) (by decide))
  simp only [opW]
  rw [decide_eq_false (int_free (k := 40) (by decide +kernel) (by decide)), decide_eq_false (int_free (k := 92) (by decide +kernel) (by decide))]
  rfl
theorem len_ofString (s : String) : (Str.ofString s).length = s.length := by
  rw [Str.ofString_eq_toList]
  simp only [Str.length, List.size_toArray, List.length_map]
  exact String.length_toList
theorem int_len {i : Int} (h0 : 0 ≤ i) (h : i < 10 ^ 20) : (Str.ofString (toString i)).length ≤ 21 := by
  rw [len_ofString]
  exact int_text_length_le10 (k := 20) (by decide) (by omega)
theorem int_log {i : Int} (h0 : 0 ≤ i) (h : i < 10 ^ 20) : i.natAbs.log2 < 1920 := by
  rcases log2_le (k := 100) h0 (by omega) with h | h
  · omega
  · subst h; decide
end M

namespace M
open PySem PySem.Spec PyProof.Rows L2
def wrT (own lvl : Int) (t : Str) : Str := if own < lvl then "(" ++ t ++ ")" else t
def wrW (own lvl : Int) (ws : List Str) : List Str := if own < lvl then [Str.ofString "("] ++ ws ++ [Str.ofString ")"] else ws
theorem wr_block {own lvl : Int} {ws : List Str} {t : Str} (h : Block ws t) : Block (wrW own lvl ws) (wrT own lvl t) := by
  unfold wrW wrT
  split
  · exact h.par
  · exact h
theorem wrT_len {own lvl : Int} {t : Str} : (wrT own lvl t).length ≤ t.length + 2 := by
  unfold wrT
  split
  · rw [Str.length_append, Str.length_append]
    have e1 : (Str.ofString "(").length = 1 := by decide +kernel
    have e2 : (Str.ofString ")").length = 1 := by decide +kernel
    omega
  · omega
theorem wrW_len {own lvl : Int} {t : List Str} : (wrW own lvl t).length ≤ t.length + 2 := by
  unfold wrW
  split
  · simp
  · omega
theorem wrT_pos {own lvl : Int} {t : Str} (h : own < lvl) : wrT own lvl t = "(" ++ t ++ ")" := if_pos h
theorem wrT_neg {own lvl : Int} {t : Str} (h : ¬own < lvl) : wrT own lvl t = t := if_neg h
theorem wrW_pos {own lvl : Int} {t : List Str} (h : own < lvl) : wrW own lvl t = [Str.ofString "("] ++ t ++ [Str.ofString ")"] := if_pos h
theorem wrW_neg {own lvl : Int} {t : List Str} (h : ¬own < lvl) : wrW own lvl t = t := if_neg h
theorem wrW0 {own : Int} {t : List Str} (h : 0 ≤ own) : wrW own 0 t = t := if_neg (by omega)
theorem par1 {t : Str} (h : t.length ≤ 4000000) : (Str.ofString "(").length + t.length ≤ sizeLine := by
  have e1 : (Str.ofString "(").length = 1 := by decide +kernel
  rw [e1]; exact Nat.le_trans (show 1 + t.length ≤ 4000001 by omega) (by decide)
theorem par2 {t : Str} (h : t.length ≤ 4000000) : (Str.ofString "(" ++ t).length + (Str.ofString ")").length ≤ sizeLine := by
  have e1 : (Str.ofString "(").length = 1 := by decide +kernel
  have e2 : (Str.ofString ")").length = 1 := by decide +kernel
  rw [Str.length_append, e1, e2]; exact Nat.le_trans (show 1 + t.length + 1 ≤ 4000002 by omega) (by decide)
theorem line_le {n : Nat} (h : n ≤ 8000000) : n ≤ sizeLine := Nat.le_trans h (by decide)
theorem line_lt {n : Nat} (h : n ≤ 8000000) : n < sizeLine := Nat.lt_of_le_of_lt h (by decide)
theorem join_len (a : Str) : ∀ ss : List Str, (Str.join a ss).length ≤ (ss.map (·.length)).sum + ss.length * a.length
  | [] => by simp [Str.join, Str.empty, Str.length]
  | [x] => by simp [Str.join]
  | x :: y :: r => by
    have := join_len a (y :: r)
    rw [Str.join, Str.length_append, Str.length_append]
    · simp only [List.map_cons, List.sum_cons, List.length_cons, Nat.add_mul] at this ⊢
      omega
    · simp
theorem Block.bs {a : List Str} {s : Str} (h : Block a s) : Block (Str.ofString "\\" :: a) ("\\" ++ s) := by
  intro op rest
  have e1 : opW (Str.ofString "\\") = true := by decide +kernel
  have e3 : ¬ Str.ofString "\\" = Str.ofString ")" := by decide +kernel
  simp only [List.cons_append, fl, e1, e3, decide_false, Bool.or_false]
  rw [h]
  simp only [if_true, nilS, Str.empty_append, Str.append_assoc]
theorem Block.lit {w : String} (h1 : opW w = false := by decide +kernel) (h2 : Str.ofString w ≠ ")" := by decide +kernel) : Block [Str.ofString w] w := Block.one h1 h2
/-- rows with a semicolon between: the words without the first semicolon -/
def semiW : List (List Str) → List Str
  | [] => []
  | [w] => w
  | w :: r => w ++ [Str.ofString ";"] ++ semiW r
theorem semi_drop : ∀ (w : List Str) (r : List (List Str)), ((w :: r).map fun x => Str.ofString ";" :: x).flatten = Str.ofString ";" :: semiW (w :: r)
  | w, [] => by simp [semiW]
  | w, v :: r => by
    have ih := semi_drop v r
    rw [List.map_cons, List.flatten_cons, ih]
    simp [semiW]
theorem Block.semi : ∀ {p : List Str × Str} {ps : List (List Str × Str)}, (∀ q ∈ p :: ps, Block q.1 q.2) → Block (semiW ((p :: ps).map (·.1))) (Str.join " ; " ((p :: ps).map (·.2)))
  | p, [], h => h p (List.mem_cons_self ..)
  | p, q :: ps, h => by
    have ih := Block.semi (p := q) (ps := ps) fun x hx => h x (List.mem_cons_of_mem _ hx)
    have b := ((h p (List.mem_cons_self ..)).app (Block.lit (w := ";"))).app ih
    have e : (Str.ofString " ; ") = Str.ofString " " ++ Str.ofString ";" ++ Str.ofString " " := by decide +kernel
    have e2 : Str.join " ; " ((p :: q :: ps).map (·.2)) = p.2 ++ " ; " ++ Str.join " ; " ((q :: ps).map (·.2)) := rfl
    rw [e2]
    generalize Str.join " ; " ((q :: ps).map (·.2)) = tl at b
    rw [e]
    simp only [List.map_cons] at b ⊢
    simpa only [semiW, Str.append_assoc] using b
theorem cutG1 (s : Str) (w : List Str) : cutG ((s :: w).map D.str) (some 1) none = w.map D.str := by
  simp only [cutG, List.map_cons, List.length_cons]
  simp [HT.sIx]
  exact List.take_of_length_le (by simp)
end M

namespace M
open PySem PySem.Spec PyProof.Rows L2
section
variable (s : Sl) (e : Sls)
theorem c_bStar (k : Nat) (bs : FGs) (d : D) : bStar k bs (s :: e) d = match d with | .tup ds => if k ≤ ds.length then bs (s :: e) (ds.take k ++ [.lst (ds.drop k)]) else none | _ => none := rfl
theorem c_sPar (i j : Nat) (f : FEs) : sPar i j f (s :: e) = (f (s :: e)).bind fun p => match p.2 with
  | [a, b] => some ((p.1.set i (.im a)).set j (.im b), .nx)
  | _ => none := rfl
theorem c_fO (f : Sls → Option (Sls × Sl)) : fO f (s :: e) = (f (s :: e)).bind fun p => p.2.see.bind fun d => some (p.1, d) := rfl
theorem c_oDic (fs : List (FE × FE)) : oDic fs (s :: e) = (fPairs fs (s :: e)).bind fun p => some (p.1, .dic (mergeG p.2)) := rfl
theorem c_fPairs0 : fPairs [] (s :: e) = some (s :: e, []) := rfl
theorem c_fPairs1 (k v : FE) (r : List (FE × FE)) : fPairs ((k, v) :: r) (s :: e) = (k (s :: e)).bind fun p => (v p.1).bind fun q => p.2.key.bind fun k => (fPairs r q.1).bind fun t => some (t.1, (k, q.2) :: t.2) := rfl
theorem c_fGet2 (ko : FK) (kk : FK) (kd : FE) : fGet2 ko kk kd (s :: e) = (ko (s :: e)).bind fun p => (kk p.1).bind fun q => (kd q.1).bind fun r => match p.2 p.1 with
  | some (.dic _) => match p.2 r.1 with
    | some (.dic es) => (q.2 r.1).bind fun k => k.key.bind fun k => match lookK k es with
      | some d => some (r.1, d)
      | none => some (r.1, r.2)
    | _ => none
  | _ => none := rfl
theorem c_sWhile (n : Nat) (c : FT) (b : FS) : sWhile n c b (s :: e) = whileN c b n (s :: e) := rfl
end
theorem key_str (a : Str) : D.key (.str a) = some (.inr a) := rfl
theorem key_int (a : Int) : D.key (.int a) = some (.inl a) := rfl
theorem merge_def (es : List (Key × D)) : mergeG es = es.foldl (fun acc kv => putG acc kv.1 kv.2) [] := rfl
theorem putG_nil (k : Key) (v : D) : putG [] k v = [(k, v)] := rfl
theorem w_while {c : FT} {body : FS} (Inv : Nat → Sls → Prop) {Q : Sls → Fl → Prop}
    (hs : ∀ m e, Inv m e → W (c e) fun e' b => if b = true then W (body e') (fun e2 fl => match fl with | .nx => ∃ k, k < m ∧ Inv k e2 | .ct => ∃ k, k < m ∧ Inv k e2 | .bk => Q e2 .nx | .rt d => Q e2 (.rt d) | .ro t => Q e2 (.ro t)) else Q e' .nx) :
    ∀ {n m : Nat} {e : Sls}, m < n → Inv m e → W (whileN c body n e) Q
  | 0, m, e, h, _ => by omega
  | n + 1, m, e, h, i => by
    obtain ⟨e1, b, h1, h2⟩ := hs m e i
    rw [whileN, h1, Option.bind_some]
    by_cases hb : b = true
    · simp only [hb, if_true] at h2 ⊢
      obtain ⟨e2, fl, h3, h4⟩ := h2
      rw [h3, Option.bind_some]
      cases fl with
      | nx => obtain ⟨k, hk, i2⟩ := h4; exact w_while Inv hs (show k < n by omega) i2
      | ct => obtain ⟨k, hk, i2⟩ := h4; exact w_while Inv hs (show k < n by omega) i2
      | bk => exact ⟨_, _, rfl, h4⟩
      | rt d => exact ⟨_, _, rfl, h4⟩
      | ro d => exact ⟨_, _, rfl, h4⟩
    · simp only [hb, if_false] at h2 ⊢
      exact ⟨_, _, rfl, h2⟩
end M

namespace M
open PySem PySem.Spec PyProof.Rows L2
open AutoSeq1 (wpAny_loadPart')
/-! ### enumerate(tuple) -/
theorem meets_enumT (l : Addr) (items : Array Value) (n : Nat) (dct : Option Addr) (sl : Array (Option Value)) :
    Meets (Builtin.«enumerate.__new__» ⟨[.type "enumerate", .ref l], []⟩) (fun _ R s => s.heap.get? l = some { cls := .type "tuple", dict := dct, data := .seq items n, slots := sl } ∧
      R (.ok (.ret (.ref (s.heap.push { cls := .type "tuple_iterator", data := .fields #[.ref l, .int 0 0] }).objs.size)))
        { s with heap := (s.heap.push { cls := .type "tuple_iterator", data := .fields #[.ref l, .int 0 0] }).push { cls := .type "enumerate", data := .fields #[.none, .bool false, .ref s.heap.objs.size, rawInt 0, .none, .none] } }) :=
  .of_wp fun prog w A R s h => by
    obtain ⟨hp, g, d, tk, os⟩ := s; obtain ⟨hl, h⟩ := h
    have hsub := sub_enumerate
    have hL : Heap.IsTuple (Shared.heap ⟨hp, g, d, tk, os⟩) l items := ⟨_, hl, rfl, n, rfl⟩
    wp_walk using wpAny_loadPart' hl
    refine wpAny_stack_any fun st => wpAny_pure ?_
    split
    · rename_i c _ _ _ _ _
      cases (c == Value.type "enumerate")
      · wp_walk using wpAny_loadPart' hl, wpAny_pyIter_tuple hL
        exact ⟨_, rfl, h⟩
      · wp_walk using wpAny_loadPart' hl, wpAny_pyIter_tuple hL
        exact ⟨_, rfl, h⟩
    · wp_walk using wpAny_loadPart' hl, wpAny_pyIter_tuple hL
      exact ⟨_, rfl, h⟩
section
variable {prog : Program} {w : World} {A : Around} {E : Value → Shared → Prop} {s : Shared}
theorem call_enumT {l : Addr} {items : Array Value} {Q : Value → Shared → Prop} (hL : s.heap.IsTuple l items)
    (h : ∀ h', IsEnum h' (s.heap.objs.size + 1) s.heap.objs.size 0 .none → h'.IsTupleIter s.heap.objs.size l 0 → h'.objs.size = s.heap.objs.size + 2 →
      (∀ b o, s.heap.get? b = some o → h'.get? b = some o) → Q (.ref (s.heap.objs.size + 1)) { s with heap := h' }) :
    wpAny (model prog w) A (call (.type "enumerate") [.ref l]) Q E s := by
  obtain ⟨⟨c, dct, dt, sl⟩, hl, hc, n, hd⟩ := hL
  replace hc : c = .type "tuple" := hc
  replace hd : dt = .seq items n := hd
  subst hc hd
  refine callType_new F.called_enumerate (by decide) (F.typeCall_enumerate_1 _) (F.newCall_enumerate_1 _) (fun obj => F.args_object_init_2 obj _) F.entry_enumerate_new
    (meets_enumT l items n dct sl) ⟨hl, ?_⟩
  have hz : (s.heap.push { cls := .type "tuple_iterator", data := .fields #[.ref l, .int 0 0] }).objs.size = s.heap.objs.size + 1 := Heap.size_push ..
  show _ ∧ _
  rw [hz]
  have he : IsEnum ((s.heap.push { cls := .type "tuple_iterator", data := .fields #[.ref l, .int 0 0] }).push
      { cls := .type "enumerate", data := .fields #[.none, .bool false, .ref s.heap.objs.size, rawInt 0, .none, .none] }) (s.heap.objs.size + 1) s.heap.objs.size 0 .none := by
    have := Heap.get?_push_size (s.heap.push { cls := .type "tuple_iterator", data := .fields #[.ref l, .int 0 0] })
      (o := { cls := .type "enumerate", data := .fields #[.none, .bool false, .ref s.heap.objs.size, rawInt 0, .none, .none] }) rfl
    rw [hz] at this; exact this
  refine ⟨⟨_, he, rfl⟩, h _ he ⟨_, Heap.get?_push_of_some _ (Heap.get?_push_size _ rfl), rfl, rfl⟩ (by rw [Heap.size_push, hz]) fun b o x => Heap.get?_push_of_some _ (Heap.get?_push_of_some _ x)⟩
end
end M

namespace M
open PySem PySem.Spec PyProof.Rows L2
def IteT (K : PySem.W.Frag) (a : Addr) : It :=
  ⟨fun i H => ∃ (xs : List V) (x : V), SqT K H a xs ∧ xs[i]? = some x, fun i H v H' => ∃ T x, v = .ref T ∧ H T = none ∧ H' = upd H T (.tup [.int (i : Nat), x]) ∧ ∀ xs, SqT K H a xs → xs[i]? = some x, fun i H => ∃ xs : List V, SqT K H a xs ∧ xs.length ≤ i⟩
section
variable {prog : Program} {w : World} {A : Around} {E : Value → Shared → Prop} {s : Shared}
theorem enum_endT {e it t : Addr} {i : Nat} {items : Array Value} {c : Int} {old : Value} {Q : Option Value → Shared → Prop} (hh : A.handled = none)
    (he : IsEnum s.heap e it c old) (hit : s.heap.IsTupleIter it t i) (ht : s.heap.IsTuple t items) (hx : items[i]? = none)
    (hQ : ∀ h', Heap.ExtBut it s.heap h' → Q none { s with heap := h' }) : wpAny (model prog w) A (pyNext (.ref e)) Q E s := by
  have hT : s.TypeIs (.ref e) "enumerate" := ⟨_, he, rfl⟩
  unfold pyNext
  refine wpAny_bind (wpAny_attempt (wpAny_callSpecial?_slot (name := Str.ofString "__next__") hT F.slot_enumerate_next
    (wpAny_call_entry F.slot_enumerate_next hT F.entry_enumerate_next ?_ (F.args_enumerate_next_1 _))))
  show wpAny _ _ (field (.ref e) 2 >>= _) _ _ _
  refine wpAny_bind (wpAny_field he rfl (x := .ref it) rfl ?_)
  refine wpAny_bind (wpAny_nextOf_tuple_end (A := A.in1) hh hit ht hx fun h' x he' hx' => ?_)
  obtain ⟨o, ho, hc⟩ := hx'
  refine wpAny_bind (wpAny_isInstance (T := "StopIteration") (b := true) ⟨o, ho, hc⟩ isSubtype_stop ?_)
  exact wpAny_pure (hQ _ he')
end
theorem turn_enumT {P : Program} {w : World} {K : PySem.W.Frag} {elts : List Expr} {kk : Nat} {tpos : Pos} (a e it : Addr) :
    Turn P w K (.Tuple elts kk tpos) (IteT K a) [e, it] e (fun i h => (∃ old, IsEnum h e it ((i : Nat) : Int) old) ∧ h.IsTupleIter it a i ∧ e ≠ it ∧ a ≠ it ∧ a ≠ e) where
  mem := by simp
  obj := fun i h st b hb => by
    obtain ⟨⟨old, he⟩, ⟨o, ho, hc, hd⟩, _⟩ := st
    have e' : b = e ∨ b = it := by simpa using hb
    rcases e' with z | z
    · rw [z]; exact ⟨_, he, fun v q => nomatch q⟩
    · rw [z]; exact ⟨o, ho, fun v q => by rw [hd] at q; cases q⟩
  keep := fun i h h' st k => let ⟨⟨old, he⟩, hi, hne⟩ := st; ⟨⟨old, k e (by simp) _ he⟩, hi.at fun o q => k it (by simp) o q, hne⟩
  item := by
    intro X hP hw hK hc i pins s σ H E I hf st hg
    subst hP hw hK
    obtain ⟨⟨old, he⟩, hit, hne, ha1, ha2⟩ := st
    obtain ⟨xs, x, hq, hx⟩ := hg
    obtain ⟨its, rv, p, hz⟩ := I.tuple hq
    obtain ⟨u, hu, ru⟩ := rv.get hx
    have hel : e < s.heap.objs.size := Heap.lt_size he
    have hil : it < s.heap.objs.size := by obtain ⟨_, q, _⟩ := hit; exact Heap.lt_size q
    have hlt : i < its.toArray.size := by
      rw [List.size_toArray]
      exact (List.getElem?_eq_some_iff.mp hu).1
    refine wpAny_pyNext_enum_itemD (Draws.tuple (prog := X.prog) (w := X.w) (A := X.A.in1) (I.ok.hd hc) it a ha1 its.toArray) he ⟨hit, p⟩ hlt hne (by simp [hne, Ne.symm ha2]) fun y h' tk hy ho hit' hT hsz hk => ?_
    have ey : y = u := by
      have : its.toArray[i]? = some u := by simpa using hu
      rw [this] at hy; exact (Option.some.inj hy).symm
    subst ey
    refine ⟨_, rfl, wpAny_letOwnedTupleGo_enum (s := { s with heap := h', toks := tk + 1 }) ho fun h'' he' sb => ?_⟩
    have hT2 : h''.get? s.heap.objs.size = some { cls := .type "tuple", data := .seq #[.int i tk, y] } := (sb.2 _ (Nat.ne_of_gt hel)).trans hT
    have new : ObjOk X.prog X.w (upd H s.heap.objs.size (.tup [.int (i : Nat), x])) h'' s.heap.objs.size (.tup [.int (i : Nat), x]) :=
      ⟨by show 2 ≤ sizeLine; decide, [.int i tk, y], .cons ⟨_, rfl⟩ (.cons ru .nil), ⟨_, hT2, rfl, _, rfl⟩⟩
    have I1 : Inv X pins σ (upd H s.heap.objs.size (.tup [.int (i : Nat), x])) { s with heap := h'', toks := tk + 1 } :=
      I.turnedNew (ch := [e, it]) (fun b ob hb q => (sb.2 b (fun z => hb (by simp [z]))).trans (hk b ob (fun z => hb (by simp [z])) (fun z => hb (by simp [z])) q)) hf (Nat.le_refl _) new
    refine ⟨.ref s.heap.objs.size, _, I1, rfl, ⟨_, x, rfl, I.hok.fresh (Nat.le_refl _), rfl, fun ys hy => by rw [I.tuple_inj hy hq]; exact hx⟩, ⟨⟨y, ?_⟩, hit'.1.at fun o q => (sb.2 it (Ne.symm hne)).trans q, hne, ha1, ha2⟩, fun b hb => ?_⟩
    · have e1 : ((i + 1 : Nat) : Int) = (i : Int) + 1 := by omega
      rw [e1]; exact he'
    · have hb' : b < s.heap.objs.size := by
        have e' : b = e ∨ b = it := by simpa using hb
        rcases e' with z | z
        · rw [z]; exact hel
        · rw [z]; exact hil
      rw [upd_ne (Nat.ne_of_lt hb')]
      exact (hf b hb).1
  done := by
    intro X hP hw hK hc i pins s σ H E I hf st hg
    subst hP hw hK
    obtain ⟨⟨old, he⟩, hit, hne, ha1, ha2⟩ := st
    obtain ⟨xs, hq, hx⟩ := hg
    obtain ⟨its, rv, p, hz⟩ := I.tuple hq
    obtain ⟨f0, f1, f2, f3, f4, f5⟩ := hf it (by simp)
    have hl := rv.length
    exact enum_endT (I.ok.hd hc) he hit p (by simp; omega) fun h' eb => ⟨rfl, I.turned (t' := s.toks) (fun b o hb q => eb b o hb q) f0 f1 f3 f4 f5⟩
  self := fun A i s Q E st h => let ⟨⟨_, he⟩, _⟩ := st; wpAny_pyIter_enum he h
theorem walk_enumT {K : PySem.W.Frag} {a : Addr} {xs : List V} : Walk (IteT K a) xs.length (fun H => SqT K H a xs) (YPair (fun i => some (.int (i : Nat))) (fun i => xs[i]?)) := by
  refine ⟨fun i _ hi q => ⟨xs, xs[i], q, by simp [hi]⟩, fun _ q => ⟨xs, q, Nat.le_refl _⟩, fun i H v H' _ q y => ?_⟩
  obtain ⟨T, x, h1, h2, h3, h4⟩ := y
  exact ⟨T, .int (i : Nat), x, h1, h2, h3, rfl, h4 xs q⟩
def iEnumT (K : PySem.W.Frag) (ta : TA) : TI := fun σ H R => ta σ H fun vs H1 => ∃ a xs, vs = [.ref a] ∧ SqT K H1 a xs ∧ R (IteT K a) H1
theorem pi_enumT {X : Cx} {e : Expr} {ta : TA} {p pos tpos : Pos} {elts : List Expr} {kk : Nat} (hg : Gl X "enumerate") (hm : X.mg "enumerate" = none) (ha : PA X [e] ta) (hs : starEach [e] X.env = [(false, eval e X.env)] := by rfl) :
    PI X (.Tuple elts kk tpos) (.Call (.Name "enumerate" p) [e] [] pos) (iEnumT X.K ta) := by
  refine ⟨fun pins s σ H R I h => ?_⟩
  refine Call_ (ld_blt I hg hm boot_enumerate (PyProof.Rows.callWith_type1 (thn (ha.run pos pins s σ H _ I h) fun us s1 ⟨vs, H1, I1, r1, q1⟩ => ?_) hs rfl))
  obtain ⟨a, xs, ex, hq, q⟩ := q1
  subst ex
  cases r1 with
  | cons r rr =>
    cases rr
    cases r
    obtain ⟨its, rv, p', hz⟩ := I1.tuple hq
    have hla : a < s1.heap.objs.size := by obtain ⟨o, ho, _⟩ := p'; exact Heap.lt_size ho
    refine call_enumT p' fun h' he hit hsz hk => wpAny_pyIter_enum he ?_
    have I2 : Inv X pins σ H1 { s1 with heap := h' } := I1.kept (t' := s1.toks) hk
    refine ⟨s1.heap.objs.size + 1, [s1.heap.objs.size + 1, s1.heap.objs.size], _, _, H1, rfl, I2, turn_enumT a (s1.heap.objs.size + 1) s1.heap.objs.size, ⟨⟨.none, he⟩, hit, Nat.succ_ne_self _, Nat.ne_of_lt hla, Nat.ne_of_lt (Nat.lt_succ_of_lt hla)⟩, fun b hb => ?_, q⟩
    have e' : b = s1.heap.objs.size + 1 ∨ b = s1.heap.objs.size := by simpa using hb
    have hle : s1.heap.objs.size ≤ b := by
      rcases e' with z | z
      · rw [z]; exact Nat.le_add_right _ _
      · rw [z]; exact Nat.le_refl _
    exact I1.fpOk hle (I1.hok.fresh hle)
def fEnumX (k : FEs) : FI := fun e => (k e).bind fun p => match p.2 with
  | [.lst xs] => some (p.1, numbered xs)
  | [.tup xs] => some (p.1, numbered xs)
  | _ => none
def iEnumX (K : PySem.W.Frag) (ta : TA) : TI := fun σ H R => iEnum K ta σ H R ∨ iEnumT K ta σ H R
section
variable {X : Cx} {np : Nat}
theorem ji_enumX {tg a : Expr} {ta : TA} {p pos : Pos} {n : Nat} {k : FEs} (ha : JEs X np [a] n ta k) (hz : PI X tg (.Call (.Name "enumerate" p) [a] [] pos) (iEnum X.K ta)) (hz2 : PI X tg (.Call (.Name "enumerate" p) [a] [] pos) (iEnumT X.K ta)) : JI X np tg (.Call (.Name "enumerate" p) [a] [] pos) (iEnumX X.K ta) (fEnumX k) := by
  refine ⟨pi_or hz hz2, fun B F e σ H R hn I e' ds hf q => ?_⟩
  obtain ⟨⟨e1, l⟩, h1, hf⟩ := bnd hf
  match l, h1, hf with
  | [.lst xs], h1, hf => exact .inl ((ji_enum ha hz).de B F e σ H R hn I e' ds (by simp only [fEnum, h1, Option.bind_some]; exact hf) q)
  | [.tup xs], h1, hf =>
    refine .inr (ha.de B F e σ H _ hn I e1 _ h1 fun F' vs H' s I' r _ => ?_)
    cases hf
    cases r with
    | cons r1 r2 =>
      cases r2
      cases r1 with
      | tup a1 a2 =>
        rename_i pa us _
        refine ⟨pa, us, rfl, sqt_mono I'.sf a1, q F' _ H' s I' (itOk_pairs (xs := fun i => some (.int (i : Nat))) (ys := fun i => us[i]?) (fun H0 _ => ?_) fun i hi x y e1 e2 => ?_)⟩
        · rw [numbered_length, ← a2.length]
          exact (walk_enumT (a := pa) (K := X.K)).mono (fun H h => sqt_mono h a1) fun _ _ _ _ _ _ h => h
        · obtain ⟨d, g1, g2⟩ := a2.get e2
          rw [numbered_length] at hi
          cases e1
          refine ⟨.int (i : Nat), d, pairs_get _ _ _ _ _ ?_ g1, .int _, g2⟩
          rw [ints_get hi]
          simp
theorem jenumX {K : PySem.W.Frag} {e1 : Expr} {n kk : Nat} {elts : List Expr} {p pos tpos : Pos} {ta : TA} {k : FEs} (hg : Gl X "enumerate") (hm : X.mg "enumerate" = none) (ha : JEs X np [e1] n ta k) (hs : starEach [e1] X.env = [(false, eval e1 X.env)] := by rfl) (hK : X.K = K := by rfl) :
    JI X np (.Tuple elts kk tpos) (.Call (.Name "enumerate" p) [e1] [] pos) (iEnumX K ta) (fEnumX k) := by
  subst hK
  exact ji_enumX ha (pi_enum hg hm ha.pa hs) (pi_enumT hg hm ha.pa hs)
end
theorem c_fEnumX (k : FEs) (s : Sl) (e : Sls) : fEnumX k (s :: e) = (k (s :: e)).bind fun p => match p.2 with
  | [.lst xs] => some (p.1, numbered xs)
  | [.tup xs] => some (p.1, numbered xs)
  | _ => none := rfl
end M

set_option maxHeartbeats 4000000
/-! ### sorted of texts, any number of them -/
namespace SrtO
open PySem PyProof.Rows Srt
section
variable {prog : Program} {w : World} {A : Around} {E : Value → Shared → Prop} {s : Shared}
def sv : Value → PySem.Str
  | .str x _ => x
  | _ => PySem.Str.empty
def ltL (a b : List Nat) : Bool := decide (a < b)
def ltSv (v u : Value) : Bool := decide ((sv v).cps.toList < (sv u).cps.toList)
theorem swo_str : Swo ltSv := by
  refine ⟨fun x y h => ?_, fun x y z h1 h2 => ?_⟩
  · exact decide_eq_false (List.lt_asymm (of_decide_eq_true h))
  · have a := of_decide_eq_false (p := (sv y).cps.toList < (sv x).cps.toList) h1
    have b := of_decide_eq_false (p := (sv z).cps.toList < (sv y).cps.toList) h2
    refine decide_eq_false fun c => ?_
    have a' : (sv x).cps.toList ≤ (sv y).cps.toList := a
    have b' : (sv y).cps.toList ≤ (sv z).cps.toList := b
    exact (List.le_trans a' b') c
theorem strs_mem : ∀ {vs : List Value} {ns : List PySem.Str}, StrsAre vs ns → ∀ v ∈ vs, ∃ i t, v = Value.str i t
  | _, _, .nil, v, h => absurd h (by simp)
  | _, _, .cons n t r, v, h => by
    rcases List.mem_cons.mp h with e | h
    · exact ⟨n, t, e⟩
    · exact strs_mem r v h
theorem strs_sv : ∀ {vs : List Value}, (∀ v ∈ vs, ∃ i t, v = Value.str i t) → StrsAre vs (vs.map sv)
  | [], _ => .nil
  | v :: vs, h => by
    obtain ⟨i, t, e⟩ := h v List.mem_cons_self
    subst e
    exact .cons i t (strs_sv fun u hu => h u (List.mem_cons_of_mem _ hu))
theorem sv_strs : ∀ {vs : List Value} {ns : List PySem.Str}, StrsAre vs ns → vs.map sv = ns
  | _, _, .nil => rfl
  | _, _, .cons n t r => congrArg (n :: ·) (sv_strs r)
theorem str_cmp {vs : List Value} {ns : List PySem.Str} (hI : StrsAre vs ns) : Cmp prog w A s oneType' (fun p => p.1 ∈ vs) (lt2 ltSv) := by
  intro p q hm hm'
  obtain ⟨a, t, e⟩ := strs_mem hI _ hm
  obtain ⟨b, u, e'⟩ := strs_mem hI _ hm'
  show wpAny (model prog w) A (keyLt' oneType' p.1 q.1) (fun r s' => s' = s ∧ r = ltSv p.1 q.1) (fun _ _ => False) s
  rw [e, e', keyLt'_oneType]
  exact oneLt_str ⟨rfl, rfl⟩
theorem strs_sortable {a : Addr} {vs : List Value} {ns : List PySem.Str} (hI : StrsAre vs ns) (h2 : 2 ≤ vs.length) : SortableO prog w A s a vs ltSv := by
  intro h' _
  refine ⟨oneType', fun Q E hq => ?_, str_cmp hI⟩
  match vs, hI, h2 with
  | v1 :: v2 :: rest, hI, _ =>
    match ns, hI with
    | n1 :: n2 :: ns, hI =>
      rw [keyKind_strs hI]
      exact wpAny_pure hq
  | [], _, h => exact absurd h (by decide)
  | [v], _, h => exact absurd h (by simp)
theorem strs_out {vs out : List Value} {ns : List PySem.Str} (hI : StrsAre vs ns) (hs : Srtd ltSv out) (hb : Stb ltSv out vs) : StrsAre out (out.map sv) ∧ (out.map sv).Perm ns ∧ (out.map sv).Pairwise (fun a b => a.cps.toList ≤ b.cps.toList) := by
  refine ⟨strs_sv fun v hv => strs_mem hI v (hb.perm.mem_iff.mp hv), ?_, ?_⟩
  · have q := hb.perm.map sv
    rw [sv_strs hI] at q
    exact q
  · exact List.pairwise_map.mpr (hs.imp fun {x y} h => of_decide_eq_false (p := (sv y).cps.toList < (sv x).cps.toList) h)
end
end SrtO
namespace M
open PySem PySem.Spec PyProof.Rows L2
def leS (a b : Str) : Prop := a.cps.toList ≤ b.cps.toList
instance (a b : Str) : Decidable (leS a b) := inferInstanceAs (Decidable (a.cps.toList ≤ b.cps.toList))
def insS (x : Str) : List Str → List Str
  | [] => [x]
  | y :: r => if leS x y then x :: y :: r else y :: insS x r
def sortS : List Str → List Str
  | [] => []
  | x :: r => insS x (sortS r)
theorem leS_trans {a b c : Str} (h : leS a b) (g : leS b c) : leS a c := List.le_trans h g
theorem leS_total (a b : Str) : leS a b ∨ leS b a := List.le_total _ _
theorem leS_antisymm {a b : Str} (h : leS a b) (g : leS b a) : a = b := by
  apply Str.ext'
  exact Array.toList_inj.mp (List.le_antisymm h g)
theorem insS_perm (x : Str) : ∀ r : List Str, (insS x r).Perm (x :: r)
  | [] => .refl _
  | y :: r => by
    rw [insS]
    split
    · exact .refl _
    · exact ((insS_perm x r).cons y).trans (.swap x y r)
theorem sortS_perm : ∀ r : List Str, (sortS r).Perm r
  | [] => .refl _
  | x :: r => (insS_perm x _).trans ((sortS_perm r).cons x)
theorem insS_sorted (x : Str) : ∀ {r : List Str}, r.Pairwise leS → (insS x r).Pairwise leS
  | [], _ => by simp [insS]
  | y :: r, h => by
    rw [List.pairwise_cons] at h
    rw [insS]
    split
    · rename_i hx
      refine List.pairwise_cons.mpr ⟨fun z hz => ?_, List.pairwise_cons.mpr h⟩
      rcases List.mem_cons.mp hz with rfl | hz
      · exact hx
      · exact leS_trans hx (h.1 z hz)
    · rename_i hx
      refine List.pairwise_cons.mpr ⟨fun z hz => ?_, insS_sorted x h.2⟩
      rcases List.mem_cons.mp ((insS_perm x r).mem_iff.mp hz) with rfl | hz
      · exact (leS_total z y).resolve_left hx
      · exact h.1 z hz
theorem sortS_sorted : ∀ r : List Str, (sortS r).Pairwise leS
  | [] => .nil
  | x :: r => insS_sorted x (sortS_sorted r)
theorem sorted_unique : ∀ {xs ys : List Str}, xs.Perm ys → xs.Pairwise leS → ys.Pairwise leS → xs = ys
  | [], ys, h, _, _ => (List.nil_perm.mp h).symm
  | x :: xs, [], h, _, _ => absurd h.length_eq (by simp)
  | x :: xs, y :: ys, h, h1, h2 => by
    rw [List.pairwise_cons] at h1 h2
    have e : x = y := by
      rcases List.mem_cons.mp (h.mem_iff.mp (List.mem_cons_self ..)) with e | m1
      · exact e
      · rcases List.mem_cons.mp (h.mem_iff.mpr (List.mem_cons_self (a := y))) with e | m2
        · exact e.symm
        · exact leS_antisymm (h1.1 y m2) (h2.1 x m1)
    subst e
    rw [sorted_unique (List.Perm.cons_inv h) h1.2 h2.2]
theorem sortS_eq {xs ys : List Str} (h : ys.Perm xs) (s : ys.Pairwise leS) : ys = sortS xs := sorted_unique (h.trans (sortS_perm xs).symm) s (sortS_sorted xs)
/-- sorted(xs) of a list of texts; sorted(d) of a dict whose keys are texts -/
def rSortedX (K : PySem.W.Frag) : List V → Hp → VK → Prop := fun vs H Q => (∃ (a : Addr) (ss : List Str), vs = [V.ref a] ∧ SqL K H a (ss.map V.str) ∧ ∀ p : Addr, H p = none → Q (.ref p) (upd H p (.lst ((sortS ss).map V.str)))) ∨
  (∃ (a : Addr) (kvs : List (Key × V)) (ks : List Str), vs = [V.ref a] ∧ Rd H a (.dK kvs) ∧ kvs.map (·.1) = ks.map Sum.inr ∧ ∀ p : Addr, H p = none → Q (.ref p) (upd H p (.lst ((sortS ks).map V.str))))
theorem cr_sortedX {X : Cx} (hcalm : X.calm = true) : CallR X (.builtin "sorted") (rSortedX X.K) := by
  intro pins s σ H vs us Q I r h
  rcases h with ⟨a, ss, rfl, hs, q⟩ | ⟨a, kvs, ks, rfl, hd, hks, q⟩
  · obtain ⟨its, rv, hl, hz⟩ := I.list hs
    rw [Vals.ref1 r]
    have hi := rv.strs
    refine SrtO.sorted_ord SrtO.swo_str hl.isList (by rw [← rv.length]; exact hz) (fun h2 h₁ a' _ _ => SrtO.strs_sortable hi h2) fun out h1 h2 => ?_
    obtain ⟨k1, k2, k3⟩ := SrtO.strs_out hi h1 h2
    have ke : out.map SrtO.sv = sortS ss := sortS_eq k2 k3
    obtain ⟨ep, he'⟩ := PyProof.Rows.sortedAll_at s.heap its out.toArray
    have hlen : ((sortS ss).map V.str).length ≤ sizeLine := by
      rw [List.length_map, (sortS_perm ss).length_eq]
      rw [List.length_map] at hz
      exact hz
    rw [ke] at k1
    exact ⟨.ref _, upd H (s.heap.objs.size + 1) (.lst ((sortS ss).map V.str)), I.laid (t' := s.toks) (fun _ _ => PyProof.Rows.sortedAll_old) (Nat.le_succ _) ⟨hlen, out, ep, vals_of_strs k1, he'⟩, rfl, q _ (I.hok.fresh (Nat.le_succ _))⟩
  · rw [Vals.ref1 r]
    obtain ⟨z, lo, vs, rel, dd⟩ := dk_rd I.hok hd
    obtain ⟨ep, hat⟩ := dd.dictAt
    have hkeys : vs.map (·.1) = ks.map Sum.inr := rel.keys.symm.trans hks
    have hl : vs.length = ks.length := by
      have e := congrArg List.length hkeys
      rw [List.length_map, List.length_map] at e
      exact e
    have h16 : vs.length ≤ sizeLine := by rw [← rel.length]; exact z
    refine Calls.call_function_entry PyProof.Rows.kind_sorted PyProof.Rows.plain_sorted PyProof.Rows.entry_sorted (PyProof.Rows.args_sorted1 _) ?_
    unfold Builtin.«sorted»
    refine wpAny_bind (m := checkCount "sorted" 1 1 _) (wpAny_pure ?_)
    refine wpAny_bind (PySem.W.kdu_collect (A := X.A.in1) (PySem.W.kdl_dict (knd := mixKind X.prog X.w) (kvs := vs) (ep := ep) lo) (I.ok.hd hcalm) hat h16 fun h' tk acc hk hacc => ?_)
    have hal : acc.toList.length = ks.length := by rw [Array.length_toList, hacc.1, hl]
    have hS : StrsAre acc.toList ks := strs_at hal fun j v e => by
      obtain ⟨k, x, e1, e2⟩ := hacc.2 j v (by rw [← Array.getElem?_toList]; exact e)
      have e3 : (vs.map (·.1))[j]? = some k := by rw [List.getElem?_map, e1]; all_goals rfl
      rw [hkeys, List.getElem?_map] at e3
      cases e4 : ks[j]? with
      | none => rw [e4] at e3; cases e3
      | some y =>
        rw [e4] at e3
        have e5 : Sum.inr y = k := Option.some.inj e3
        subst e5
        obtain ⟨t, ev⟩ := Value.isStrOf_shape (x := y) (v := v) e2
        exact ⟨y, t, rfl, ev⟩
    have I1 : Inv X pins σ H { s with heap := h', toks := tk } := I.kept hk
    refine wpAny_bind (wpAny_newList ?_ (by rw [hal, ← hl]; exact h16))
    have hoL : (h'.push (seqObj "list" acc.toList.toArray 0)).get? h'.objs.size = some (seqObj "list" acc.toList.toArray 0) := Heap.get?_push_size _ rfl
    show wpAny _ _ _ _ _ { s with heap := h'.push (seqObj "list" acc.toList.toArray 0), toks := tk }
    refine wpAny_bind (wpAny_holding (wpAny_call_entry PyProof.Rows.slot_list_sort ⟨_, hoL, rfl⟩ PyProof.Rows.entry_list_sort
      (SrtO.list_sort_ord (s := { s with heap := h'.push (seqObj "list" acc.toList.toArray 0), toks := tk }) SrtO.swo_str hoL (by rw [hal, ← hl]; exact h16) (fun h2 => SrtO.strs_sortable hS h2) fun out hs hb => ⟨_, rfl, ?_⟩)
      (PyProof.Rows.args_list_sort _)))
    obtain ⟨k1, k2, k3⟩ := SrtO.strs_out hS hs hb
    have ke : out.map SrtO.sv = sortS ks := sortS_eq k2 k3
    rw [ke] at k1
    obtain ⟨e', he'⟩ := PyProof.Rows.sortedHeap_at (vs := acc.toList) (out := out.toArray) hoL
    have hlen : ((sortS ks).map V.str).length ≤ sizeLine := by
      rw [List.length_map, (sortS_perm ks).length_eq, ← hl]
      exact h16
    refine wpAny_pure ⟨_, rfl, .ref h'.objs.size, upd H h'.objs.size (.lst ((sortS ks).map V.str)), I1.laid (t' := tk) (fun b u e => ?_) (Nat.le_refl _)
      (show ObjOk X.prog X.w _ _ _ (.lst ((sortS ks).map V.str)) from ⟨hlen, out, e', vals_of_strs k1, he'⟩), rfl, q _ (I1.hok.fresh (Nat.le_refl _))⟩
    have hb : b < h'.objs.size := Heap.lt_size e
    rw [PyProof.Rows.sortedHeap_old (Nat.ne_of_lt hb) (by rw [size_push']; exact Nat.lt_succ_of_lt hb)]
    exact Heap.get?_push_of_some _ e
end M

namespace M
open PySem PySem.Spec PyProof.Rows L2
/-! ### what a built-in lays anew, as one's own -/
def CallOw (K : PySem.W.Frag) (r : List V → Hp → VK → Prop) (g : List D → Option Sl) : Prop :=
  ∀ (B : Bs) (F : Hp) (e : Sls) (σ : L2.St) (H : Hp) (xs : List V) (ds : List D) (s : Sl) (Q : VK), IV K B F e σ H → RpOs K F H xs ds → g ds = some s →
    (∀ (p : Addr) (o : HO), H p = none → Ow K F (upd H p o) p s → Q (.ref p) (upd H p o)) → r xs H Q
def oCB (g : List D → Option Sl) (k : FKs) : Sls → Option (Sls × Sl) := fun e => (k e).bind fun p => (p.2 p.1).bind fun ds => (g ds).bind fun d => some (p.1, d)
section
variable {X : Cx} {np : Nat} {ex : Expr} {es : List Expr} {t : TA} {ks : FKs} {pos : Pos}
theorem dow_cb {K : PySem.W.Frag} {r : List V → Hp → VK → Prop} {g : List D → Option Sl} (h : DKs K np t ks) (hm : CallOw K r g) : DOw K np (tCB r t) (oCB g ks) := by
  intro B F e σ H Q hn I e' s hf q
  obtain ⟨⟨e1, ra⟩, h1, hf⟩ := bnd hf
  obtain ⟨x, h3, hf⟩ := bnd hf
  obtain ⟨d', h5, hf⟩ := bnd hf
  cases hf
  refine h B F e σ H _ hn I e1 ra h1 fun F1 v1 H1 s1 I1 l1 => ?_
  refine hm B F1 e1 σ H1 v1 x s Q I1 (l1 F1 e1 H1 x (Same.refl _) I1 h3) h5 fun p o hp ow => ?_
  obtain ⟨f1, f2, f3, f4⟩ := I1.free hp
  obtain ⟨I2, ne, nc⟩ := I1.newOwn (o := o) hp
  exact q F1 p _ s1 I2 ow f1 f2 f4 ne nc
theorem jow_callB {x : Str} {p : Pos} {id : String} {r : List V → Hp → VK → Prop} {g : List D → Option Sl} (hc : CallR X (.builtin id) r) (hm : CallOw X.K r g) (hg : Gl X x) (hx : X.mg x = none) (hv : bootBuiltins x = some (.builtin id)) (ha : JKs X np (ex :: es) t ks)
    (hn : x ≠ "__name__" := by decide) (hdb : (x == ("__debug__" : Str)) = false := by decide) (he : starEach (ex :: es) X.env = (false, eval ex X.env) :: starEach es X.env := by rfl) (hpl : (backTo pos (starEach es X.env)).any (·.1) = false := by rfl) :
    JOw X np (.Call (.Name x p) (ex :: es) [] pos) (tCB r t) (oCB g ks) := ⟨pe_callB hc hg hx hv ha.pa hn hdb he hpl, dow_cb ha.de hm⟩
theorem jow_callTy {x : Str} {p : Pos} {T : String} {r : List V → Hp → VK → Prop} {g : List D → Option Sl} (hc : CallR X (.type T) r) (hm : CallOw X.K r g) (hg : Gl X x) (hx : X.mg x = none) (hv : bootBuiltins x = some (.type T)) (ha : JKs X np (ex :: es) t ks)
    (hn : x ≠ "__name__" := by decide) (hdb : (x == ("__debug__" : Str)) = false := by decide) (he : starEach (ex :: es) X.env = (false, eval ex X.env) :: starEach es X.env := by rfl) (hpl : (backTo pos (starEach es X.env)).any (·.1) = false := by rfl) :
    JOw X np (.Call (.Name x p) (ex :: es) [] pos) (tCB r t) (oCB g ks) := ⟨pe_callTy hc hg hx hv ha.pa hn hdb he hpl, dow_cb ha.de hm⟩
end
/-! sorted -/
def keysS : List (Key × D) → Option (List Str)
  | [] => some []
  | (.inr s, _) :: r => (keysS r).map (s :: ·)
  | _ => none
theorem keysS_rpk {K : PySem.W.Frag} {F : Hp} : ∀ {kvs : List (Key × V)} {es : List (Key × D)} {ks : List Str}, Rpk K F kvs es → keysS es = some ks → kvs.map (·.1) = ks.map Sum.inr
  | _, _, _, .nil, h => by cases h; rfl
  | _, _, _, .cons (k := k) r t, h => by
    cases k with
    | inl i => cases h
    | inr s =>
      obtain ⟨bs, h1, h2⟩ := Option.map_eq_some_iff.mp h
      subst h2
      rw [List.map_cons, keysS_rpk t h1]
      rfl
instance (ks : List Str) : Decidable (∀ s ∈ ks, sOk s) := inferInstance
def sortedO : List D → Option Sl
  | [.lst xs] => (strsOf xs).map fun ss => .lst ((sortS ss).map .str)
  | [.dic es] => (keysS es).bind fun ks => if ∀ s ∈ ks, sOk s then some (.lst ((sortS ks).map .str)) else none
  | _ => none
def sortedD (ds : List D) : Option D := (sortedO ds).bind Sl.see
theorem rps_strs {K : PySem.W.Frag} {F : Hp} : ∀ {ss : List Str}, (∀ s ∈ ss, sOk s) → Rps K F (ss.map V.str) (ss.map D.str)
  | [], _ => .nil
  | s :: ss, h => .cons (.str _ (h s (List.mem_cons_self ..))) (rps_strs fun x hx => h x (List.mem_cons_of_mem _ hx))
theorem co_sorted {K : PySem.W.Frag} : CallOw K (rSortedX K) sortedO := by
  intro B F e σ H xs ds s Q I r hf q
  unfold sortedO at hf
  split at hf
  · obtain ⟨ss, h1, h2⟩ := Option.map_eq_some_iff.mp hf
    subst h2
    obtain ⟨x, rfl, rx⟩ := r.one
    obtain ⟨a, ys, e1, t1, r1⟩ := rx.lst' I.sf
    obtain ⟨e2, ok⟩ := strs_rps r1 h1
    rw [e2] at t1
    refine .inl ⟨a, ss, by rw [e1], t1, fun p hp => q p _ hp (.lst upd_same (rps_strs fun z hz => ok z ((sortS_perm ss).mem_iff.mp hz)))⟩
  · obtain ⟨ks, h1, hf⟩ := bnd hf
    split at hf
    · rename_i hok
      cases hf
      obtain ⟨x, rfl, rx⟩ := r.one
      obtain ⟨a, kvs, e1, t1, r1⟩ := rx.dic' I.sf
      exact .inr ⟨a, kvs, ks, by rw [e1], t1, keysS_rpk r1 h1, fun p hp => q p _ hp (.lst upd_same (rps_strs fun z hz => hok z ((sortS_perm ks).mem_iff.mp hz)))⟩
    · cases hf
  · cases hf
theorem cm_of_ow {K : PySem.W.Frag} {r : List V → Hp → VK → Prop} {g : List D → Option Sl} (h : CallOw K r g) : CallM K r (fun ds => (g ds).bind Sl.see) := by
  intro B F e σ H xs ds d Q I r hf q
  obtain ⟨s, h1, h2⟩ := bnd hf
  refine h B F e σ H xs ds s Q I r h1 fun p o hp ow => ?_
  obtain ⟨f1, f2, f3, f4⟩ := I.free hp
  obtain ⟨I2, ne, nc⟩ := I.newOwn (o := o) hp
  obtain ⟨F2, s2, I3, r2⟩ := I2.freezeNew ow f1 f2 f4 h2 ne nc
  exact q F2 _ _ s2 I3 r2
theorem cm_sorted {K : PySem.W.Frag} : CallM K (rSortedX K) sortedD := cm_of_ow co_sorted
/-! list -/
def lstO : List D → Option Sl
  | [.lst xs] => some (.lst xs)
  | [.tup xs] => some (.lst xs)
  | _ => none
theorem co_lst {K : PySem.W.Frag} : CallOw K (fun xs H Q => ∃ p ys, xs = [.ref p] ∧ (SqL K H p ys ∨ SqT K H p ys) ∧ ∀ l, H l = none → Q (.ref l) (upd H l (.lst ys))) lstO := by
  intro B F e σ H xs ds s Q I r hf q
  unfold lstO at hf
  split at hf
  · cases hf
    obtain ⟨x, rfl, rx⟩ := r.one
    obtain ⟨a, ys, e1, t1, r1⟩ := rx.lst' I.sf
    exact ⟨a, ys, by rw [e1], .inl t1, fun p hp => q p _ hp (.lst upd_same r1)⟩
  · cases hf
    obtain ⟨x, rfl, rx⟩ := r.one
    obtain ⟨a, ys, e1, t1, g1, r1⟩ := rx.tup' I.sf
    exact ⟨a, ys, by rw [e1], .inr t1, fun p hp => q p _ hp (.lst upd_same r1)⟩
  · cases hf
/-! dict -/
def dicO : List D → Option Sl
  | [.dic es] => some (.dic es)
  | _ => none
def rDictC : List V → Hp → VK → Prop := fun xs H Q => ∃ (a : Addr) (kvs : List (Key × V)), xs = [.ref a] ∧ Rd H a (.dK kvs) ∧ ∀ p, H p = none → Q (.ref p) (upd H p (.dK kvs))
theorem co_dict {K : PySem.W.Frag} : CallOw K rDictC dicO := by
  intro B F e σ H xs ds s Q I r hf q
  unfold dicO at hf
  split at hf
  · cases hf
    obtain ⟨x, rfl, rx⟩ := r.one
    obtain ⟨a, kvs, e1, t1, r1⟩ := rx.dic' I.sf
    exact ⟨a, kvs, by rw [e1], t1, fun p hp => q p _ hp (.dic upd_same r1)⟩
  · cases hf
/-! ### methods that change one's own list or dict -/
def Sl.tyn : Sl → String
  | .lst _ => "list"
  | .dic _ => "dict"
  | _ => ""
def OwM (K : PySem.W.Frag) (r : V → List V → Hp → VK → Prop) (g : Sl → List D → Option (Sl × D)) : Prop :=
  ∀ (F H : Hp) (a : Addr) (s s' : Sl) (xs : List V) (ds : List D) (d : D) (Q : VK), Same F H → Ow K F H a s → Rps K F xs ds → g s ds = some (s', d) →
    (∀ (o : HO) (v : V), Ow K F (upd H a o) a s' → Rp K F v d → Q v (upd H a o)) → r (.ref a) xs H Q
def fBm (T : String) (i : Nat) (g : Sl → List D → Option (Sl × D)) (fs : FEs) : FE := fun e => match e[i]? with
  | some s0 => if s0.tyn = T ∧ s0.own = true then (fs e).bind fun p => match p.1[i]? with
    | some s => if s.own = true then (g s p.2).bind fun q => some (p.1.set i q.1, q.2) else none
    | none => none
    else none
  | none => none
theorem tyV_own {K : PySem.W.Frag} {F H : Hp} {a : Addr} {s : Sl} (h : Ow K F H a s) : tyV K s.tyn (.ref a) H := by
  cases h with
  | lst h r => exact .inl ⟨rfl, _, .inl (.inl h)⟩
  | dic h r => exact .inr (.inr (.inl ⟨rfl, .inl ⟨_, h⟩⟩))
theorem de_bm {K : PySem.W.Frag} {np n : Nat} {T : String} {i : Nat} {r : V → List V → Hp → VK → Prop} {g : Sl → List D → Option (Sl × D)} {t : TA} {fs : FEs} (hm : OwM K r g) (h : DEs K np n t fs) : DE K np (tBM K T r (tVar i) t) (fBm T i g fs) := by
  intro B F e σ H Q hn I e' d hf q
  unfold fBm at hf
  split at hf
  · rename_i s0 h0
    split at hf
    · rename_i ho
      obtain ⟨hT, ho⟩ := ho
      subst hT
      obtain ⟨⟨e1, ds⟩, h1, hf⟩ := bnd hf
      simp only at hf
      split at hf
      · rename_i s h2
        split at hf
        · rename_i hos
          obtain ⟨⟨s', d'⟩, h3, hf⟩ := bnd hf
          cases hf
          obtain ⟨v0, hv0, r0⟩ := I.slot h0
          obtain ⟨a, ev, o0, _⟩ := r0.of_own ho
          subst ev
          refine ⟨.ref a, hv0, tyV_own o0, h B F e σ H _ hn I e1 ds h1 fun F1 vs H1 s1 I1 r1 _ => ?_⟩
          obtain ⟨a', ev, o1, f1, _⟩ := (I1.sl i _ _ h2 hv0).of_own hos
          cases ev
          refine hm F1 H1 a s s' vs ds _ Q I1.sf o1 r1 h3 fun o v ow rv => ?_
          exact q F1 v _ s1 (I1.turn h2 hos hv0 ow) rv
        · cases hf
      · cases hf
    · cases hf
  · cases hf
theorem de_bm0 {K : PySem.W.Frag} {np : Nat} {T : String} {i : Nat} {r : V → List V → Hp → VK → Prop} {g : Sl → List D → Option (Sl × D)} (hm : OwM K r g) : DE K np (tBM0 K T r (tVar i)) (fBm T i g fNil) := by
  intro B F e σ H Q hn I e' d hf q
  unfold fBm at hf
  split at hf
  · rename_i s0 h0
    split at hf
    · rename_i ho
      obtain ⟨hT, ho⟩ := ho
      subst hT
      obtain ⟨⟨e1, ds⟩, h1, hf⟩ := bnd hf
      cases h1
      simp only [h0, ho, if_true] at hf
      obtain ⟨⟨s', d'⟩, h3, hf⟩ := bnd hf
      cases hf
      obtain ⟨v0, hv0, r0⟩ := I.slot h0
      obtain ⟨a, ev, o0, f1, _⟩ := r0.of_own ho
      subst ev
      refine ⟨.ref a, hv0, tyV_own o0, ?_⟩
      refine hm F H a s0 s' [] [] _ Q I.sf o0 .nil h3 fun o v ow rv => ?_
      exact q F v _ (Same.refl F) (I.turn h0 ho hv0 ow) rv
    · cases hf
  · cases hf
def gReverse : Sl → List D → Option (Sl × D)
  | .lst ds, [] => some (.lst ds.reverse, .non)
  | _, _ => none
theorem ow_reverse {K : PySem.W.Frag} : OwM K rReverse gReverse := by
  intro F H a s s' xs ds d Q sf o r hf q
  unfold gReverse at hf
  split at hf
  · cases hf
    cases r
    cases o with
    | lst h1 h2 => exact ⟨a, _, rfl, rfl, h1, q _ _ (.lst upd_same h2.reverse) .non⟩
  · cases hf
def gClear : Sl → List D → Option (Sl × D)
  | .lst _, [] => some (.lst [], .non)
  | _, _ => none
theorem ow_clear {K : PySem.W.Frag} : OwM K rClear gClear := by
  intro F H a s s' xs ds d Q sf o r hf q
  unfold gClear at hf
  split at hf
  · cases hf
    cases r
    cases o with
    | lst h1 h2 => exact ⟨a, _, rfl, rfl, h1, q _ _ (.lst upd_same .nil) .non⟩
  · cases hf
def gPop : Sl → List D → Option (Sl × D)
  | .lst ds, [] => (ds[ds.length - 1]?).map fun d => (.lst ds.dropLast, d)
  | _, _ => none
theorem Rps.dropLast {K : PySem.W.Frag} {F : Hp} {xs : List V} {ds : List D} (r : Rps K F xs ds) : Rps K F xs.dropLast ds.dropLast := by
  rw [List.dropLast_eq_take, List.dropLast_eq_take, r.length]
  exact r.take _
theorem ow_pop {K : PySem.W.Frag} : OwM K rPop gPop := by
  intro F H a s s' xs ds d Q sf o r hf q
  unfold gPop at hf
  split at hf
  · obtain ⟨y, h1, h2⟩ := Option.map_eq_some_iff.mp hf
    cases h2
    cases r
    cases o with
    | lst g1 g2 =>
      rw [← g2.length] at h1
      obtain ⟨v, h3, h4⟩ := g2.getD h1
      exact ⟨a, _, v, rfl, rfl, g1, h3, q _ _ (.lst upd_same g2.dropLast) h4⟩
  · cases hf
section
variable {X : Cx} {np : Nat} {x : Str} {p apos cpos : Pos} {K : PySem.W.Frag}
theorem jreverse {i : Nat} (hv : PE X (.Name x p) (tVar i)) (hbase : attributeBase (.Name x p) "reverse" X.env (eval (.Name x p) X.env) = eval (.Name x p) X.env := by rfl) (hline : (apos.endLine == cpos.line) = true := by rfl) (hK : X.K = K := by rfl) :
    JE X np (.Call (.Attribute (.Name x p) "reverse" apos) [] [] cpos) (tBM0 K "list" rReverse (tVar i)) (fBm "list" i gReverse fNil) := by
  subst hK
  exact ⟨pe_bm0 PySem.F.plainAttrs_list PySem.F.slot_list_reverse PySem.F.type_list_reverse mt_reverse hv hbase hline, de_bm0 ow_reverse⟩
theorem jclear {i : Nat} (hv : PE X (.Name x p) (tVar i)) (hbase : attributeBase (.Name x p) "clear" X.env (eval (.Name x p) X.env) = eval (.Name x p) X.env := by rfl) (hline : (apos.endLine == cpos.line) = true := by rfl) (hK : X.K = K := by rfl) :
    JE X np (.Call (.Attribute (.Name x p) "clear" apos) [] [] cpos) (tBM0 K "list" rClear (tVar i)) (fBm "list" i gClear fNil) := by
  subst hK
  exact ⟨pe_bm0 PySem.F.plainAttrs_list PySem.F.slot_list_clear PySem.F.type_list_clear mt_clear hv hbase hline, de_bm0 ow_clear⟩
theorem jpop {i : Nat} (hv : PE X (.Name x p) (tVar i)) (hbase : attributeBase (.Name x p) "pop" X.env (eval (.Name x p) X.env) = eval (.Name x p) X.env := by rfl) (hline : (apos.endLine == cpos.line) = true := by rfl) (hK : X.K = K := by rfl) :
    JE X np (.Call (.Attribute (.Name x p) "pop" apos) [] [] cpos) (tBM0 K "list" rPop (tVar i)) (fBm "list" i gPop fNil) := by
  subst hK
  exact ⟨pe_bm0 PySem.F.plainAttrs_list PySem.F.slot_list_pop PySem.F.type_list_pop mt_pop hv hbase hline, de_bm0 ow_pop⟩
theorem jdput {i : Nat} {pos tpos : Pos} {ex ix : Expr} {te ti : TE} {fe fi : FE} (hu : X.A.units + 200 < cLine) (h : JE X np ex te fe) (hv : PE X (.Name x p) (tVar i)) (hi : JE X np ix ti fi) (hs : swapsWith ex (some (.Subscript (.Name x p) ix tpos)) pos.line X.env = pure false := by rfl) :
    JS X np (.Assign [.Subscript (.Name x p) ix tpos] ex pos) (L2.sDPut (tVar i) ti te) (sDPutN i fe fi) := js_dput h hi (ps_dput (by omega) hv hi.pe h.pe hs)
theorem odict (hK : X.K = K := by rfl) : CallR X (.type "dict") rDictC := call_dictD
theorem osorted (hc : X.calm = true := by rfl) (hK : X.K = K := by rfl) : CallR X (.builtin "sorted") (rSortedX K) := by subst hK; exact cr_sortedX hc
end
end M

namespace M
open PySem PySem.Spec PyProof.Rows L2
/-! ### calls with keywords in any order -/
def pick {α : Type} (ix : List Nat) (xs : List α) : List α := ix.filterMap fun i => xs[i]?
def pickN {α : Type} (n m : Nat) (ix : List Nat) (us ws : List α) : List α := if us.length = n ∧ ws.length = m then pick ix (us ++ ws) else []
def KwP (K : PySem.W.Frag) (fd : FuncData) (ps : List Str) (n : Nat) (ks : List Str) (ix : List Nat) : Prop :=
  ∀ (s : Shared) (us ws : List Value), K.In s.heap → us.length = n → ws.length = ks.length → BindsTo s fd ⟨us, ks.zip ws⟩ (ps.zip (pick ix (us ++ ws)))
def KwOk (K : PySem.W.Frag) (mg : Str → Option Value) (x : Str) (ps : List Str) (n : Nat) (ks : List Str) (ix : List Nat) : Prop :=
  ∃ (f : Addr) (fd : FuncData) (o : Obj), mg x = some (.ref f) ∧ K.lookup f = some o ∧ o.data = .func fd ∧ KwP K fd ps n ks ix
theorem pick_vals : ∀ (ix : List Nat) {vs : List V} {us : List Value}, Vals vs us → Vals (pick ix vs) (pick ix us)
  | [], _, _, _ => .nil
  | i :: ix, vs, us, r => by
    have ih := pick_vals ix r
    unfold pick at ih ⊢
    rw [List.filterMap_cons, List.filterMap_cons]
    cases h : vs[i]? with
    | none =>
      have : us[i]? = none := by
        rw [List.getElem?_eq_none_iff] at h ⊢
        rw [← r.length]; exact h
      rw [this]; exact ih
    | some v =>
      obtain ⟨u, h1, h2⟩ := r.get h
      rw [h1]
      exact .cons h2 ih
theorem pick_args {K : PySem.W.Frag} {F : Hp} {σ : L2.St} : ∀ (ix : List Nat) {vs : List V} {as : List Arg}, ArgRs K F σ vs as → ArgRs K F σ (pick ix vs) (pick ix as)
  | [], _, _, _ => .nil
  | i :: ix, vs, as, r => by
    have ih := pick_args ix r
    unfold pick at ih ⊢
    rw [List.filterMap_cons, List.filterMap_cons]
    cases h : as[i]? with
    | none =>
      have : vs[i]? = none := by
        rw [List.getElem?_eq_none_iff] at h ⊢
        rw [r.length]; exact h
      rw [this]; exact ih
    | some v =>
      obtain ⟨u, h1, h2⟩ := r.get h
      rw [h1]
      exact .cons h2 ih
theorem ArgRs.mono {K : PySem.W.Frag} {F F' : Hp} {σ : L2.St} (s : Same F F') : ∀ {vs : List V} {as : List Arg}, ArgRs K F σ vs as → ArgRs K F' σ vs as
  | _, _, .nil => .nil
  | _, _, .cons a b => .cons (a.mono s) (b.mono s)
theorem ArgRs.append {K : PySem.W.Frag} {F : Hp} {σ : L2.St} : ∀ {vs ws : List V} {as bs : List Arg}, ArgRs K F σ vs as → ArgRs K F σ ws bs → ArgRs K F σ (vs ++ ws) (as ++ bs)
  | _, _, _, _, .nil, r => r
  | _, _, _, _, .cons a b, r => .cons a (b.append r)
theorem kwP_binds {K : PySem.W.Frag} {fd : FuncData} {ps ks : List Str} {n : Nat} {ix : List Nat} (h : KwP K fd ps n ks ix) (hp : ps ≠ []) : KBinds K fd ps ks (pickN n ks.length ix) (pickN n ks.length ix) := by
  refine ⟨fun s us ws X l => ?_, fun {vs us zs ws} r1 r2 => ?_⟩
  · unfold pickN at l ⊢
    split at l
    · rename_i hh
      rw [if_pos hh]
      exact h s us ws X hh.1 hh.2
    · exact absurd (List.length_eq_zero_iff.mp l.symm) hp
  · unfold pickN
    rw [r1.length, r2.length]
    split
    · exact pick_vals ix (r1.append r2)
    · exact .nil
def tPick (n m : Nat) (ix : List Nat) (t tk : TA) : TA := fun σ H R => t σ H fun vs H1 => tk σ H1 fun zs H2 => R (pickN n m ix vs zs) H2
def aPick (n m : Nat) (ix : List Nat) (fa fk : FA) : FA := fun e => (fa e).bind fun p => (fk p.1).bind fun q => if p.2.length = n ∧ q.2.length = m then some (q.1, pick ix (p.2 ++ q.2)) else none
theorem da_pick {K : PySem.W.Frag} {np n m : Nat} {ix : List Nat} {t tk : TA} {fa fk : FA} (h : DA K np t fa) (h2 : DA K np tk fk) : DA K np (tPick n m ix t tk) (aPick n m ix fa fk) := by
  intro B F e σ H Q hn I e' as hf q
  obtain ⟨⟨e1, a1⟩, h1, hf⟩ := bnd hf
  obtain ⟨⟨e2, a2⟩, h3, hf⟩ := bnd hf
  simp only at hf
  split at hf
  · rename_i hh
    cases hf
    refine h B F e σ H _ hn I e1 a1 h1 fun F1 vs H1 s1 I1 r1 => ?_
    refine h2 B F1 e1 σ H1 _ hn I1 _ a2 h3 fun F2 zs H2 s2 I2 r2 => ?_
    have hh' : vs.length = n ∧ zs.length = m := by rw [r1.length, r2.length]; exact hh
    rw [show pickN n m ix vs zs = pick ix (vs ++ zs) from if_pos hh']
    exact q F2 _ H2 (s1.trans s2) I2 (pick_args ix ((r1.mono s2).append r2))
  · cases hf
section
variable {X : Cx} {np : Nat}
theorem jcallP {K : PySem.W.Frag} {N n k : Nat} {x : Str} {p pos : Pos} {ex : Expr} {es : List Expr} {kws : List Keyword} {ps ks : List Str} {ix : List Nat} {m : FC} {t tk : TA} {fa fk : FA} (G : DefOk X.prog X.w K X.mg X.base x ps k N m) (kw : KwOk K X.mg x ps n ks ix)
    (hr : RoomT k X.A) (hg : Gl X x) (ha : JA X np (ex :: es) t fa) (hkw : JPK X np kws tk fk) (hall : (backToKw pos (keywordEach kws X.env)).all (·.1.isSome) = true := by rfl) (hks : (backToKw pos (keywordEach kws X.env)).filterMap (·.1) = ks := by rfl)
    (hdb : (x == ("__debug__" : Str)) = false := by decide) (he : starEach (ex :: es) X.env = (false, eval ex X.env) :: starEach es X.env := by rfl)
    (hpl : ((backTo pos (starEach (ex :: es) X.env)).any (·.1) || (backToKw pos (keywordEach kws X.env)).any (·.1.isNone)) = false := by rfl) (hK : X.K = K := by rfl) :
    JE X np (.Call (.Name x p) (ex :: es) kws pos) (tCall (spM K N m) [] E0 (tPick n ks.length ix t tk)) (fCall m (aPick n ks.length ix fa fk)) := by
  subst hK
  obtain ⟨f, fd, G, b, kp, e, l, _, hp, o, k1, k2⟩ := G
  obtain ⟨f', fd', o', e', k1', k2', w⟩ := kw
  have ef : f = f' := by rw [e] at e'; cases e'; rfl
  subst ef
  have eo : o = o' := by rw [k1] at k1'; cases k1'; rfl
  subst eo
  have ed : fd = fd' := by rw [k2] at k2'; cases k2'; rfl
  subst ed
  refine ⟨⟨fun pins s σ H Q I h => (pe_callKT G hr hg e kp (kwP_binds w hp) pass0 ha.pa hkw.pk hall hks hdb he hpl).run pins s σ H Q I ?_⟩, de_call (E := E0) (da_pick ha.de hkw.de) fun {es r} h => l es r h⟩
  unfold tCall tPick at h
  unfold tCallK
  simpa only [List.append_nil] using h
theorem jcallP0 {K : PySem.W.Frag} {N k : Nat} {x : Str} {p pos : Pos} {kws : List Keyword} {ps ks : List Str} {ix : List Nat} {m : FC} {tk : TA} {fk : FA} (G : DefOk X.prog X.w K X.mg X.base x ps k N m) (kw : KwOk K X.mg x ps 0 ks ix)
    (hr : RoomT k X.A) (hg : Gl X x) (hkw : JPK X np kws tk fk) (hall : (backToKw pos (keywordEach kws X.env)).all (·.1.isSome) = true := by rfl) (hks : (backToKw pos (keywordEach kws X.env)).filterMap (·.1) = ks := by rfl)
    (hdb : (x == ("__debug__" : Str)) = false := by decide)
    (hpl : ((backTo pos (starEach [] X.env)).any (·.1) || (backToKw pos (keywordEach kws X.env)).any (·.1.isNone)) = false := by rfl) (hK : X.K = K := by rfl) :
    JE X np (.Call (.Name x p) [] kws pos) (tCall (spM K N m) [] E0 (tPick 0 ks.length ix tNil tk)) (fCall m (aPick 0 ks.length ix aNil fk)) := by
  subst hK
  obtain ⟨f, fd, G, b, kp, e, l, _, hp, o, k1, k2⟩ := G
  obtain ⟨f', fd', o', e', k1', k2', w⟩ := kw
  have ef : f = f' := by rw [e] at e'; cases e'; rfl
  subst ef
  have eo : o = o' := by rw [k1] at k1'; cases k1'; rfl
  subst eo
  have ed : fd = fd' := by rw [k2] at k2'; cases k2'; rfl
  subst ed
  refine ⟨⟨fun pins s σ H Q I h => ?_⟩, de_call (E := E0) (da_pick ja_nil.de hkw.de) fun {es r} h => l es r h⟩
  refine wpAny_Call_Name_kw (ld_glob I hg e ?_ hdb)
  refine PySem.W.callWith_KW0 (h₀ := X.base) I.ok.mod.kin kp hall ?_ hpl
  unfold tCall tPick tNil at h
  refine thn (hkw.pk.run pos pins s σ H _ I h) fun ws s2 ⟨zs, H2, I2, rz, q2⟩ => ⟨I2.kIn, ?_⟩
  rw [hks]
  have q3 : spM X.K N m (pickN 0 ks.length ix [] zs ++ []) H2 Q E0 := q2
  rw [List.append_nil] at q3
  exact run_fnkT (us := []) (vs := []) G hr (kwP_binds w hp) pass0 I2 .nil rz q3
end
theorem kw_mk {K : PySem.W.Frag} {mg : Str → Option Value} {h : Heap} {x : Str} {st : Stmt} {ps ks : List Str} {n : Nat} {ix : List Nat} {f : Addr} {oc : Value} {od an : Option Addr} {osl : Array (Option Value)} {kV doc pm cdv ct : Value} (X : K.In h) (G : h.Ns mainGlobals mg) (a : PySem.W.nsIn K mainGlobals x = some (some (.ref f)))
    (l : K.lookup f = some ⟨oc, od, .func (PySem.W.fnOf x x (defArgs st) (defBody st) (defScope st) .none kV doc pm an cdv ct), osl⟩)
    (hk : ∀ (kV doc pm : Value) (an : Option Addr) (cdv ct : Value) (us ws : List Value), us.length = n → ws.length = ks.length → bindArgs (PySem.W.fnOf x x (defArgs st) (defBody st) (defScope st) .none kV doc pm an cdv ct) ⟨us, ks.zip ws⟩ = pure (ps.zip (pick ix (us ++ ws)))) : KwOk K mg x ps n ks ix :=
  ⟨f, _, _, PySem.W.mg_of X G a, l, rfl, fun s us ws _ h1 h2 => .of_eq (hk _ _ _ _ _ _ us ws h1 h2)⟩
section
variable (s : Sl) (e : Sls)
theorem c_aPick (n m : Nat) (ix : List Nat) (fa fk : FA) : aPick n m ix fa fk (s :: e) = (fa (s :: e)).bind fun p => (fk p.1).bind fun q => if p.2.length = n ∧ q.2.length = m then some (q.1, pick ix (p.2 ++ q.2)) else none := rfl
theorem c_oCB (g : List D → Option Sl) (k : FKs) : oCB g k (s :: e) = (k (s :: e)).bind fun p => (p.2 p.1).bind fun ds => (g ds).bind fun d => some (p.1, d) := rfl
theorem c_fBm (T : String) (i : Nat) (g : Sl → List D → Option (Sl × D)) (fs : FEs) : fBm T i g fs (s :: e) = match (s :: e)[i]? with
  | some s0 => if s0.tyn = T ∧ s0.own = true then (fs (s :: e)).bind fun p => match p.1[i]? with
    | some s => if s.own = true then (g s p.2).bind fun q => some (p.1.set i q.1, q.2) else none
    | none => none
    else none
  | none => none := rfl
end
theorem pick_nil {α : Type} (xs : List α) : pick [] xs = [] := rfl
theorem pick_cons {α : Type} (i : Nat) (ix : List Nat) (xs : List α) : pick (i :: ix) xs = match xs[i]? with | some x => x :: pick ix xs | none => pick ix xs := by
  unfold pick
  rw [List.filterMap_cons]
  split <;> simp_all
theorem tyn_lst (ds : List D) : Sl.tyn (.lst ds) = "list" := rfl
theorem tyn_dic (ds : List (Key × D)) : Sl.tyn (.dic ds) = "dict" := rfl
theorem g_rev (ds : List D) : gReverse (.lst ds) [] = some (.lst ds.reverse, .non) := rfl
theorem g_clear (ds : List D) : gClear (.lst ds) [] = some (.lst [], .non) := rfl
theorem g_pop (ds : List D) : gPop (.lst ds) [] = (ds[ds.length - 1]?).map fun d => (.lst ds.dropLast, d) := rfl
theorem d_lstOL (ds : List D) : lstO [.lst ds] = some (.lst ds) := rfl
theorem d_lstOT (ds : List D) : lstO [.tup ds] = some (.lst ds) := rfl
theorem d_dicO (ds : List (Key × D)) : dicO [.dic ds] = some (.dic ds) := rfl
end M

namespace M
open PySem PySem.Spec PyProof.Rows L2
/-! ### terms as a type -/
mutual
inductive T where
  | num (i : Int) | name (s : Str) | make (s : Str) | app (a b : T) | op (o : Str) (a b : T) | fn (x : Str) (b : T) | lt (ps : PL) (b : T) | cs (a : T) (ws : WL)
inductive PL where
  | nil | cons (x : Str) (t : T) (r : PL)
inductive WL where
  | nil | cons (c : Str) (xs : List Str) (t : T) (r : WL)
end
mutual
def T.d : T → D
  | .num i => .tup [.str "num", .int i]
  | .name s => .tup [.str "name", .str s]
  | .make s => .tup [.str "make", .str s]
  | .app a b => .tup [.str "app", a.d, b.d]
  | .op o a b => .tup [.str "op", .str o, a.d, b.d]
  | .fn x b => .tup [.str "fun", .str x, b.d]
  | .lt ps b => .tup [.str "let", .tup ps.d, b.d]
  | .cs a ws => .tup [.str "case", a.d, .tup ws.d]
def PL.d : PL → List D
  | .nil => []
  | .cons x t r => .tup [.str x, t.d] :: r.d
def WL.d : WL → List D
  | .nil => []
  | .cons c xs t r => .tup [.str c, .tup (xs.map .str), t.d] :: r.d
end
mutual
/-- how deep, how great -/
def T.h : T → Nat
  | .num _ => 1
  | .name _ => 1
  | .make _ => 1
  | .app a b => max a.h b.h + 1
  | .op _ a b => max a.h b.h + 1
  | .fn _ b => b.h + 1
  | .lt ps b => max ps.h b.h + 1
  | .cs a ws => max a.h ws.h + 1
def PL.h : PL → Nat
  | .nil => 0
  | .cons _ t r => max t.h r.h
def WL.h : WL → Nat
  | .nil => 0
  | .cons _ _ t r => max t.h r.h
end
mutual
def T.z : T → Nat
  | .num _ => 1
  | .name _ => 1
  | .make _ => 1
  | .app a b => a.z + b.z + 1
  | .op _ a b => a.z + b.z + 1
  | .fn _ b => b.z + 1
  | .lt ps b => ps.z + b.z + 1
  | .cs a ws => a.z + ws.z + 1
def PL.z : PL → Nat
  | .nil => 0
  | .cons _ t r => t.z + r.z
def WL.z : WL → Nat
  | .nil => 0
  | .cons _ _ t r => t.z + r.z
end
def PL.names : PL → List Str
  | .nil => []
  | .cons x _ r => x :: r.names
mutual
def T.Ok : T → Prop
  | .num i => 0 ≤ i ∧ i < 10 ^ 20
  | .name s => SmallN s
  | .make s => GreatN s
  | .app a b => a.Ok ∧ b.Ok
  | .op o a b => o ∈ opsL ∧ a.Ok ∧ b.Ok
  | .fn x b => SmallN x ∧ b.Ok
  | .lt ps b => ps ≠ .nil ∧ ps.names.Nodup ∧ ps.Ok ∧ b.Ok
  | .cs a ws => a.Ok ∧ ws ≠ .nil ∧ ws.Ok
def PL.Ok : PL → Prop
  | .nil => True
  | .cons x t r => SmallN x ∧ t.Ok ∧ r.Ok
def WL.Ok : WL → Prop
  | .nil => True
  | .cons c xs t r => GreatN c ∧ (∀ s ∈ xs, SmallN s) ∧ xs.Nodup ∧ xs.length ≤ 3 ∧ t.Ok ∧ r.Ok
end
mutual
theorem T.z_pos : ∀ t : T, 1 ≤ t.z
  | .num _ => Nat.le_refl _
  | .name _ => Nat.le_refl _
  | .make _ => Nat.le_refl _
  | .app a b => by rw [T.z]; omega
  | .op _ a b => by rw [T.z]; omega
  | .fn _ b => by rw [T.z]; omega
  | .lt ps b => by rw [T.z]; omega
  | .cs a ws => by rw [T.z]; omega
end
theorem T.h_pos : ∀ t : T, 1 ≤ t.h := by
  intro t
  cases t <;> simp only [T.h] <;> omega
theorem PL.d_ne : ∀ {ps : PL}, ps ≠ .nil → ps.d ≠ []
  | .nil, h => absurd rfl h
  | .cons .., _ => by rw [PL.d]; exact List.cons_ne_nil _ _
theorem WL.d_ne : ∀ {ps : WL}, ps ≠ .nil → ps.d ≠ []
  | .nil, h => absurd rfl h
  | .cons .., _ => by rw [WL.d]; exact List.cons_ne_nil _ _
mutual
theorem Tm.toT : ∀ {n L : Nat} {d : D}, Tm n L d → ∃ t : T, d = t.d ∧ t.h ≤ n ∧ t.z ≤ L ∧ t.Ok
  | _, _, _, .name h0 h1 => ⟨.name _, rfl, by simp [T.h], by simpa [T.z] using h1, h0⟩
  | _, _, _, .make h0 h1 => ⟨.make _, rfl, by simp [T.h], by simpa [T.z] using h1, h0⟩
  | _, _, _, .num h0 h1 h2 => ⟨.num _, rfl, by simp [T.h], by simpa [T.z] using h2, h0, h1⟩
  | _, _, _, .app a b h1 => by
    obtain ⟨t, rfl, a1, a2, a3⟩ := a.toT
    obtain ⟨u, rfl, b1, b2, b3⟩ := b.toT
    exact ⟨.app t u, rfl, by rw [T.h]; omega, by rw [T.z]; omega, a3, b3⟩
  | _, _, _, .op o a b h1 => by
    obtain ⟨t, rfl, a1, a2, a3⟩ := a.toT
    obtain ⟨u, rfl, b1, b2, b3⟩ := b.toT
    exact ⟨.op _ t u, rfl, by rw [T.h]; omega, by rw [T.z]; omega, o, a3, b3⟩
  | _, _, _, .fn x a h1 => by
    obtain ⟨t, rfl, a1, a2, a3⟩ := a.toT
    exact ⟨.fn _ t, rfl, by rw [T.h]; omega, by rw [T.z]; omega, x, a3⟩
  | _, _, _, .lt ps ne nd a h1 => by
    obtain ⟨t, rfl, a1, a2, a3⟩ := a.toT
    obtain ⟨p, e, f, b1, b2, b3⟩ := ps.toPL
    refine ⟨.lt p t, by rw [e, T.d], by rw [T.h]; omega, by rw [T.z]; omega, fun z => ?_, by rw [← f]; exact nd, b3, a3⟩
    subst z
    rw [PL.d] at e
    exact ne (List.map_eq_nil_iff.mp e)
  | _, _, _, .cs a ws ne h1 => by
    obtain ⟨t, rfl, a1, a2, a3⟩ := a.toT
    obtain ⟨p, e, b1, b2, b3⟩ := ws.toWL
    refine ⟨.cs t p, by rw [e, T.d], by rw [T.h]; omega, by rw [T.z]; omega, a3, fun z => ?_, b3⟩
    subst z
    rw [WL.d] at e
    exact ne (List.map_eq_nil_iff.mp e)
theorem Bds.toPL : ∀ {n L : Nat} {bs : List (Str × D)}, Bds n L bs → ∃ p : PL, (bs.map fun p => D.tup [.str p.1, p.2]) = p.d ∧ bs.map Prod.fst = p.names ∧ p.h ≤ n ∧ p.z ≤ L ∧ p.Ok
  | _, _, _, .nil => ⟨.nil, rfl, rfl, by simp [PL.h], by simp [PL.z], trivial⟩
  | _, _, _, .cons x a b h => by
    obtain ⟨t, rfl, a1, a2, a3⟩ := a.toT
    obtain ⟨p, e, f, b1, b2, b3⟩ := b.toPL
    exact ⟨.cons _ t p, by rw [List.map_cons, e, PL.d], by rw [List.map_cons, f, PL.names], by rw [PL.h]; omega, by rw [PL.z]; omega, x, a3, b3⟩
theorem Wys.toWL : ∀ {n L : Nat} {bs : List (Str × List Str × D)}, Wys n L bs → ∃ p : WL, (bs.map fun p => D.tup [.str p.1, .tup (p.2.1.map .str), p.2.2]) = p.d ∧ p.h ≤ n ∧ p.z ≤ L ∧ p.Ok
  | _, _, _, .nil => ⟨.nil, rfl, by simp [WL.h], by simp [WL.z], trivial⟩
  | _, _, _, .cons x y z w a b h => by
    obtain ⟨t, rfl, a1, a2, a3⟩ := a.toT
    obtain ⟨p, e, b1, b2, b3⟩ := b.toWL
    exact ⟨.cons _ _ t p, by rw [List.map_cons, e, WL.d], by rw [WL.h]; omega, by rw [WL.z]; omega, x, y, z, w, a3, b3⟩
end
/-! the terms within a term, each with the names that it binds in it -/
def PL.parts (ns : List Str) : PL → List (T × List Str)
  | .nil => []
  | .cons _ t r => (t, ns) :: r.parts ns
def WL.parts : WL → List (T × List Str)
  | .nil => []
  | .cons _ xs t r => (t, xs) :: r.parts
def T.parts : T → List (T × List Str)
  | .app a b => [(a, []), (b, [])]
  | .op _ a b => [(a, []), (b, [])]
  | .fn x b => [(b, [x])]
  | .lt ps b => ps.parts ps.names ++ [(b, ps.names)]
  | .cs a ws => (a, []) :: ws.parts
  | _ => []
theorem PL.names_le : ∀ ps : PL, ps.names.length ≤ ps.z
  | .nil => Nat.le_refl _
  | .cons x t r => by
    have := r.names_le
    have := t.z_pos
    simp only [PL.names, PL.z, List.length_cons]; omega
theorem PL.names_small : ∀ {ps : PL}, ps.Ok → ∀ s ∈ ps.names, SmallN s
  | .nil, _, s, h => nomatch h
  | .cons x t r, ok, s, h => by
    rcases List.mem_cons.mp h with rfl | h
    · exact ok.1
    · exact PL.names_small ok.2.2 s h
theorem PL.parts_mem : ∀ {ps : PL} {ns : List Str} {q : T × List Str}, q ∈ ps.parts ns → q.2 = ns ∧ q.1.h ≤ ps.h ∧ q.1.z + ps.names.length ≤ ps.z + 1 ∧ (ps.Ok → q.1.Ok)
  | .nil, _, _, h => nomatch h
  | .cons x t r, ns, q, h => by
    have l := r.names_le
    have p := t.z_pos
    rcases List.mem_cons.mp h with rfl | h
    · exact ⟨rfl, by simp only [PL.h]; omega, by simp only [PL.names, PL.z, List.length_cons]; omega, fun ok => ok.2.1⟩
    · obtain ⟨h1, h2, h3, h4⟩ := PL.parts_mem h
      exact ⟨h1, by simp only [PL.h]; omega, by simp only [PL.names, PL.z, List.length_cons]; omega, fun ok => h4 ok.2.2⟩
theorem WL.parts_mem : ∀ {ps : WL} {q : T × List Str}, q ∈ ps.parts → q.1.h ≤ ps.h ∧ q.1.z ≤ ps.z ∧ (ps.Ok → q.1.Ok ∧ q.2.length ≤ 3 ∧ ∀ s ∈ q.2, SmallN s)
  | .nil, _, h => nomatch h
  | .cons c xs t r, q, h => by
    have p := t.z_pos
    rcases List.mem_cons.mp h with rfl | h
    · exact ⟨by simp only [WL.h]; omega, by simp only [WL.z]; omega, fun ok => ⟨ok.2.2.2.2.1, ok.2.2.2.1, ok.2.1⟩⟩
    · obtain ⟨h2, h3, h4⟩ := WL.parts_mem h
      exact ⟨by simp only [WL.h]; omega, by simp only [WL.z]; omega, fun ok => h4 ok.2.2.2.2.2⟩
theorem T.parts_mem {t : T} {q : T × List Str} (ok : t.Ok) (h : q ∈ t.parts) : q.1.h + 1 ≤ t.h ∧ q.2.length + 4 * q.1.z ≤ 4 * t.z ∧ q.1.Ok ∧ ∀ s ∈ q.2, SmallN s := by
  cases t with
  | app a b =>
    have := a.z_pos; have := b.z_pos
    simp only [T.parts, List.mem_cons, List.not_mem_nil, or_false] at h
    rcases h with rfl | rfl
    · exact ⟨by simp only [T.h]; omega, by simp only [T.z, List.length_nil]; omega, ok.1, fun _ z => nomatch z⟩
    · exact ⟨by simp only [T.h]; omega, by simp only [T.z, List.length_nil]; omega, ok.2, fun _ z => nomatch z⟩
  | op o a b =>
    have := a.z_pos; have := b.z_pos
    simp only [T.parts, List.mem_cons, List.not_mem_nil, or_false] at h
    rcases h with rfl | rfl
    · exact ⟨by simp only [T.h]; omega, by simp only [T.z, List.length_nil]; omega, ok.2.1, fun _ z => nomatch z⟩
    · exact ⟨by simp only [T.h]; omega, by simp only [T.z, List.length_nil]; omega, ok.2.2, fun _ z => nomatch z⟩
  | fn x b =>
    simp only [T.parts, List.mem_cons, List.not_mem_nil, or_false] at h
    subst h
    exact ⟨by simp only [T.h]; omega, by simp only [T.z, List.length_cons, List.length_nil]; omega, ok.2, fun s hs => by rw [List.mem_singleton.mp hs]; exact ok.1⟩
  | lt ps b =>
    have l := ps.names_le
    have := b.z_pos
    simp only [T.parts] at h
    rcases List.mem_append.mp h with h | h
    · obtain ⟨h1, h2, h3, h4⟩ := PL.parts_mem h
      exact ⟨by simp only [T.h]; omega, by rw [h1, T.z]; omega, h4 ok.2.2.1, by rw [h1]; exact PL.names_small ok.2.2.1⟩
    · have h := List.mem_singleton.mp h
      subst h
      exact ⟨by simp only [T.h]; omega, by rw [T.z]; simp only; omega, ok.2.2.2, PL.names_small ok.2.2.1⟩
  | cs a ws =>
    have := a.z_pos
    simp only [T.parts] at h
    rcases List.mem_cons.mp h with rfl | h
    · exact ⟨by simp only [T.h]; omega, by simp only [T.z, List.length_nil]; omega, ok.1, fun _ z => nomatch z⟩
    · obtain ⟨h2, h3, h4⟩ := WL.parts_mem h
      obtain ⟨k1, k2, k3⟩ := h4 ok.2.2
      exact ⟨by simp only [T.h]; omega, by simp only [T.z]; omega, k1, k3⟩
  | num _ => nomatch h
  | name _ => nomatch h
  | make _ => nomatch h
theorem PL.parts_sum : ∀ (ps : PL) (ns : List Str), ((ps.parts ns).map fun q => q.1.z).sum = ps.z
  | .nil, _ => rfl
  | .cons x t r, ns => by rw [PL.parts, List.map_cons, List.sum_cons, PL.parts_sum r ns, PL.z]
theorem WL.parts_sum : ∀ (ps : WL), (ps.parts.map fun q => q.1.z).sum = ps.z
  | .nil => rfl
  | .cons c xs t r => by rw [WL.parts, List.map_cons, List.sum_cons, WL.parts_sum r, WL.z]
theorem T.parts_sum (t : T) : (t.parts.map fun q => q.1.z).sum ≤ t.z := by
  cases t <;> simp only [T.parts, List.map_cons, List.map_nil, List.sum_cons, List.sum_nil, List.map_append, List.sum_append, PL.parts_sum, WL.parts_sum, T.z] <;> omega
theorem T.parts_len (t : T) : t.parts.length ≤ t.z := by
  have h : ∀ qs : List (T × List Str), qs.length ≤ (qs.map fun q => q.1.z).sum := by
    intro qs
    induction qs with
    | nil => simp
    | cons q qs ih => have := q.1.z_pos; simp only [List.map_cons, List.sum_cons, List.length_cons]; omega
  exact Nat.le_trans (h _) t.parts_sum
/-! ### a comprehension that keeps its state -/
theorem w_lc_map {α : Type} {vs : List Nat} {b : FG} {c : FT} {f : FE} {e : Sls} (i g : α → D) {Q : Sls → List D → Prop} : ∀ {ds : List α} {acc : List D}, acc.length + ds.length ≤ 8000000 →
    (∀ d ∈ ds, ∀ (acc : List D) (R : Sls → List D → Prop), acc.length < sizeLine → R e (acc ++ [g d]) → W (lcStep vs b c f (i d) e acc) R) → Q e (acc ++ ds.map g) → W (lcLoop vs b c f (ds.map i) e acc) Q
  | [], acc, _, _, h => ⟨_, _, rfl, by simpa using h⟩
  | d :: ds, acc, hl, hs, h => by
    rw [List.length_cons] at hl
    rw [List.map_cons, lc_step, W_bind]
    refine hs d (List.mem_cons_self ..) acc _ (line_lt (by omega)) ?_
    refine w_lc_map i g (ds := ds) (acc := acc ++ [g d]) (by simp; omega) (fun d' hd' => hs d' (List.mem_cons_of_mem _ hd')) ?_
    simpa [List.append_assoc] using h
/-! ### == of lists of texts -/
theorem plains_strs : ∀ ss : List Str, D.plains (ss.map .str) = true
  | [] => rfl
  | s :: ss => by simp only [List.map_cons, D.plains, D.plain, plains_strs ss, Bool.and_self]
theorem pys_strs : ∀ ss : List Str, D.pys (ss.map .str) = ss.map .str
  | [] => rfl
  | s :: ss => by simp only [List.map_cons, D.pys, D.py, pys_strs ss]
theorem depth_strs : ∀ ss : List Str, PyData.depthAll (ss.map .str) ≤ 1
  | [] => by simp [PyData.depthAll]
  | s :: ss => by have := depth_strs ss; simp only [List.map_cons, PyData.depthAll, PyData.depth]; omega
theorem eqvAll_strs : ∀ xs ys : List Str, PyData.eqvAll (xs.map .str) (ys.map .str) = decide (xs = ys)
  | [], [] => rfl
  | [], y :: ys => by simp [PyData.eqvAll]
  | x :: xs, [] => by simp [PyData.eqvAll]
  | x :: xs, y :: ys => by
    have ih := eqvAll_strs xs ys
    simp only [List.map_cons, PyData.eqvAll, PyData.eqv, ih, List.cons.injEq, Bool.decide_and]
    congr 1
    all_goals first | rfl | (by_cases h : x = y <;> simp [h])
theorem eq_strsL (xs ys : List Str) : eqD (.lst (xs.map .str)) (.lst (ys.map .str)) = some (.bl (decide (xs = ys))) := by
  have g : (D.lst (xs.map .str)).plain = true ∧ (D.lst (ys.map .str)).plain = true ∧ min (D.lst (xs.map .str)).py.depth (D.lst (ys.map .str)).py.depth ≤ 200 := by
    refine ⟨plains_strs xs, plains_strs ys, ?_⟩
    have := depth_strs xs
    simp only [D.py, pys_strs, PyData.depth]
    omega
  simp only [eqD, eqQ, eqG]
  rw [if_pos g]
  simp only [D.py, pys_strs, PyData.eqv, eqvAll_strs, Option.map_some]
theorem ne_strsL (xs ys : List Str) : neD (.lst (xs.map .str)) (.lst (ys.map .str)) = some (.bl (!decide (xs = ys))) := by
  have g : (D.lst (xs.map .str)).plain = true ∧ (D.lst (ys.map .str)).plain = true ∧ min (D.lst (xs.map .str)).py.depth (D.lst (ys.map .str)).py.depth ≤ 200 := by
    refine ⟨plains_strs xs, plains_strs ys, ?_⟩
    have := depth_strs xs
    simp only [D.py, pys_strs, PyData.depth]
    omega
  simp only [neD, neQ, eqG]
  rw [if_pos g]
  simp only [D.py, pys_strs, PyData.eqv, eqvAll_strs, Option.map_some]
end M

namespace M
open PySem PySem.Spec PyProof.Rows L2
def pD (q : T × List Str) : D := .tup [q.1.d, .tup (q.2.map .str)]
def pL (q : T × List Str) : D := .tup [q.1.d, .lst (q.2.map .str)]
def plI : PL → List (Str × T)
  | .nil => []
  | .cons x t r => (x, t) :: plI r
def wlI : WL → List (Str × List Str × T)
  | .nil => []
  | .cons c xs t r => (c, xs, t) :: wlI r
def plD (q : Str × T) : D := .tup [.str q.1, q.2.d]
def wlD (q : Str × List Str × T) : D := .tup [.str q.1, .tup (q.2.1.map .str), q.2.2.d]
theorem pl_d : ∀ ps : PL, ps.d = (plI ps).map plD
  | .nil => rfl
  | .cons x t r => by rw [PL.d, pl_d r]; rfl
theorem wl_d : ∀ ps : WL, ps.d = (wlI ps).map wlD
  | .nil => rfl
  | .cons c xs t r => by rw [WL.d, wl_d r]; rfl
theorem pl_names : ∀ ps : PL, ps.names = (plI ps).map (·.1)
  | .nil => rfl
  | .cons x t r => by rw [PL.names, pl_names r]; rfl
theorem pl_parts (ns : List Str) : ∀ ps : PL, ps.parts ns = (plI ps).map fun q => (q.2, ns)
  | .nil => rfl
  | .cons x t r => by rw [PL.parts, pl_parts ns r]; rfl
theorem wl_parts : ∀ ps : WL, ps.parts = (wlI ps).map fun q => (q.2.2, q.2.1)
  | .nil => rfl
  | .cons c xs t r => by rw [WL.parts, wl_parts r]; rfl
theorem pl_len (ps : PL) : (plI ps).length ≤ ps.z := by
  have := ps.names_le
  rw [pl_names, List.length_map] at this
  exact this
theorem wl_len : ∀ ps : WL, (wlI ps).length ≤ ps.z
  | .nil => Nat.le_refl _
  | .cons c xs t r => by
    have := wl_len r
    have := t.z_pos
    simp only [wlI, WL.z, List.length_cons]; omega
mutual
def T.free (bd : List Str) : T → List Str
  | .num _ => []
  | .name s => if s ∈ bd then [] else [s]
  | .make _ => []
  | .app a b => a.free bd ++ b.free bd
  | .op _ a b => a.free bd ++ b.free bd
  | .fn x b => b.free (bd ++ [x])
  | .lt ps b => ps.free (bd ++ ps.names) ++ b.free (bd ++ ps.names)
  | .cs a ws => a.free bd ++ ws.free bd
def PL.free (bd : List Str) : PL → List Str
  | .nil => []
  | .cons _ t r => t.free bd ++ r.free bd
def WL.free (bd : List Str) : WL → List Str
  | .nil => []
  | .cons _ xs t r => t.free (bd ++ xs) ++ r.free bd
end
def ownN (t : T) (bd : List Str) : List Str := match t with | .name s => if s ∈ bd then [] else [s] | _ => []
def restN (bd : List Str) (qs : List (T × List Str)) : List Str := (qs.map fun q => q.1.free (bd ++ q.2)).flatten
theorem pl_free (bd ns : List Str) : ∀ ps : PL, ps.free (bd ++ ns) = restN bd (ps.parts ns)
  | .nil => rfl
  | .cons x t r => by rw [PL.free, pl_free bd ns r]; rfl
theorem wl_free (bd : List Str) : ∀ ps : WL, ps.free bd = restN bd ps.parts
  | .nil => rfl
  | .cons c xs t r => by rw [WL.free, wl_free bd r]; rfl
theorem free_eq (t : T) (bd : List Str) : t.free bd = ownN t bd ++ restN bd t.parts := by
  cases t with
  | num _ => rfl
  | name s => simp [T.free, ownN, restN, T.parts]
  | make _ => rfl
  | app a b => simp [T.free, ownN, restN, T.parts]
  | op o a b => simp [T.free, ownN, restN, T.parts]
  | fn x b => simp [T.free, ownN, restN, T.parts]
  | lt ps b => rw [T.free, pl_free]; simp [ownN, restN, T.parts]
  | cs a ws => rw [T.free, wl_free]; simp [ownN, restN, T.parts]
theorem restN_nil (bd : List Str) : restN bd [] = [] := rfl
theorem restN_cons (bd : List Str) (q : T × List Str) (qs : List (T × List Str)) : restN bd (q :: qs) = q.1.free (bd ++ q.2) ++ restN bd qs := rfl
mutual
theorem T.free_len (bd : List Str) : ∀ t : T, (t.free bd).length ≤ t.z
  | .num _ => by simp [T.free]
  | .name s => by rw [T.free]; split <;> simp [T.z]
  | .make _ => by simp [T.free]
  | .app a b => by have := a.free_len bd; have := b.free_len bd; simp only [T.free, T.z, List.length_append]; omega
  | .op _ a b => by have := a.free_len bd; have := b.free_len bd; simp only [T.free, T.z, List.length_append]; omega
  | .fn x b => by have := b.free_len (bd ++ [x]); simp only [T.free, T.z]; omega
  | .lt ps b => by have := ps.free_len (bd ++ ps.names); have := b.free_len (bd ++ ps.names); simp only [T.free, T.z, List.length_append]; omega
  | .cs a ws => by have := a.free_len bd; have := ws.free_len bd; simp only [T.free, T.z, List.length_append]; omega
theorem PL.free_len (bd : List Str) : ∀ t : PL, (t.free bd).length ≤ t.z
  | .nil => by simp [PL.free]
  | .cons _ t r => by have := t.free_len bd; have := r.free_len bd; simp only [PL.free, PL.z, List.length_append]; omega
theorem WL.free_len (bd : List Str) : ∀ t : WL, (t.free bd).length ≤ t.z
  | .nil => by simp [WL.free]
  | .cons _ xs t r => by have := t.free_len (bd ++ xs); have := r.free_len bd; simp only [WL.free, WL.z, List.length_append]; omega
end
theorem restN_len (bd : List Str) : ∀ qs : List (T × List Str), (restN bd qs).length ≤ (qs.map fun q => q.1.z).sum
  | [] => by simp [restN]
  | q :: qs => by
    have := q.1.free_len (bd ++ q.2)
    have := restN_len bd qs
    rw [restN_cons, List.length_append, List.map_cons, List.sum_cons]; omega
mutual
theorem T.free_small : ∀ {t : T} {bd : List Str}, t.Ok → ∀ s ∈ t.free bd, SmallN s
  | .num _, bd, ok, s, h => by simp [T.free] at h
  | .name x, bd, ok, s, h => by
    rw [T.free] at h
    split at h
    · exact nomatch h
    · rw [List.mem_singleton.mp h]; exact ok
  | .make _, bd, ok, s, h => by simp [T.free] at h
  | .app a b, bd, ok, s, h => by
    rw [T.free] at h
    rcases List.mem_append.mp h with h | h
    · exact T.free_small ok.1 s h
    · exact T.free_small ok.2 s h
  | .op _ a b, bd, ok, s, h => by
    rw [T.free] at h
    rcases List.mem_append.mp h with h | h
    · exact T.free_small ok.2.1 s h
    · exact T.free_small ok.2.2 s h
  | .fn x b, bd, ok, s, h => by rw [T.free] at h; exact T.free_small ok.2 s h
  | .lt ps b, bd, ok, s, h => by
    rw [T.free] at h
    rcases List.mem_append.mp h with h | h
    · exact PL.free_small ok.2.2.1 s h
    · exact T.free_small ok.2.2.2 s h
  | .cs a ws, bd, ok, s, h => by
    rw [T.free] at h
    rcases List.mem_append.mp h with h | h
    · exact T.free_small ok.1 s h
    · exact WL.free_small ok.2.2 s h
theorem PL.free_small : ∀ {t : PL} {bd : List Str}, t.Ok → ∀ s ∈ t.free bd, SmallN s
  | .nil, _, _, s, h => by simp [PL.free] at h
  | .cons x t r, bd, ok, s, h => by
    rw [PL.free] at h
    rcases List.mem_append.mp h with h | h
    · exact T.free_small ok.2.1 s h
    · exact PL.free_small ok.2.2 s h
theorem WL.free_small : ∀ {t : WL} {bd : List Str}, t.Ok → ∀ s ∈ t.free bd, SmallN s
  | .nil, _, _, s, h => by simp [WL.free] at h
  | .cons c xs t r, bd, ok, s, h => by
    rw [WL.free] at h
    rcases List.mem_append.mp h with h | h
    · exact T.free_small ok.2.2.2.2.1 s h
    · exact WL.free_small ok.2.2.2.2.2 s h
end
theorem nm_sOk {s : Str} (h : Nm s) : sOk s := fun c hc => by have := h.1 c hc; omega
/-! ### keys of a dict -/
def repK (ks : List Str) : List (Key × D) := ks.map fun s => (.inr s, .bl true)
def ddK (ks : List Str) (s : Str) : List Str := if s ∈ ks then ks else ks ++ [s]
theorem putG_rep (ks : List Str) (s : Str) : putG (repK ks) (.inr s) (.bl true) = repK (ddK ks s) := by
  unfold putG ddK repK
  have e : ((ks.map fun s => ((.inr s : Key), D.bl true)).any fun kv => decide (kv.1 = .inr s)) = decide (s ∈ ks) := by
    induction ks with
    | nil => rfl
    | cons k ks ih =>
      simp only [List.map_cons, List.any_cons, ih, List.mem_cons, Bool.decide_or, Sum.inr.injEq]
      congr 1
      exact decide_eq_decide.mpr eq_comm
  rw [e]
  by_cases h : s ∈ ks
  · simp only [h, decide_true, if_true]
    rw [List.map_map]
    refine List.map_congr_left fun x hx => ?_
    simp only [Function.comp_apply]
    split
    · rename_i hh; cases hh; rfl
    · rfl
  · simp only [h, decide_false, Bool.false_eq_true, if_false, List.map_append, List.map_cons, List.map_nil]
theorem ddK_len (ks : List Str) (s : Str) : (ddK ks s).length ≤ ks.length + 1 := by
  unfold ddK; split <;> simp
theorem dd_len : ∀ (xs ks : List Str), (xs.foldl ddK ks).length ≤ ks.length + xs.length
  | [], ks => by simp
  | x :: xs, ks => by
    have := dd_len xs (ddK ks x)
    have := ddK_len ks x
    simp only [List.foldl_cons, List.length_cons]; omega
theorem dd_mem : ∀ (xs ks : List Str) (s : Str), s ∈ xs.foldl ddK ks ↔ s ∈ ks ∨ s ∈ xs
  | [], ks, s => by simp
  | x :: xs, ks, s => by
    rw [List.foldl_cons, dd_mem xs]
    unfold ddK
    split
    · rename_i h
      simp only [List.mem_cons]
      constructor
      · rintro (a | a)
        · exact .inl a
        · exact .inr (.inr a)
      · rintro (a | rfl | a)
        · exact .inl a
        · exact .inl h
        · exact .inr a
    · simp only [List.mem_append, List.mem_cons, List.not_mem_nil, or_false, or_assoc]
theorem dd_nodup : ∀ (xs ks : List Str), ks.Nodup → (xs.foldl ddK ks).Nodup
  | [], ks, h => h
  | x :: xs, ks, h => by
    rw [List.foldl_cons]
    refine dd_nodup xs _ ?_
    unfold ddK
    split
    · exact h
    · rename_i hx
      exact List.nodup_append.mpr ⟨h, List.nodup_cons.mpr ⟨List.not_mem_nil, List.nodup_nil⟩, fun a ha b hb e => hx (by rw [List.mem_singleton.mp hb] at e; rw [← e]; exact ha)⟩
theorem keys_rep : ∀ ks : List Str, keysS (repK ks) = some ks
  | [] => rfl
  | k :: ks => by
    have := keys_rep ks
    simp only [repK, List.map_cons, keysS] at this ⊢
    rw [this]; rfl
def T.tag : T → String
  | .num _ => "num"
  | .name _ => "name"
  | .make _ => "make"
  | .app _ _ => "app"
  | .op _ _ _ => "op"
  | .fn _ _ => "fun"
  | .lt _ _ => "let"
  | .cs _ _ => "case"
theorem tag_d : ∀ t : T, ∃ r : List D, t.d = .tup (.str t.tag :: r)
  | .num _ => ⟨_, rfl⟩
  | .name _ => ⟨_, rfl⟩
  | .make _ => ⟨_, rfl⟩
  | .app _ _ => ⟨_, rfl⟩
  | .op _ _ _ => ⟨_, rfl⟩
  | .fn _ _ => ⟨_, rfl⟩
  | .lt _ _ => ⟨_, rfl⟩
  | .cs _ _ => ⟨_, rfl⟩
theorem name_or (t : T) : (∃ s, t = .name s) ∨ (t.tag ≠ "name" ∧ ∀ bd, ownN t bd = []) := by
  cases t with
  | name s => exact .inl ⟨s, rfl⟩
  | _ => exact .inr ⟨by simp [T.tag], fun _ => rfl⟩
theorem dd_sorted : ∀ (xs ks : List Str), (ks ++ xs).Pairwise leS → (xs.foldl ddK ks).Pairwise leS
  | [], ks, h => by simpa using h
  | x :: xs, ks, h => by
    rw [List.foldl_cons]
    refine dd_sorted xs _ ?_
    unfold ddK
    split
    · exact h.sublist (List.Sublist.append (List.Sublist.refl _) (List.sublist_cons_self x xs))
    · simpa [List.append_assoc] using h
theorem dd_sort (xs : List Str) : (sortS xs).foldl ddK [] = sortS (xs.foldl ddK []) := by
  refine sorted_unique ?_ (dd_sorted _ [] (by simpa using sortS_sorted xs)) (sortS_sorted _)
  refine (List.perm_ext_iff_of_nodup (dd_nodup _ _ List.nodup_nil) ((sortS_perm _).nodup_iff.mpr (dd_nodup _ _ List.nodup_nil))).mpr fun s => ?_
  rw [dd_mem, (sortS_perm _).mem_iff, (sortS_perm _).mem_iff, dd_mem]
theorem d_sortedL (ss : List Str) : sortedD [.lst (ss.map D.str)] = some (.lst ((sortS ss).map .str)) := by
  simp only [sortedD, sortedO, strsOf_map, Option.map_some, Option.bind_some, see_lst]
theorem o_sortedK (ks : List Str) (h : ∀ s ∈ ks, sOk s) : sortedO [.dic (repK ks)] = some (.lst ((sortS ks).map .str)) := by
  simp only [sortedO, keys_rep, Option.bind_some]
  rw [if_pos h]
theorem d_isaL (ds : List D) : isaD [.lst ds, .ty "list"] = some (.bl true) := rfl
end M

namespace M
open PySem PySem.Spec PyProof.Rows L2
/-! ### == of deeper data, where there is room -/
def eqGw (a b : D) : Option Bool := if a.plain = true ∧ b.plain = true ∧ min a.py.depth b.py.depth ≤ 1000 then some (PyData.eqv a.py b.py) else none
def eqQw : D → D → Option Bool
  | .str a, .str b => some (decide (a = b))
  | .int a, .int b => some (decide (a = b))
  | .tup xs, .tup [] => some xs.isEmpty
  | a, b => eqGw a b
def eqW (a b : D) : Option D := (eqQw a b).map .bl
def neQw : D → D → Option Bool
  | .str a, .str b => some (decide (a = b))
  | .int a, .int b => some (decide (a = b))
  | a, b => eqGw a b
def neW (a b : D) : Option D := (neQw a b).map fun k => .bl (!k)
def NeValsW (K : PySem.W.Frag) (H : Hp) (x y : V) (b : Bool) : Prop :=
  (∃ i j, x = .str i ∧ y = .str j ∧ b = decide (i = j)) ∨ (∃ i j, x = .int i ∧ y = .int j ∧ b = decide (i = j)) ∨
  ∃ F dx dy, Same F H ∧ RpO K F H x dx ∧ RpO K F H y dy ∧ dx.plain = true ∧ dy.plain = true ∧ min dx.py.depth dy.py.depth ≤ 1000 ∧ b = PyData.eqv dx.py dy.py
def EqValsW (K : PySem.W.Frag) (H : Hp) (x y : V) (b : Bool) : Prop := (∃ p q xs, x = .ref p ∧ y = .ref q ∧ SqT K H p xs ∧ SqT K H q [] ∧ b = xs.isEmpty) ∨ NeValsW K H x y b
def rEqW (K : PySem.W.Frag) : R2 := fun x y H Q => ∃ b, EqValsW K H x y b ∧ Q (.bl b) H
def rNeW (K : PySem.W.Frag) : R2 := fun x y H Q => ∃ b, NeValsW K H x y b ∧ Q (.bl (!b)) H
section
variable {X : Cx}
theorem op_eqW (hu : X.A.units + 1000 < cLine) : OpR X (compareOp .Eq) (rEqW X.K) := by
  intro pins s σ H x y v u Q I rx ry h
  obtain ⟨b, h, q⟩ := h
  rcases h with h | h | h | ⟨F, dx, dy, sf, h1, h2, p1, p2, hz, rfl⟩
  · exact op_eqX (by omega) pins s σ H x y v u Q I rx ry ⟨b, .inl h, q⟩
  · exact op_eqX (by omega) pins s σ H x y v u Q I rx ry ⟨b, .inr (.inl h), q⟩
  · exact op_eqX (by omega) pins s σ H x y v u Q I rx ry ⟨b, .inr (.inr (.inl h)), q⟩
  · obtain ⟨⟨as, q1⟩, l1⟩ := rpo_reads I sf p1 h1 rx
    obtain ⟨⟨bs, q2⟩, l2⟩ := rpo_reads I sf p2 h2 ry
    exact SeqAt.compareEq_reads q1 q2 l1 l2 (by omega) ⟨.bl _, H, I, rfl, q⟩
theorem op_neW (hu : X.A.units + 1000 < cLine) : OpR X (compareOp .NotEq) (rNeW X.K) := by
  intro pins s σ H x y v u Q I rx ry h
  obtain ⟨b, h, q⟩ := h
  rcases h with h | h | ⟨F, dx, dy, sf, h1, h2, p1, p2, hz, rfl⟩
  · exact op_neX (by omega) pins s σ H x y v u Q I rx ry ⟨b, .inl h, q⟩
  · exact op_neX (by omega) pins s σ H x y v u Q I rx ry ⟨b, .inr (.inl h), q⟩
  · obtain ⟨⟨as, q1⟩, l1⟩ := rpo_reads I sf p1 h1 rx
    obtain ⟨⟨bs, q2⟩, l2⟩ := rpo_reads I sf p2 h2 ry
    exact SeqAt.compareNe_reads q1 q2 l1 l2 (by omega) ⟨.bl _, H, I, rfl, q⟩
end
theorem eqGw_vals {K : PySem.W.Frag} {F H : Hp} {x y : V} {dx dy : D} {b : Bool} (sf : Same F H) (rx : RpO K F H x dx) (ry : RpO K F H y dy) (h : eqGw dx dy = some b) : NeValsW K H x y b := by
  unfold eqGw at h
  split at h
  · rename_i hz
    cases h
    exact .inr (.inr ⟨F, dx, dy, sf, rx, ry, hz.1, hz.2.1, hz.2.2, rfl⟩)
  · cases h
theorem neQw_vals {K : PySem.W.Frag} {F H : Hp} {x y : V} {dx dy : D} {b : Bool} (sf : Same F H) (rx : RpO K F H x dx) (ry : RpO K F H y dy) (h : neQw dx dy = some b) : NeValsW K H x y b := by
  unfold neQw at h
  split at h
  · cases h; exact .inl ⟨_, _, rx.str.1, ry.str.1, rfl⟩
  · cases h; exact .inr (.inl ⟨_, _, rx.int, ry.int, rfl⟩)
  · exact eqGw_vals sf rx ry h
theorem eqQw_vals {K : PySem.W.Frag} {F H : Hp} {x y : V} {dx dy : D} {b : Bool} (sf : Same F H) (rx : RpO K F H x dx) (ry : RpO K F H y dy) (h : eqQw dx dy = some b) : EqValsW K H x y b := by
  unfold eqQw at h
  split at h
  · cases h; exact .inr (.inl ⟨_, _, rx.str.1, ry.str.1, rfl⟩)
  · cases h; exact .inr (.inr (.inl ⟨_, _, rx.int, ry.int, rfl⟩))
  · cases h
    obtain ⟨p, us, e1, t1, _, r1⟩ := rx.tup' sf
    obtain ⟨q, ws, e2, t2, _, r2⟩ := ry.tup' sf
    cases r2
    refine .inl ⟨p, q, us, e1, e2, t1, t2, ?_⟩
    cases r1 <;> rfl
  · exact .inr (eqGw_vals sf rx ry h)
theorem om_eqW {K : PySem.W.Frag} : OpM K (rEqW K) eqW := by
  intro B F e σ H x y dx dy d Q I rx ry hf q
  obtain ⟨b, h1, h2⟩ := Option.map_eq_some_iff.mp hf
  subst h2
  exact ⟨b, eqQw_vals I.sf rx ry h1, q F _ H (Same.refl F) I (.bl _)⟩
theorem om_neW {K : PySem.W.Frag} : OpM K (rNeW K) neW := by
  intro B F e σ H x y dx dy d Q I rx ry hf q
  obtain ⟨b, h1, h2⟩ := Option.map_eq_some_iff.mp hf
  subst h2
  exact ⟨b, neQw_vals I.sf rx ry h1, q F _ H (Same.refl F) I (.bl _)⟩
theorem hu1000 {A : Around} {k : Nat} (hr : RoomT k A) (hk : 160 ≤ k := by decide) : A.units + 1000 < cLine := by have := hr.un; omega
section
variable {X : Cx} {K : PySem.W.Frag}
theorem oeqW (hu : X.A.units + 1000 < cLine) (hK : X.K = K := by rfl) : OpR X (compareOp .Eq) (rEqW K) := by subst hK; exact op_eqW hu
theorem oneW (hu : X.A.units + 1000 < cLine) (hK : X.K = K := by rfl) : OpR X (compareOp .NotEq) (rNeW K) := by subst hK; exact op_neW hu
end
/-! ### data are like themselves -/
mutual
theorem eqv_refl : ∀ d : D, d.plain = true → PyData.eqv d.py d.py = true
  | .non, _ => by simp [D.py, PyData.eqv]
  | .bl b, _ => by simp [D.py, PyData.eqv]
  | .int i, _ => by simp [D.py, PyData.eqv]
  | .str s, _ => by simp [D.py, PyData.eqv]
  | .lst xs, h => by rw [D.plain] at h; simp only [D.py, PyData.eqv]; exact eqvs_refl xs h
  | .tup xs, h => by rw [D.plain] at h; simp only [D.py, PyData.eqv]; exact eqvs_refl xs h
  | .dic _, h => by rw [D.plain] at h; cases h
  | .ty _, h => by rw [D.plain] at h; cases h
  | .fn _, h => by rw [D.plain] at h; cases h
theorem eqvs_refl : ∀ ds : List D, D.plains ds = true → PyData.eqvAll (D.pys ds) (D.pys ds) = true
  | [], _ => by simp [D.pys, PyData.eqvAll]
  | d :: ds, h => by
    rw [D.plains, Bool.and_eq_true] at h
    simp only [D.pys, PyData.eqvAll, eqv_refl d h.1, eqvs_refl ds h.2, Bool.and_self]
end
mutual
theorem T.plain : ∀ t : T, t.d.plain = true
  | .num _ => rfl
  | .name _ => rfl
  | .make _ => rfl
  | .app a b => by simp only [T.d, D.plain, D.plains, a.plain, b.plain, Bool.and_self]
  | .op _ a b => by simp only [T.d, D.plain, D.plains, a.plain, b.plain, Bool.and_self]
  | .fn _ b => by simp only [T.d, D.plain, D.plains, b.plain, Bool.and_self]
  | .lt ps b => by simp only [T.d, D.plain, D.plains, ps.plain, b.plain, Bool.and_self]
  | .cs a ws => by simp only [T.d, D.plain, D.plains, a.plain, ws.plain, Bool.and_self]
theorem PL.plain : ∀ t : PL, D.plains t.d = true
  | .nil => rfl
  | .cons x t r => by simp only [PL.d, D.plain, D.plains, t.plain, r.plain, Bool.and_self]
theorem WL.plain : ∀ t : WL, D.plains t.d = true
  | .nil => rfl
  | .cons c xs t r => by simp only [WL.d, D.plain, D.plains, t.plain, r.plain, plains_strs, Bool.and_self]
end
mutual
theorem T.depth : ∀ t : T, t.d.py.depth ≤ 3 * t.h + 1
  | .num _ => by simp [T.d, T.h, D.py, D.pys, PyData.depth, PyData.depthAll]
  | .name _ => by simp [T.d, T.h, D.py, D.pys, PyData.depth, PyData.depthAll]
  | .make _ => by simp [T.d, T.h, D.py, D.pys, PyData.depth, PyData.depthAll]
  | .app a b => by have := a.depth; have := b.depth; simp only [T.d, T.h, D.py, D.pys, PyData.depth, PyData.depthAll]; omega
  | .op _ a b => by have := a.depth; have := b.depth; simp only [T.d, T.h, D.py, D.pys, PyData.depth, PyData.depthAll]; omega
  | .fn _ b => by have := b.depth; simp only [T.d, T.h, D.py, D.pys, PyData.depth, PyData.depthAll]; omega
  | .lt ps b => by have := ps.depth; have := b.depth; simp only [T.d, T.h, D.py, D.pys, PyData.depth, PyData.depthAll]; omega
  | .cs a ws => by have := a.depth; have := ws.depth; simp only [T.d, T.h, D.py, D.pys, PyData.depth, PyData.depthAll]; omega
theorem PL.depth : ∀ t : PL, PyData.depthAll (D.pys t.d) ≤ 3 * t.h + 2
  | .nil => by simp [PL.d, D.pys, PyData.depthAll]
  | .cons x t r => by have := t.depth; have := r.depth; simp only [PL.d, PL.h, D.py, D.pys, PyData.depth, PyData.depthAll]; omega
theorem WL.depth : ∀ t : WL, PyData.depthAll (D.pys t.d) ≤ 3 * t.h + 2
  | .nil => by simp [WL.d, D.pys, PyData.depthAll]
  | .cons c xs t r => by have := t.depth; have := r.depth; have := depth_strs xs; have := t.h_pos; simp only [WL.d, WL.h, D.py, D.pys, PyData.depth, PyData.depthAll, pys_strs]; omega
end
theorem eqW_self {d : D} (hp : d.plain = true) (hd : d.py.depth ≤ 1000) : eqW d d = some (.bl true) := by
  have g : eqGw d d = some true := by
    unfold eqGw
    rw [if_pos ⟨hp, hp, by omega⟩, eqv_refl d hp]
  unfold eqW eqQw
  split
  · simp
  · simp
  · rfl
  · rw [g]; rfl
theorem eq_self200 {d : D} (hp : d.plain = true) (hd : d.py.depth ≤ 200) : eqD d d = some (.bl true) := by
  have g : eqG d d = some true := by
    unfold eqG
    rw [if_pos ⟨hp, hp, by omega⟩, eqv_refl d hp]
  unfold eqD eqQ
  split
  · simp
  · simp
  · rfl
  · rw [g]; rfl
theorem d_eqWS (a b : Str) : eqW (.str a) (.str b) = some (.bl (decide (a = b))) := rfl
theorem d_neWS (a b : Str) : neW (.str a) (.str b) = some (.bl (!decide (a = b))) := rfl
theorem d_eqWI (a b : Int) : eqW (.int a) (.int b) = some (.bl (decide (a = b))) := rfl
theorem d_neWI (a b : Int) : neW (.int a) (.int b) = some (.bl (!decide (a = b))) := rfl
theorem d_eqWT (xs : List D) : eqW (.tup xs) (.tup []) = some (.bl xs.isEmpty) := rfl
/-! ### a closed term put for a name -/
mutual
def T.put (x : Str) (c : T) : T → T
  | .num i => .num i
  | .name s => if s = x then c else .name s
  | .make s => .make s
  | .app a b => .app ((T.put x c a)) ((T.put x c b))
  | .op o a b => .op o ((T.put x c a)) ((T.put x c b))
  | .fn y b => if y = x then .fn y b else .fn y ((T.put x c b))
  | .lt ps b => if x ∈ ps.names then .lt ps b else .lt ((PL.put x c ps)) ((T.put x c b))
  | .cs a ws => .cs ((T.put x c a)) ((WL.put x c ws))
def PL.put (x : Str) (c : T) : PL → PL
  | .nil => .nil
  | .cons y t r => .cons y ((T.put x c t)) ((PL.put x c r))
def WL.put (x : Str) (c : T) : WL → WL
  | .nil => .nil
  | .cons k xs t r => .cons k xs (if x ∈ xs then t else (T.put x c t)) ((WL.put x c r))
end
mutual
theorem T.put_h (x : Str) (c : T) : ∀ t : T, (T.put x c t).h ≤ t.h + c.h
  | .num i => by simp [T.put, T.h]
  | .name s => by rw [T.put]; split <;> simp [T.h]
  | .make s => by simp [T.put, T.h]
  | .app a b => by have := T.put_h x c a; have := T.put_h x c b; simp only [T.put, T.h]; omega
  | .op o a b => by have := T.put_h x c a; have := T.put_h x c b; simp only [T.put, T.h]; omega
  | .fn y b => by have := T.put_h x c b; rw [T.put]; split <;> simp only [T.h] <;> omega
  | .lt ps b => by have := PL.put_h x c ps; have := T.put_h x c b; rw [T.put]; split <;> simp only [T.h] <;> omega
  | .cs a ws => by have := T.put_h x c a; have := WL.put_h x c ws; simp only [T.put, T.h]; omega
theorem PL.put_h (x : Str) (c : T) : ∀ t : PL, ((PL.put x c t)).h ≤ t.h + c.h
  | .nil => by simp [PL.put, PL.h]
  | .cons y t r => by have := T.put_h x c t; have := PL.put_h x c r; simp only [PL.put, PL.h]; omega
theorem WL.put_h (x : Str) (c : T) : ∀ t : WL, ((WL.put x c t)).h ≤ t.h + c.h
  | .nil => by simp [WL.put, WL.h]
  | .cons k xs t r => by
    have := T.put_h x c t
    have := WL.put_h x c r
    simp only [WL.put, WL.h]
    split <;> omega
end
theorem pl_put (x : Str) (c : T) : ∀ ps : PL, ((PL.put x c ps)).d = (plI ps).map fun q => plD (q.1, (T.put x c q.2))
  | .nil => rfl
  | .cons y t r => by simp only [PL.put, PL.d, plI, List.map_cons, pl_put x c r]; rfl
theorem wl_put (x : Str) (c : T) : ∀ ps : WL, (WL.put x c ps).d = (wlI ps).map fun q => wlD (q.1, q.2.1, if x ∈ q.2.1 then q.2.2 else T.put x c q.2.2)
  | .nil => rfl
  | .cons k xs t r => by
    have := wl_put x c r
    simp only [WL.put, WL.d, wlI, List.map_cons, this, wlD]
theorem pl_mem : ∀ {ps : PL} {q : Str × T}, q ∈ plI ps → q.2.h ≤ ps.h ∧ q.2.z ≤ ps.z
  | .nil, _, h => nomatch h
  | .cons x t r, q, h => by
    simp only [PL.h, PL.z]
    rcases List.mem_cons.mp h with rfl | h
    · simp only; omega
    · have := pl_mem h; omega
theorem wl_mem : ∀ {ps : WL} {q : Str × List Str × T}, q ∈ wlI ps → q.2.2.h ≤ ps.h ∧ q.2.2.z ≤ ps.z
  | .nil, _, h => nomatch h
  | .cons c xs t r, q, h => by
    simp only [WL.h, WL.z]
    rcases List.mem_cons.mp h with rfl | h
    · simp only; omega
    · have := wl_mem h; omega
/-! ### by number -/
theorem ixN_nat {n k : Nat} (h : k < n) : ixN n ((k : Nat) : Int) = some k := by
  simp only [ixN]
  rw [if_pos (by omega), if_pos (by omega)]
  simp
theorem ixT_nat {xs : List D} {k : Nat} (h : k < xs.length) : ixD (.tup xs) (.int (0 + (k : Nat))) = some (xs.getD k .non) := by
  rw [Int.zero_add]
  simp only [ixD, atI, ixN_nat h, Option.bind_some, List.getD_eq_getElem?_getD]
  rw [List.getElem?_eq_getElem h]; rfl
theorem ixL_nat {xs : List D} {k : Nat} (h : k < xs.length) : ixD (.lst xs) (.int (0 + (k : Nat))) = some (xs.getD k .non) := by
  rw [Int.zero_add]
  simp only [ixD, atI, ixN_nat h, Option.bind_some, List.getD_eq_getElem?_getD]
  rw [List.getElem?_eq_getElem h]; rfl
theorem ixL_nat1 {x : D} {xs : List D} {k : Nat} (h : k < xs.length) : ixD (.lst (x :: xs)) (.int (0 + (k : Nat) + 1)) = some (xs.getD k .non) := by
  have e : ((0 : Int) + (k : Nat) + 1) = 0 + ((k + 1 : Nat) : Nat) := by omega
  rw [e, ixL_nat (by simpa using h)]
  rfl
theorem ixL_last (xs : List D) (y : D) : ixD (.lst (xs ++ [y])) (.int (-1)) = some y := by
  have h : ixN (xs ++ [y]).length (-1) = some xs.length := by
    simp only [ixN, List.length_append, List.length_cons, List.length_nil]
    rw [if_neg (by omega), if_pos (by omega)]
    congr 1
    omega
  simp only [ixD, atI, h, Option.bind_some]
  simp
theorem rng_getD {α β : Type} (L : List α) (a : α) (F : α → β) : ((List.range L.length).map fun k => F (L.getD k a)) = L.map F := by
  apply List.ext_getElem
  · simp
  · intro i h1 h2
    have h3 : i < L.length := by simpa using h1
    simp [h3]
theorem getD_map {α : Type} (L : List α) (F : α → D) (k : Nat) (a : α) (h : k < L.length) : (L.map F).getD k .non = F (L.getD k a) := by
  simp [h]
theorem rng_okI {k : Int} (h0 : 0 ≤ k) (h : k ≤ 8000000) : -4611686018427387904 ≤ k ∧ k < 4611686018427387904 := ⟨by omega, by omega⟩
theorem rng_ok {n : Nat} (h : n ≤ 8000000) : -4611686018427387904 ≤ (n : Int) ∧ (n : Int) < 4611686018427387904 := rng_okI (Int.natCast_nonneg n) (Int.ofNat_le.mpr h)
theorem rngD_nat (n : Nat) : rngD 0 ((n : Int).toNat) = (List.range n).map fun k => D.int (0 + (k : Nat)) := by rw [Int.toNat_natCast]; rfl
end M

set_option maxHeartbeats 4000000
/-! ### t[::-1] -/
namespace HT
open PySem PySem.Spec PyProof.Rows L2
section
variable {prog : Program} {w : World} {A : Around} {E : Value → Shared → Prop} {s : Shared}
theorem sliceApplied_rev {sl : Addr} {u : Tok} {n : Nat} {Q : Int × Int × Nat → Shared → Prop} (hs : s.heap.IsSliceOf sl .none .none (.int (-1) u))
    (h : Q ((n : Int) - 1, -1, n) s) : wpAny (model prog w) A (Builtin.Slice.sliceApplied (.ref sl) (pure (n : Int))) Q E s := by
  obtain ⟨os, hos, hcs, hds⟩ := id hs
  unfold Builtin.Slice.sliceApplied Builtin.Slice.sliceFields
  refine wpAny_bind (wpAny_bind (wpAny_field hos hds (x := .none) rfl (wpAny_bind (wpAny_field hos hds (x := .none) rfl (wpAny_bind (wpAny_field hos hds (x := .int (-1) u) rfl (wpAny_pure ?_)))))))
  refine wpAny_bind (slicePart_int ?_)
  show wpAny _ _ (if ((-1 : Int) == 0) = true then _ else _) _ _ s
  rw [if_neg (by decide)]
  refine wpAny_bind (slicePart_none (wpAny_bind (slicePart_none (wpAny_bind (wpAny_pure ?_)))))
  show wpAny _ _ (match Builtin.Slice.sliceAdjust none none (-1) (n : Int) with | (lo, hi) => pure (lo, (-1 : Int), Builtin.Slice.slicePlaces lo hi (-1))) _ _ s
  have e : Builtin.Slice.sliceAdjust none none (-1) (n : Int) = ((n : Int) - 1, -1) := by
    unfold Builtin.Slice.sliceAdjust
    rfl
  rw [e]
  show wpAny _ _ (pure ((n : Int) - 1, (-1 : Int), Builtin.Slice.slicePlaces ((n : Int) - 1) (-1) (-1))) _ _ s
  have e2 : Builtin.Slice.slicePlaces ((n : Int) - 1) (-1) (-1) = n := by
    unfold Builtin.Slice.slicePlaces
    simp only [show ¬ ((-1 : Int) > 0) by omega, if_false, Int.neg_neg, Int.ediv_one]
    split <;> omega
  rw [e2]
  exact wpAny_pure h
theorem fm_some {α β : Type} {f : α → Option β} {g : α → β} : ∀ {l : List α}, (∀ m ∈ l, f m = some (g m)) → l.filterMap f = l.map g
  | [], _ => rfl
  | a :: l, h => by
    rw [List.filterMap_cons, h a (List.mem_cons_self ..), List.map_cons, fm_some fun m hm => h m (List.mem_cons_of_mem _ hm)]
theorem pick_rev (xs : Array Value) : ((List.range xs.size).filterMap fun (m : Nat) => xs[(((xs.size : Nat) : Int) - 1 + (m : Int) * -1).toNat]?).toArray = xs.toList.reverse.toArray := by
  congr 1
  have e : (List.range xs.size).filterMap (fun (m : Nat) => xs[(((xs.size : Nat) : Int) - 1 + (m : Int) * -1).toNat]?) = (List.range xs.size).map fun m => xs.toList.getD (xs.size - 1 - m) .none := by
    refine fm_some fun m hm => ?_
    have hm : m < xs.size := List.mem_range.mp hm
    have e1 : (((xs.size : Nat) : Int) - 1 + (m : Int) * -1).toNat = xs.size - 1 - m := by omega
    rw [e1]
    have hl : xs.size - 1 - m < xs.size := by omega
    simp [List.getD_eq_getElem?_getD, hl]
  rw [e]
  apply List.ext_getElem
  · simp
  · intro i h1 h2
    have hi : i < xs.size := by simpa using h1
    simp only [List.getElem_map, List.getElem_range, List.getElem_reverse, List.getD_eq_getElem?_getD]
    have hl : xs.size - 1 - i < xs.toList.length := by rw [Array.length_toList]; omega
    rw [List.getElem?_eq_getElem hl]
    simp
theorem getItem_tuple_rev {t sl : Addr} {items : Array Value} {u : Tok} {Q : Value → Shared → Prop} (ht : IsTup s.heap t items) (hs : s.heap.IsSliceOf sl .none .none (.int (-1) u))
    (h : Q (.ref s.heap.objs.size) { s with heap := s.heap.push { cls := .type "tuple", data := .seq items.toList.reverse.toArray } })
    (hsz : items.size ≤ sizeLine) : wpAny (model prog w) A (getItem (.ref t) (.ref sl)) Q E s := by
  have htake : sizeOk (.seq items.toList.reverse.toArray) := by
    show items.toList.reverse.toArray.size ≤ sizeLine
    simpa using hsz
  obtain ⟨os, hos, hcs, hds⟩ := id hs
  have hTs : s.TypeIs (.ref sl) "slice" := ⟨os, hos, hcs⟩
  unfold getItem
  try with_reducible refine wpAny_holding ?_
  first | refine wpAny_bind (wpAny_pure ?_) | skip
  refine wpAny_bind (wpAny_sequenceKey ht.typeIs (by decide) ?_)
  refine wpAny_bind (wpAny_callSpecial?_slot (name := Str.ofString "__getitem__") ht.typeIs PyProof.Rows.slot_tuple_getitem
    (wpAny_call_entry PyProof.Rows.slot_tuple_getitem ht.typeIs entry_tuple_getitem ?_ (args_tuple_getitem _ _)))
  show wpAny _ _ (Builtin.Tuple.tupleItemsOf (.ref t) >>= _) _ _ s
  refine wpAny_bind (tupleItemsOf_ ht ?_)
  refine wpAny_bind (wpAny_typeOf hTs ?_)
  rw [if_pos (by decide)]
  refine wpAny_bind (sliceApplied_rev hs ?_)
  show wpAny _ _ (if ((((items.size : Nat) : Int) - 1) == 0 && (-1 : Int) == 1 && items.size == items.size) = true then _ else _) _ _ s
  rw [if_neg (by simp), pick_rev]
  first
    | exact wpAny_bind (m := Builtin.Tuple.tupleExact _) (wpAny_newObj_type (wpAny_pure ⟨_, rfl, wpAny_pure h⟩) htake)
    | exact wpAny_bind (m := Builtin.Tuple.tupleExact _) (wpAny_newObj_type (wpAny_bind (wpAny_pure (wpAny_pure ⟨_, rfl, wpAny_pure h⟩))) htake)
    | exact wpAny_bind (wpAny_bind (m := Builtin.Tuple.tupleExact _) (wpAny_newObj_type (wpAny_pure (wpAny_pure ⟨_, rfl, wpAny_pure h⟩)) htake))
    | exact wpAny_bind (wpAny_bind (m := Builtin.Tuple.tupleExact _) (wpAny_newObj_type (wpAny_pure ⟨_, rfl, wpAny_pure h⟩) htake))
end
end HT
namespace M
open PySem PySem.Spec PyProof.Rows L2
def tRevT (K : PySem.W.Frag) (te : TE) : TE := fun σ H Q => te σ H fun x H1 => ∃ a xs, x = .ref a ∧ SqT K H1 a xs ∧ ∀ p, H1 p = none → Q (.ref p) (upd H1 p (.tup xs.reverse))
theorem pe_revT {X : Cx} {e : Expr} {te : TE} {k : Nat} {p1 p2 p3 pos : Pos} (he : PE X e te) : PE X (.Subscript e (.Slice none none (some (.UnaryOp .USub (.Constant (.int 1) k p1) p2)) p3) pos) (tRevT X.K te) := by
  refine ⟨fun pins s σ H Q I h => ?_⟩
  refine Subscript_ (thn (he.run pins s σ H _ I h) fun v s1 ⟨x, H1, I1, r1, q1⟩ => ?_)
  obtain ⟨a, xs, ex, hx, q⟩ := q1
  subst ex
  cases r1
  have hst : PO X (some (.UnaryOp .USub (.Constant (.int 1) k p1) p2)) (tPart (tUn (rU fun i => .int (-i)) (tC (.int 1)))) := po_some (pe_un un_neg pe_int)
  refine wpAny_Slice (thn (po_none.run pins s1 σ H1 (fun o H2 => o = none ∧ H2 = H1) I1 ⟨rfl, rfl⟩) fun vl s2 ⟨l, H2, I2, pl, el, e2⟩ => ?_)
  subst el e2
  refine thn (po_none.run pins s2 σ H2 (fun o H3 => o = none ∧ H3 = H2) I2 ⟨rfl, rfl⟩) fun vu s3 ⟨u, H3, I3, pu, eu, e3⟩ => ?_
  subst eu e3
  refine thn (hst.run pins s3 σ H3 (fun o H4 => o = some (-1) ∧ H4 = H3) I3 ⟨1, rfl, -1, rfl, rfl, rfl⟩) fun vs s4 ⟨o, H4, I4, ps, eo, e4⟩ => ?_
  subst eo e4
  have I5 : Inv X pins σ H4 { s4 with heap := s4.heap.push { cls := .type "slice", data := .fields #[vl, vu, vs] } } := I4.kept (t' := s4.toks) fun b ob q => Heap.get?_push_of_some _ q
  obtain ⟨its, r, ht, hz⟩ := I5.tuple hx
  have hlen := r.length
  cases pl
  cases pu
  cases ps
  show wpAny (model X.prog X.w) X.A (subscriptTail e (.Slice none none (some (.UnaryOp .USub (.Constant (.int 1) k p1) p2)) p3) (.ref a) (.ref s4.heap.objs.size)) (EP X pins σ Q) X.xe { s4 with heap := s4.heap.push { cls := .type "slice", data := .fields #[.none, .none, .int (-1) _] } }
  refine tail_any (ops := [.ref a, .ref s4.heap.objs.size]) ht.typeIs (PyProof.Rows.slot_tuple_getitem.lookup) ?_ (by with_unfolding_all rfl)
  refine HT.getItem_tuple_rev ht (Heap.IsSliceOf.new _ _ _ _) ?_ (by rw [List.size_toArray]; omega)
  refine ⟨.ref _, _, I5.laid (t' := s4.toks) (o := .tup xs.reverse) (fun b ob q => Heap.get?_push_of_some _ q) (Nat.le_refl _) ?_, rfl, q _ (I5.hok.fresh (Nat.le_refl _))⟩
  exact ⟨by rw [List.length_reverse]; exact hz, _, r.reverse, IsTup.new _ _⟩
def fRevT (k : FK) : FE := fun e => (k e).bind fun p => (p.2 p.1).bind fun d => match d with
  | .tup ds => some (p.1, .tup ds.reverse)
  | _ => none
theorem jrevT {X : Cx} {np : Nat} {K : PySem.W.Frag} {e : Expr} {te : TE} {ke : FK} {k : Nat} {p1 p2 p3 pos : Pos} (h : JK X np e te ke) (hK : X.K = K := by rfl) : JE X np (.Subscript e (.Slice none none (some (.UnaryOp .USub (.Constant (.int 1) k p1) p2)) p3) pos) (tRevT K te) (fRevT ke) := by
  subst hK
  refine ⟨pe_revT h.pe, fun B F e σ H Q hn I e' d hf q => ?_⟩
  obtain ⟨⟨e1, ra⟩, h1, hf⟩ := bnd hf
  obtain ⟨x, h3, hf⟩ := bnd hf
  split at hf
  · rename_i ds
    cases hf
    refine h.de B F e σ H _ hn I e1 ra h1 fun F1 v H1 s1 I1 l1 => ?_
    obtain ⟨a, ys, e1, t1, g1, r1⟩ := (l1 F1 _ H1 _ (Same.refl _) I1 h3).tup' I1.sf
    refine ⟨a, ys, e1, t1, fun p hp => ?_⟩
    have sm := same_upd (o := .tup ys.reverse) (I1.free hp).1
    exact q _ _ _ (s1.trans sm) (I1.laid hp) (.tup (.inl (.inl upd_same)) (r1.reverse.mono sm))
  · cases hf
/-! ### functions as values -/
def FnAt (K : PySem.W.Frag) (mg : Str → Option Value) (x : Str) : Prop := ∀ f, PySem.W.nsIn K mainGlobals x = some (some (.ref f)) → mg x = some (.ref f)
def tblL {α : Type} (tbl : List (Str × α)) (x : Str) : Option α := (tbl.find? fun p => p.1 == x).map (·.2)
inductive TblOk (P : Program) (w : World) (K : PySem.W.Frag) (mg : Str → Option Value) (base : Heap) (k n : Nat) : List (Str × FC) → Prop
  | nil : TblOk P w K mg base k n []
  | cons {x : Str} {m : FC} {ps : List Str} {r : List (Str × FC)} : FnAt K mg x → DefOk P w K mg base x ps k n m → TblOk P w K mg base k n r → TblOk P w K mg base k n ((x, m) :: r)
theorem tblL_mem {α : Type} {tbl : List (Str × α)} {x : Str} {m : α} (h : tblL tbl x = some m) : (x, m) ∈ tbl := by
  unfold tblL at h
  obtain ⟨p, h1, h2⟩ := Option.map_eq_some_iff.mp h
  have h3 := List.find?_some h1
  have h4 := List.mem_of_find?_eq_some h1
  have e : p.1 = x := by simpa using h3
  rw [← e, ← h2]
  exact h4
theorem TblOk.get {P : Program} {w : World} {K : PySem.W.Frag} {mg : Str → Option Value} {base : Heap} {k n : Nat} {tbl : List (Str × FC)} (T : TblOk P w K mg base k n tbl) {x : Str} {m : FC} (h : (x, m) ∈ tbl) : FnAt K mg x ∧ ∃ ps, DefOk P w K mg base x ps k n m := by
  induction T with
  | nil => exact nomatch h
  | cons h1 h2 _ ih =>
    rcases List.mem_cons.mp h with e | h
    · cases e; exact ⟨h1, _, h2⟩
    · exact ih h
def tCallT (K : PySem.W.Frag) (i n : Nat) (tbl : List (Str × FC)) (t : TA) : TE := fun σ H Q => ∃ f x m, σ[i]? = some (some (.ref f)) ∧ (x, m) ∈ tbl ∧ PySem.W.nsIn K mainGlobals x = some (some (.ref f)) ∧ t σ H fun vs H1 => spM K n m vs H1 Q E0
def fCallV (i : Nat) (tbl : List (Str × FC)) (k : FA) : FE := fun e => match e[i]? with
  | some (.im (.fn x)) => match tblL tbl x with
    | some m => fCall m k e
    | none => none
  | _ => none
section
variable {X : Cx} {np : Nat}
theorem jcallV {K : PySem.W.Frag} {n k i : Nat} {x : Str} {p pos : Pos} {ex : Expr} {es : List Expr} {tbl : List (Str × FC)} {t : TA} {fa : FA} (T : TblOk X.prog X.w K X.mg X.base k n tbl) (hr : RoomT k X.A) (ha : JA X np (ex :: es) t fa)
    (hN : X.N[i]? = some x := by rfl) (hv : Vis X.env.scope x := by first | exact Or.inl rfl | exact Or.inr (Or.inl rfl) | exact Or.inr (Or.inr rfl))
    (hdb : (x == ("__debug__" : Str)) = false := by decide) (hcd : (x == ("__classdict__" : Str)) = false := by decide)
    (he : starEach (ex :: es) X.env = (false, eval ex X.env) :: starEach es X.env := by rfl) (hpl : (backTo pos (starEach es X.env)).any (·.1) = false := by rfl) (hK : X.K = K := by rfl) :
    JE X np (.Call (.Name x p) (ex :: es) [] pos) (tCallT K i n tbl t) (fCallV i tbl fa) := by
  subst hK
  refine ⟨⟨fun pins s σ H Q I h => ?_⟩, fun B F e σ H Q hn I e' d hf q => ?_⟩
  · obtain ⟨f, y, m, hs, hm, hns, ht⟩ := h
    obtain ⟨fa1, ps, f', fd, G, b, kp, e, l, kw⟩ := T.get hm
    have ef := (fa1 f hns).symm.trans e
    cases ef
    refine (pe_callLT (i := i) (f := f) (sp := spM X.K n m) (dvs := []) (E := E0) G hr hN hv kp b.b .nil pass0 ha.pa hdb hcd he hpl).run pins s σ H Q I ⟨hs, ?_⟩
    have e0 : (fun (vs : List V) (H1 : Hp) => spM X.K n m (vs ++ []) H1 Q E0) = fun vs H1 => spM X.K n m vs H1 Q E0 := by
      funext vs H1
      rw [List.append_nil]
    show t σ H (fun vs H1 => spM X.K n m (vs ++ []) H1 Q E0)
    rw [e0]
    exact ht
  · unfold fCallV at hf
    split at hf
    · rename_i y h0
      split at hf
      · rename_i m hm
        obtain ⟨v0, hv0, r0⟩ := I.slot h0
        obtain ⟨x0, e0, r1⟩ := r0.of_im
        subst e0
        cases r1 with
        | fn _ hns =>
          have hmem := tblL_mem hm
          obtain ⟨fa1, ps, f', fd, G, b, kp, e, l, kw⟩ := T.get hmem
          have z := de_call (E := E0) ha.de (fun {es r} h => l es r h) B F _ σ H Q hn I e' d hf q
          unfold tCall at z
          have e2 : (fun (vs : List V) (H1 : Hp) => spM X.K n m (vs ++ []) H1 Q E0) = fun vs H1 => spM X.K n m vs H1 Q E0 := by
            funext vs H1
            rw [List.append_nil]
          rw [e2] at z
          exact ⟨_, y, m, hv0, hmem, hns, z⟩
      · cases hf
    · cases hf
end
theorem fnAt_mk {K : PySem.W.Frag} {h : Heap} {mg : Str → Option Value} {x : Str} {f : Addr} (X : K.In h) (G : h.Ns mainGlobals mg) (a : PySem.W.nsIn K mainGlobals x = some (some (.ref f))) : FnAt K mg x := fun g hg => PySem.W.mg_of X G hg
theorem gl_fn {K : PySem.W.Frag} {h : Heap} {mg : Str → Option Value} {x : Str} {f : Addr} (X : K.In h) (G : h.Ns mainGlobals mg) (a : PySem.W.nsIn K mainGlobals x = some (some (.ref f))) : GlOk K mg x (.fn x) := ⟨_, .ref f, PySem.W.mg_of X G a, rfl, fun F => .fn x a⟩
section
variable (s : Sl) (e : Sls)
theorem c_fRevT (k : FK) : fRevT k (s :: e) = (k (s :: e)).bind fun p => (p.2 p.1).bind fun d => match d with
  | .tup ds => some (p.1, .tup ds.reverse)
  | _ => none := rfl
theorem c_fCallV (i : Nat) (tbl : List (Str × FC)) (k : FA) : fCallV i tbl k (s :: e) = match (s :: e)[i]? with
  | some (.im (.fn x)) => match tblL tbl x with
    | some m => fCall m k (s :: e)
    | none => none
  | _ => none := rfl
end
theorem tbl_cons {α : Type} (x y : Str) (m : α) (r : List (Str × α)) : tblL ((x, m) :: r) y = if x = y then some m else tblL r y := by
  unfold tblL
  rw [List.find?_cons]
  by_cases h : x = y
  · subst h; simp
  · have : (x == y) = false := by simpa using h
    simp [this, h]
end M

namespace M
open PySem PySem.Spec PyProof.Rows L2
/-! ### things of any form -/
/-- an ASCII text, not long -/
def Asc (s : Str) (n : Nat) : Prop := (∀ c ∈ s.cps.toList, c < 128) ∧ s.length ≤ n
/-- what is built: tuples, texts, numbers -/
inductive Pd : Nat → D → Prop
  | int {n : Nat} {i : Int} : 0 ≤ i → i < 10 ^ 20 → Pd n (.int i)
  | str {n : Nat} {s : Str} : Asc s 40 → Pd n (.str s)
  | tup {n : Nat} {ds : List D} : (∀ d ∈ ds, Pd n d) → ds.length ≤ 3300 → Pd (n + 1) (.tup ds)
/-- what comes of an exchange -/
inductive Wd : Nat → D → Prop
  | non {n : Nat} : Wd n .non
  | bl {n : Nat} (b : Bool) : Wd n (.bl b)
  | int {n : Nat} (i : Int) : i.natAbs.log2 < 1900 → Wd n (.int i)
  | str {n : Nat} {s : Str} : Asc s 100 → Wd n (.str s)
  | lst {n : Nat} (ds : List D) : Wd n (.lst ds)
  | dic {n : Nat} (es : List (Key × D)) : Wd n (.dic es)
  | tup {n : Nat} {ds : List D} : (∀ d ∈ ds, Wd n d) → ds.length ≤ 3900 → Wd (n + 1) (.tup ds)
theorem Asc.le {s : Str} {n m : Nat} (h : Asc s n) (hm : n ≤ m) : Asc s m := ⟨h.1, Nat.le_trans h.2 hm⟩
theorem Nm.asc {s : Str} (h : Nm s) : Asc s 40 := ⟨fun c hc => by have := h.1 c hc; omega, by have := h.2.2; omega⟩
theorem Pd.mono {n : Nat} {d : D} (h : Pd n d) : ∀ {m : Nat}, n ≤ m → Pd m d := by
  induction h with
  | int a b => intro m _; exact .int a b
  | str a => intro m _; exact .str a
  | tup a b ih =>
    intro m hm
    obtain ⟨k, rfl⟩ : ∃ k, m = k + 1 := ⟨m - 1, by omega⟩
    exact .tup (fun d hd => ih d hd (by omega)) b
theorem Wd.mono {n : Nat} {d : D} (h : Wd n d) : ∀ {m : Nat}, n ≤ m → Wd m d := by
  induction h with
  | non => intro m _; exact .non
  | bl b => intro m _; exact .bl b
  | int i h => intro m _; exact .int i h
  | str a => intro m _; exact .str a
  | lst ds => intro m _; exact .lst ds
  | dic ds => intro m _; exact .dic ds
  | tup a b ih =>
    intro m hm
    obtain ⟨k, rfl⟩ : ∃ k, m = k + 1 := ⟨m - 1, by omega⟩
    exact .tup (fun d hd => ih d hd (by omega)) b
theorem Pd.wd {n : Nat} {d : D} (h : Pd n d) : Wd n d := by
  induction h with
  | int a b =>
    refine .int _ ?_
    have := int_log a b
    rename_i i
    rcases log2_le (i := i) (k := 100) a (by omega) with h | h
    · omega
    · subst h; decide
  | str a => exact .str (a.le (by decide))
  | tup a b ih => exact .tup ih (by omega)
theorem plains_of : ∀ {ds : List D}, (∀ d ∈ ds, d.plain = true) → D.plains ds = true
  | [], _ => rfl
  | d :: ds, h => by simp only [D.plains, h d (List.mem_cons_self ..), plains_of fun x hx => h x (List.mem_cons_of_mem _ hx), Bool.and_self]
theorem Pd.plain {n : Nat} {d : D} (h : Pd n d) : d.plain = true := by
  induction h with
  | int a b => rfl
  | str a => rfl
  | tup a b ih => rw [D.plain]; exact plains_of ih
theorem pd_strs {n : Nat} {ss : List Str} (h : ∀ s ∈ ss, Asc s 40) : ∀ d ∈ ss.map D.str, Pd n d := fun d hd => by
  obtain ⟨s, hs, rfl⟩ := List.mem_map.mp hd
  exact .str (h s hs)
mutual
theorem Kd.pd : ∀ {n L : Nat} {d : D}, Kd n L d → L ≤ 3300 → Pd (2 * n) d
  | _, _, _, .num _, _ => .tup (fun d hd => by rw [List.mem_singleton.mp hd]; exact .str ⟨by decide +kernel, by decide +kernel⟩) (by decide)
  | _, _, _, .var hs _, _ => .tup (fun d hd => by
      simp only [List.mem_cons, List.not_mem_nil, or_false] at hd
      rcases hd with rfl | rfl
      · exact .str ⟨by decide +kernel, by decide +kernel⟩
      · exact .str hs.nm.asc) (by simp)
  | n + 1, _, _, .fn a b _, hL => .tup (n := 2 * n + 1) (fun d hd => by
      simp only [List.mem_cons, List.not_mem_nil, or_false] at hd
      rcases hd with rfl | rfl | rfl
      · exact .str ⟨by decide +kernel, by decide +kernel⟩
      · exact (Kd.pd a (by omega)).mono (by omega)
      · exact (Kd.pd b (by omega)).mono (by omega)) (by simp)
  | n + 1, _, _, .data hs b h, hL => by
    have l := b.lenL
    refine .tup (n := 2 * n + 1) (fun d hd => ?_) (by simp)
    simp only [List.mem_cons, List.not_mem_nil, or_false] at hd
    rcases hd with rfl | rfl | rfl
    · exact .str ⟨by decide +kernel, by decide +kernel⟩
    · exact .str hs.nm.asc
    · exact .tup (Kds.pd b (by omega)) (by omega)
theorem Kds.pd : ∀ {n L : Nat} {ds : List D}, Kds n L ds → L ≤ 3300 → ∀ d ∈ ds, Pd (2 * n) d
  | _, _, _, .nil, _, d, h => nomatch h
  | _, _, _, .cons a b _, hL, d, h => by
    rcases List.mem_cons.mp h with e | h
    · rw [e]; exact Kd.pd a (by omega)
    · exact Kds.pd b (by omega) d h
theorem Kds.lenL : ∀ {n L : Nat} {ds : List D}, Kds n L ds → ds.length ≤ L
  | _, _, _, .nil => Nat.zero_le _
  | _, _, _, .cons a b h => by
    have := b.lenL
    have := Kd.pos a
    rw [List.length_cons]; omega
theorem Kd.pos : ∀ {n L : Nat} {d : D}, Kd n L d → 1 ≤ L
  | _, _, _, .num h => h
  | _, _, _, .var _ h => h
  | _, _, _, .fn a b h => by have := Kd.pos a; omega
  | _, _, _, .data _ _ h => by omega
end
/-! isinstance -/
def D.isT : D → Bool | .tup _ => true | _ => false
def D.isS : D → Bool | .str _ => true | _ => false
def D.isI : D → Bool | .int _ => true | .bl _ => true | _ => false
def D.isB : D → Bool | .bl _ => true | _ => false
theorem isa_T {n : Nat} {d : D} (h : Wd n d) : isaD [d, .ty "tuple"] = some (.bl d.isT) := by cases h <;> rfl
theorem isa_S {n : Nat} {d : D} (h : Wd n d) : isaD [d, .ty "str"] = some (.bl d.isS) := by cases h <;> rfl
theorem isa_I {n : Nat} {d : D} (h : Wd n d) : isaD [d, .ty "int"] = some (.bl d.isI) := by cases h <;> rfl
theorem isa_B {n : Nat} {d : D} (h : Wd n d) : isaD [d, .ty "bool"] = some (.bl d.isB) := by cases h <;> rfl
theorem d_neWB (a b : Bool) : neW (.bl a) (.bl b) = some (.bl (a != b)) := by cases a <;> cases b <;> rfl
theorem cutG_mem {α : Type} {xs : List α} {lo hi : Option Int} {x : α} (h : x ∈ cutG xs lo hi) : x ∈ xs := List.mem_of_mem_drop (List.mem_of_mem_take h)
theorem cutG_len {α : Type} (xs : List α) (lo hi : Option Int) : (cutG xs lo hi).length ≤ xs.length := by
  unfold cutG
  rw [List.length_take, List.length_drop]; omega
theorem cut_to {α : Type} (xs : List α) {r : Int} (h : 0 ≤ r) : (cutG xs none (some r)).length ≤ r.toNat := by
  unfold cutG HT.sIx
  simp only [List.length_take, List.length_drop]
  split <;> omega
theorem cut_from {α : Type} (xs : List α) {r : Int} (h : 0 ≤ r) : (cutG xs (some r) none).length ≤ xs.length - r.toNat := by
  unfold cutG HT.sIx
  simp only [List.length_take, List.length_drop]
  split <;> omega
theorem cut_one {α : Type} (xs : List α) {r : Int} (h : 0 ≤ r) : (cutG xs (some r) (some (r + 1))).length ≤ 1 := by
  unfold cutG HT.sIx
  simp only [List.length_take, List.length_drop]
  split <;> split <;> omega
theorem d_cutT (xs : List D) (lo hi : Option Int) : M.cutD (.tup xs) lo hi = some (.tup (cutG xs lo hi)) := rfl
theorem d_cutS (z : Str) (lo hi : Option Int) : M.cutD (.str z) lo hi = if z.length ≤ sizeLine then some (.str (cutS z lo hi)) else none := rfl
theorem cutS_asc {z : Str} {n : Nat} (h : Asc z n) (lo hi : Option Int) : Asc (cutS z lo hi) n := by
  have e : (cutS z lo hi).cps.toList = cutG z.cps.toList lo hi := by
    unfold cutS cutG
    simp only [List.toList_toArray, Array.length_toList]
    rfl
  refine ⟨fun c hc => ?_, ?_⟩
  · rw [e] at hc; exact h.1 c (cutG_mem hc)
  · show (cutS z lo hi).cps.size ≤ n
    rw [← Array.length_toList, e]
    have := cutG_len z.cps.toList lo hi
    have h2 := h.2
    rw [Array.length_toList] at this
    exact Nat.le_trans this h2
theorem Asc.app {a b : Str} {n m : Nat} (h : Asc a n) (g : Asc b m) : Asc (a ++ b) (n + m) := by
  refine ⟨fun c hc => ?_, by rw [Str.length_append]; have := h.2; have := g.2; omega⟩
  rw [Str.cps_append, Array.toList_append] at hc
  rcases List.mem_append.mp hc with hc | hc
  · exact h.1 c hc
  · exact g.1 c hc
theorem up_asc {a : Str} {n : Nat} (h : Asc a n) (hn : n ≤ 5592405) : ∃ b, upperD (.str a) = some (.str b) ∧ Asc b n := by
  have hl := h.2
  refine ⟨Txt.upper a, by simp only [upperD]; rw [if_pos ⟨h.1, by omega⟩], ?_⟩
  have e : Txt.upper a = SX.S (a.cps.toList.map PyProof.Rows.up1) := by
    have := SX.upper_S (a := a.cps.toList) (List.all_eq_true.mpr fun c hc => decide_eq_true (h.1 c hc))
    rw [SX.S_tl] at this
    exact this
  rw [e]
  refine ⟨fun c hc => ?_, ?_⟩
  · simp only [List.mem_map] at hc
    obtain ⟨x, hx, rfl⟩ := hc
    have := h.1 x hx
    unfold PyProof.Rows.up1
    split <;> omega
  · rw [SX.S_len, List.length_map, Array.length_toList]
    exact hl
/-! ### names, by their form -/
def lowL (cs : List Nat) : Bool := cs.all fun c => decide (97 ≤ c ∧ c ≤ 122)
def keptWs : List Str := ["data", "let", "in", "case", "of", "num"]
def smS (s : Str) : Bool := decide (1 ≤ s.length) && decide (s.length ≤ 8) && lowL s.cps.toList && !decide (s ∈ keptWs)
def grS (s : Str) : Bool := match s.cps.toList with
  | [] => false
  | c :: r => decide (s.length ≤ 8) && decide (65 ≤ c ∧ c ≤ 90) && lowL r
def isSm : D → Bool | .str s => smS s | _ => false
def isGr : D → Bool | .str s => grS s | _ => false
theorem az_mem (c : Nat) : decide (c ∈ azS.cps.toList) = decide (97 ≤ c ∧ c ≤ 122) := by
  refine decide_eq_decide.mpr ⟨low_of, fun h => ?_⟩
  rw [azS_cps]
  simp only [List.mem_cons, List.not_mem_nil, or_false]
  omega
def AZS : Str := "ABCDEFGHIJKLMNOPQRSTUVWXYZ"
theorem AZS_cps : AZS.cps.toList = [65, 66, 67, 68, 69, 70, 71, 72, 73, 74, 75, 76, 77, 78, 79, 80, 81, 82, 83, 84, 85, 86, 87, 88, 89, 90] := by decide +kernel
theorem AZ_mem (c : Nat) : decide (c ∈ AZS.cps.toList) = decide (65 ≤ c ∧ c ≤ 90) := by
  rw [AZS_cps]
  refine decide_eq_decide.mpr ?_
  simp only [List.mem_cons, List.not_mem_nil, or_false]
  omega
theorem in_sign (c : Nat) (z : Str) : inD (.str ⟨#[c]⟩) (.str z) = some (.bl (decide (c ∈ z.cps.toList))) := rfl
theorem lt_sign (c d : Nat) : ltD (.str ⟨#[c]⟩) (.str ⟨#[d]⟩) = some (.bl (decide (c < d))) := by
  simp only [ltD]
  congr 2
  refine decide_eq_decide.mpr ?_
  simp only [List.cons_lt_cons_iff, List.not_lt_nil, and_false, or_false]
theorem gt_sign (c d : Nat) : gtD (.str ⟨#[c]⟩) (.str ⟨#[d]⟩) = some (.bl (decide (d < c))) := by
  simp only [gtD]
  congr 2
  refine decide_eq_decide.mpr ?_
  simp only [List.cons_lt_cons_iff, List.not_lt_nil, and_false, or_false]
theorem litA : (Str.ofString "A") = ⟨#[65]⟩ := by decide +kernel
theorem litZ : (Str.ofString "Z") = ⟨#[90]⟩ := by decide +kernel
theorem lita : (Str.ofString "a") = ⟨#[97]⟩ := by decide +kernel
theorem litz : (Str.ofString "z") = ⟨#[122]⟩ := by decide +kernel
theorem bools_map {α : Type} (f : α → Bool) : ∀ xs : List α, bools (xs.map fun x => D.bl (f x)) = some (xs.map f)
  | [] => rfl
  | x :: xs => by simp only [List.map_cons, bools, bools_map f xs, Option.map_some]
theorem all_map {α : Type} (f : α → Bool) (xs : List α) : allD [.lst (xs.map fun x => D.bl (f x))] = some (.bl (xs.all f)) := by
  simp only [allD, bools_map, Option.map_some, List.all_map]
  rfl
theorem chars_map (z : Str) : chars z = z.cps.toList.map fun c => D.str ⟨#[c]⟩ := rfl
/-! ### a comprehension that chooses -/
theorem w_lc_filter {α : Type} {vs : List Nat} {b : FG} {c : FT} {f : FE} {e : Sls} (i g : α → D) (p : α → Bool) {Q : Sls → List D → Prop} : ∀ {ds : List α} {acc : List D}, acc.length + ds.length ≤ 8000000 →
    (∀ d ∈ ds, ∀ (acc : List D) (R : Sls → List D → Prop), acc.length < sizeLine → R e (if p d = true then acc ++ [g d] else acc) → W (lcStep vs b c f (i d) e acc) R) → Q e (acc ++ (ds.filter p).map g) → W (lcLoop vs b c f (ds.map i) e acc) Q
  | [], acc, _, _, h => ⟨_, _, rfl, by simpa using h⟩
  | d :: ds, acc, hl, hs, h => by
    rw [List.length_cons] at hl
    rw [List.map_cons, lc_step, W_bind]
    refine hs d (List.mem_cons_self ..) acc _ (line_lt (by omega)) ?_
    by_cases hp : p d = true
    · rw [if_pos hp]
      refine w_lc_filter i g p (ds := ds) (acc := acc ++ [g d]) (by simp; omega) (fun d' hd' => hs d' (List.mem_cons_of_mem _ hd')) ?_
      simpa [List.append_assoc, List.filter_cons, hp] using h
    · rw [if_neg hp]
      refine w_lc_filter i g p (ds := ds) (acc := acc) (by omega) (fun d' hd' => hs d' (List.mem_cons_of_mem _ hd')) ?_
      simpa [List.filter_cons, hp] using h
theorem eq_nilL (xs : List Str) : eqD (.lst (xs.map .str)) (.lst []) = some (.bl xs.isEmpty) := by
  have := eq_strsL xs []
  rw [show ([] : List Str).map D.str = [] from rfl] at this
  rw [this]
  congr 2
  cases xs <;> simp
def StrVals : List Value → List Str → Prop
  | [], [] => True
  | v :: vs, s :: ss => (∃ t, v = Value.str s t) ∧ StrVals vs ss
  | _, _ => False
theorem strVals_rps {K : PySem.W.Frag} : ∀ {its : List Value} {ss : List Str}, StrVals its ss → (∀ s ∈ ss, sOk s) → Vals (ss.map V.str) its ∧ ∀ F : Hp, Rps K F (ss.map V.str) (ss.map D.str)
  | [], [], _, _ => ⟨.nil, fun F => .nil⟩
  | [], s :: ss, h, _ => h.elim
  | v :: vs, [], h, _ => h.elim
  | v :: vs, s :: ss, h, ho => by
    obtain ⟨⟨t, rfl⟩, h2⟩ := h
    obtain ⟨i1, i2⟩ := strVals_rps (K := K) h2 fun s hs => ho s (List.mem_cons_of_mem _ hs)
    exact ⟨.cons ⟨t, rfl⟩ i1, fun F => .cons (.str _ (ho _ (List.mem_cons_self ..))) (i2 F)⟩
theorem StrVals.len : ∀ {its : List Value} {ss : List Str}, StrVals its ss → its.length = ss.length
  | [], [], _ => rfl
  | [], s :: ss, h => h.elim
  | v :: vs, [], h => h.elim
  | v :: vs, s :: ss, h => congrArg (· + 1) (StrVals.len h.2)
theorem gl_strs2 {K : PySem.W.Frag} {h : Heap} {mg : Str → Option Value} {x : Str} {a : Addr} {od : Option Addr} {its : Array Value} {n : Nat} {sl : Array (Option Value)} {ss : List Str} (X : K.In h) (G : h.Ns mainGlobals mg) (q : PySem.W.nsIn K mainGlobals x = some (some (.ref a)))
    (hw : K.lookup a = some ⟨.type "tuple", od, .seq its n, sl⟩) (hv : StrVals its.toList ss) (hl : ss.length ≤ 1000) (hs : ∀ s ∈ ss, sOk s) : GlOk K mg x (.tup (ss.map .str)) := by
  refine ⟨_, .ref a, PySem.W.mg_of X G q, rfl, fun F => ?_⟩
  obtain ⟨i1, i2⟩ := strVals_rps (K := K) hv hs
  have e := hv.len
  rw [Array.length_toList] at e
  exact .tup (.inr ⟨_, its, n, hw, rfl, rfl, Nat.le_trans (by omega) (show 1000 ≤ sizeLine by decide), i1⟩) (i2 F)
end M

namespace M
open PySem PySem.Spec PyProof.Rows L2
/-! ### set(texts), and how many texts there are -/
/-- how many texts, each once (the row backwards) -/
def cntR : List Str → Nat
  | [] => 0
  | x :: r => if x ∈ r then cntR r else cntR r + 1
def cntS (xs : List Str) : Nat := cntR xs.reverse
theorem cntR_le : ∀ xs : List Str, cntR xs ≤ xs.length
  | [] => Nat.le_refl _
  | x :: r => by
    have := cntR_le r
    rw [cntR, List.length_cons]
    split <;> omega
theorem cntR_eq : ∀ xs : List Str, cntR xs = xs.length ↔ xs.Nodup
  | [] => by simp [cntR]
  | x :: r => by
    have h := cntR_eq r
    have l := cntR_le r
    rw [cntR, List.length_cons, List.nodup_cons]
    split
    · rename_i hx
      exact ⟨fun e => by omega, fun e => absurd hx e.1⟩
    · rename_i hx
      exact ⟨fun e => ⟨hx, h.mp (by omega)⟩, fun e => by have := h.mpr e.2; omega⟩
theorem cntS_eq (xs : List Str) : cntS xs = xs.length ↔ xs.Nodup := by
  have h := cntR_eq xs.reverse
  rw [List.length_reverse, (List.reverse_perm xs).nodup_iff] at h
  exact h
theorem cntS_le (xs : List Str) : cntS xs ≤ xs.length := by
  have := cntR_le xs.reverse
  rw [List.length_reverse] at this
  exact this
section
variable {prog : Program} {w : World} {A : Around} {R : Result → Shared → Prop} {I : Addr} {fp wr : List Addr} {G : Array GenState → Array GenState → Prop} {n : Nat} {P : Nat → Value → Prop} {St : Nat → Shared → Prop}
/-- the set behind the first i texts -/
def SetTo (w : World) (prog : Program) (h : Heap) (S : Addr) (xs : List Str) (i : Nat) : Prop := h.SetOf (PySem.strKind prog w) S (fun k => decide (k ∈ xs.take i)) (cntS (xs.take i))
theorem SetTo.step {h : Heap} {S : Addr} {xs : List Str} {i : Nat} {x : Str} (e : xs[i]? = some x)
    (hS : h.SetOf (PySem.strKind prog w) S (fun k => decide (k ∈ xs.take i) || decide (k = x)) (if decide (x ∈ xs.take i) = true then cntS (xs.take i) else cntS (xs.take i) + 1)) : SetTo w prog h S xs (i + 1) := by
  have et : xs.take (i + 1) = xs.take i ++ [x] := by rw [List.take_add_one, e]; rfl
  refine PyProof.Rows.SetOf_congr hS (fun k => ?_) ?_
  · rw [et]; simp
  · rw [et]; unfold cntS
    rw [List.reverse_append]
    show _ = cntR (x :: (xs.take i).reverse)
    rw [cntR]
    simp
theorem loopTexts (W : WalksS prog w A.in1 I fp wr G n P St) (S : Addr) (hSf : S ∉ fp) (xs : List Str) (hlen : xs.length = n) (hroom : n < 4000)
    (hval : ∀ i v, P i v → ∃ x t, xs[i]? = some x ∧ v = .str x t) : ∀ (left : Nat) (i : Nat) (s : Shared), i + left = n → St i s → SetTo w prog s.heap S xs i →
      (∀ s', Moved (S :: wr) G s s' → SetTo w prog s'.heap S xs n → R (.ok (.ret .none)) s') → codeAny (model prog w) A (.builtin "set.update.loop" ⟨[.ref S, .ref I], []⟩) R s
  | 0, i, s, hi, hst, hS, hR => by
    obtain rfl : i = n := by omega
    refine codeAny_builtin PyProof.Rows.F.entry_set_update_loop ?_
    rw [Around.under_plainId PyProof.Rows.F.plain_set_update_loop _]
    refine wpAny_bind (W.done s _ _ hst fun s1 hm => wpAny_pure (hR s1 (hm.mono fun b hb => List.mem_cons_of_mem _ hb) ?_))
    have ⟨o, es, ep, t, ho, rest⟩ := hS
    exact ⟨o, es, ep, t, hm.heap S _ (fun h => hSf (W.sub _ h)) ho, rest⟩
  | left + 1, i, s, hi, hst, hS, hR => by
    refine codeAny_builtin PyProof.Rows.F.entry_set_update_loop ?_
    rw [Around.under_plainId PyProof.Rows.F.plain_set_update_loop _]
    refine wpAny_bind (W.item i s _ _ (by omega) hst fun v s1 hP hst1 hm => ?_)
    obtain ⟨x, t, hx, rfl⟩ := hval i v hP
    have hS1 : SetTo w prog s1.heap S xs i := by
      have ⟨o, es, ep, t, ho, rest⟩ := hS
      exact ⟨o, es, ep, t, hm.heap S _ (fun h => hSf (W.sub _ h)) ho, rest⟩
    have hc := cntS_le (xs.take i)
    rw [List.length_take] at hc
    refine wpAny_bind (wpAny_holding ?_)
    unfold setAdd
    refine wpAny_holding (wpAny_bind ((PySem.strKind prog w).pyHash (k := x) (strKind_is _ _ _ _) ?_))
    refine wpAny_setAddHashed_of (knd := PySem.strKind prog w) (s := { s1 with toks := s1.toks + 1 }) (strKind_is _ _ _ _) rfl hS1 (by unfold scanBound; omega) fun h' sb hS2 => ?_
    refine wpAny_pure ⟨plainId_quiet PyProof.Rows.F.plain_set_update_loop _, loopTexts W S hSf xs hlen hroom hval left (i + 1) _ (by omega) (W.frame _ s1 _ _ hst1 (Nat.le_succ _) fun b hb o e => ?_) (SetTo.step hx hS2) fun s2 hm2 hS3 => ?_⟩
    · exact (sb.2 b fun e => hSf (e ▸ hb)).trans e
    · exact hR s2 (Moved.trans W.gtrans ((hm.mono fun b hb => List.mem_cons_of_mem _ hb).then_heap (Nat.le_succ _) fun b o hb e => (sb.2 b fun e => hb (e ▸ List.mem_cons_self)).trans e) hm2) hS3
theorem strs_get : ∀ {us : List Value} {xs : List Str}, StrsAre us xs → ∀ (i : Nat) (v : Value), us[i]? = some v → ∃ x t, xs[i]? = some x ∧ v = .str x t
  | _, _, .nil, i, v, h => nomatch h
  | _, _, .cons x t _, 0, v, h => ⟨x, t, rfl, (Option.some.inj h).symm⟩
  | _, _, .cons _ _ r, i + 1, v, h => by
    rw [List.getElem?_cons_succ] at h ⊢
    exact strs_get r i v h
end
section
variable {prog : Program} {w : World} {A : Around} {E : Value → Shared → Prop} {s : Shared}
/-- a list or a tuple of these items -/
def SeqIs (h : Heap) (T : String) (l : Addr) (items : Array Value) : Prop := ∃ o, h.get? l = some o ∧ o.cls = .type T ∧ ∃ n, o.data = .seq items n
/-- how it is gone through -/
structure Goes (prog : Program) (w : World) (T : String) : Prop where
  set : isSubtype (.type T) (.type "set") = pure false
  froz : isSubtype (.type T) (.type "frozenset") = pure false
  dict : (Value.type T == Value.type "dict") = false
  iter : ∀ (l : Addr) (items : Array Value) (A : Around) (s : Shared) (Q : Value → Shared → Prop) (E : Value → Shared → Prop), SeqIs s.heap T l items →
    (∀ (o : Obj) (St : Nat → Shared → Prop), (∀ A' : Around, A'.handled = none → WalksS prog w A' s.heap.objs.size [s.heap.objs.size, l] [s.heap.objs.size] (fun a b => b = a) items.size (fun i v => items[i]? = some v) St) →
      St 0 { s with heap := s.heap.push o } → Q (.ref s.heap.objs.size) { s with heap := s.heap.push o }) → wpAny (model prog w) A (pyIter (.ref l)) Q E s
theorem SeqIs.lt {h : Heap} {T : String} {l : Addr} {items : Array Value} (x : SeqIs h T l items) : l < h.objs.size := by
  obtain ⟨o, ho, _⟩ := x
  exact Heap.lt_size ho
theorem SeqIs.push {h : Heap} {T : String} {l : Addr} {items : Array Value} (x : SeqIs h T l items) (o : Obj) : SeqIs (h.push o) T l items := by
  obtain ⟨p, hp, r⟩ := x
  exact ⟨p, Heap.get?_push_of_some _ hp, r⟩
theorem goes_list : Goes prog w "list" where
  set := PySem.F.sub_list_set
  froz := PySem.F.sub_list_frozenset
  dict := by decide
  iter := fun l items A s Q E hl h => by
    have hlt := hl.lt
    have hL : s.heap.IsList l items := hl
    exact wpAny_pyIter_list hL (h _ _ (fun A' hh => (Walks.list hh _ l (Nat.ne_of_lt hlt) items).toS) ⟨⟨_, Heap.get?_push_size _ rfl, rfl, rfl⟩, hL.push _⟩)
theorem goes_tuple : Goes prog w "tuple" where
  set := PySem.F.sub_tuple_set
  froz := PySem.F.sub_tuple_frozenset
  dict := by decide
  iter := fun l items A s Q E hl h => by
    have hlt := hl.lt
    have hL : s.heap.IsTuple l items := hl
    exact wpAny_pyIter_tuple hL (h _ _ (fun A' hh => (Walks.tuple hh _ l (Nat.ne_of_lt hlt) items).toS) ⟨⟨_, Heap.get?_push_size _ rfl, rfl, rfl⟩, hL.push _⟩)
set_option maxHeartbeats 3200000 in
/-- set(row of texts) -/
theorem call_setTexts {T : String} (g : Goes prog w T) {l : Addr} {items : Array Value} {xs : List Str} {Q : Value → Shared → Prop} (hh : A.handled = none) (hl : SeqIs s.heap T l items) (hx : StrsAre items.toList xs) (hn : xs.length < 4000)
    (h : ∀ (h' : Heap) (tk : Nat), SetTo w prog h' s.heap.objs.size xs xs.length → (∀ b o, s.heap.get? b = some o → h'.get? b = some o) → Q (.ref s.heap.objs.size) { s with heap := h', toks := tk }) :
    wpAny (model prog w) A (call (.type "set") [.ref l]) Q E s := by
  obtain ⟨c, tl, hmro⟩ := PySem.F.called_set.mro
  have m1 := PySem.F.called_set.made
  have m2 := PySem.F.called_set.sub
  have m3 := PySem.F.called_set.notType
  have m4 := PySem.F.called_set.canCreate
  have m5 := PySem.F.typeCall_set_1 (.ref l)
  refine wpAny_call (codeAny_of_tree ?_)
  show wpAny _ _ (callAny (.type "set") _) _ _ _
  refine wpAny_pure ⟨Code.quiet_builtin _ (by decide +kernel), codeAny_builtin PySem.F.entry_type_call ?_⟩
  rw [Around.under_plain (weight_type_call_type "set" [.ref l] []) rfl]
  repeat (any_goals (first | assumption | wp_step))
  let fresh := fun led : Bool => ({ s with heap := s.heap.push { cls := .type "set", dict := none, data := .set #[] 0 (.fresh 0 0 led) } } : Shared)
  refine codeAny_mono (code_set_new_1 (.ref l) (E := E) (Q₁ := fun obj s1 => ∃ led : Bool, obj = .ref s.heap.objs.size ∧ s1 = fresh led) fun led => ⟨led, rfl, rfl⟩) fun r s1 hr => ?_
  match r, hr with
  | .error e, hr => exact hr
  | .ok (.ret obj), hr =>
    obtain ⟨led, rfl, rfl⟩ := hr
    have hS : (fresh led).heap.get? s.heap.objs.size = some { cls := .type "set", dict := none, data := .set #[] 0 (.fresh 0 0 led) } := Heap.get?_push_size _ rfl
    have hT : Shared.TypeIs (fresh led) (.ref s.heap.objs.size) "set" := ⟨_, hS, rfl⟩
    have i1 := PySem.F.called_set.init.lookup
    have i2 := PySem.F.called_set.init.bind (.ref s.heap.objs.size)
    repeat (any_goals (first | assumption | wp_step))
    refine codeAny_mono (codeAny_call_builtin (R := wants (fun r s2 => r = .none ∧ ∃ h' tk, s2 = { s with heap := h', toks := tk } ∧ SetTo w prog h' s.heap.objs.size xs xs.length ∧ (∀ b o, s.heap.get? b = some o → h'.get? b = some o)) E)
      PySem.F.called_set.init.plain PySem.F.entry_set_init (check_set_init_1 hT ?_)) fun r2 s2 hr2 => ?_
    · have hl1 : SeqIs (fresh led).heap T l items := hl.push _
      have ⟨ol, hol, hcl, nl, hdl⟩ := hl1
      obtain ⟨ocls, odict, odata, oslots⟩ := ol
      cases hcl
      cases hdl
      have s1 := g.set
      have s2 := g.froz
      have s3 := g.dict
      unfold Builtin.«set.__init__» noKeywords Builtin.Frozenset.updateFrom
      generalize hPI : pyIter = PI
      wp_walk
      subst hPI
      have hlt := hl.lt
      refine g.iter l items _ (fresh led) _ _ hl1 fun oi St W st0 => ?_
      refine wpAny_bind (wpAny_runValue ?_)
      have e1 : (fresh led).heap.objs.size = s.heap.objs.size + 1 := Heap.size_push ..
      refine loopTexts (W _ (by simp [hh])) s.heap.objs.size (by
        rw [e1]
        simp only [List.mem_cons, List.not_mem_nil, or_false, not_or]
        exact ⟨Nat.ne_of_lt (Nat.lt_succ_self _), Nat.ne_of_gt hlt⟩) xs (by rw [← Array.length_toList, StrsAre.len_eq hx]) (by rw [← Array.length_toList, StrsAre.len_eq hx]; exact hn)
        (fun i v hv => strs_get hx i v (by rw [Array.getElem?_toList]; exact hv)) items.size 0 _ (by omega) st0 ?_ fun s3 hm hS3 => ?_
      · have hg : ((fresh led).heap.push oi).get? s.heap.objs.size = some { cls := .type "set", dict := none, data := .set #[] 0 (.fresh 0 0 led) } := Heap.get?_push_of_some _ hS
        exact PyProof.Rows.SetOf_congr ((PyProof.Rows.setObjOf_fresh (knd := PySem.strKind prog w) led).setOf hg (by decide)) (fun _ => rfl) rfl
      · obtain ⟨h', g', d', tk', os'⟩ := s3
        have q1 : g' = s.gens := hm.gens
        have q2 : d' = s.drawn := hm.drawn
        have q3 : os' = s.os := hm.os
        subst q1 q2 q3
        have el : items.size = xs.length := by rw [← Array.length_toList, StrsAre.len_eq hx]
        rw [el] at hS3
        refine wpAny_pure ?_
        show wpAny _ _ (ret Value.none) _ _ _
        refine wpAny_pure ⟨rfl, h', tk', rfl, hS3, fun b o e => ?_⟩
        have hb := Heap.lt_size e
        refine hm.heap b o ?_ (Heap.get?_push_of_some _ (Heap.get?_push_of_some _ e))
        rw [e1]
        simp only [List.mem_cons, List.not_mem_nil, or_false, not_or]
        exact ⟨Nat.ne_of_lt hb, Nat.ne_of_lt (Nat.lt_succ_of_lt hb)⟩
    · match r2, hr2 with
      | .error e, hr2 => exact hr2
      | .ok (.ret r), hr2 =>
        obtain ⟨rfl, h', tk, rfl, hS', hk⟩ := hr2
        repeat (any_goals (first | assumption | wp_step))
        exact h h' tk hS' hk
      | .ok .next, hr2 => exact hr2.elim
  | .ok .next, hr => exact hr.elim
end
/-- len(set(xs)), xs a list or tuple of texts -/
def tLenSetN (K : PySem.W.Frag) (ta : TE) : TE := fun σ H Q => ta σ H fun x H1 => ∃ l, ∃ xs : List Str, x = .ref l ∧ (SqL K H1 l (xs.map V.str) ∨ SqT K H1 l (xs.map V.str)) ∧ xs.length < 4000 ∧ Q (.int (cntS xs)) H1
section
variable {X : Cx}
theorem pe_lenSetN {a : Expr} {ta : TE} {p p2 q pos : Pos} (hc : X.calm = true) (hg : Gl X "len") (hm : X.mg "len" = none) (hg2 : Gl X "set") (hm2 : X.mg "set" = none) (ha : PE X a ta)
    (na : starEach [a] X.env = (false, eval a X.env) :: starEach [] X.env := by rfl) : PE X (.Call (.Name "len" p) [.Call (.Name "set" p2) [a] [] q] [] pos) (tLenSetN X.K ta) := by
  refine ⟨fun pins s σ H Q I h => ?_⟩
  refine Call_ (ld_blt I hg hm boot_len (PyProof.Rows.callWith_builtin1 (PyProof.Rows.args_cons ?_ rfl) rfl rfl))
  refine Call_ (ld_blt I hg2 hm2 boot_set ?_)
  refine PyProof.Rows.callWith_type1 (PyProof.Rows.args_cons (thn (ha.run pins s σ H _ I h) fun v s1 ⟨x, H1, I1, r1, l, xs, ex, hq, hn, q1⟩ => PyProof.Rows.args_nil ?_) na) na rfl
  subst ex
  cases r1
  have hcnt := cntS_le xs
  have fin : ∀ (h' : Heap) (tk : Nat), SetTo X.w X.prog h' s1.heap.objs.size xs xs.length → (∀ b o, s1.heap.get? b = some o → h'.get? b = some o) →
      wpAny (model X.prog X.w) X.A (spliced (backTo pos (starEach [] X.env))) (fun vs s2 => wpAny (model X.prog X.w) X.A (call (.builtin "len") (Value.ref s1.heap.objs.size :: vs)) (EP X pins σ Q) X.xe s2) X.xe { s1 with heap := h', toks := tk } := fun h' tk hS hk => by
    refine PyProof.Rows.args_nil ?_
    unfold SetTo at hS
    rw [List.take_length] at hS
    obtain ⟨o, es, ep, t, ho, hex, hd, _, _, _, hf, hn1⟩ := hS
    have I2 : Inv X pins σ H1 { s1 with heap := h', toks := tk } := I1.kept fun b o e => hk b o e
    exact call_len_set ho hex hd hf (by rw [hn1]; omega) ⟨.int (cntS xs), H1, I2.tok _, ⟨_, by rw [hn1]⟩, q1⟩
  rcases hq with hq | hq
  · obtain ⟨its, r, pl, hz⟩ := I1.list hq
    exact call_setTexts goes_list (I1.ok.hd hc) pl.isList (by simpa using r.strs) hn fin
  · obtain ⟨its, r, pl, hz⟩ := I1.tuple hq
    exact call_setTexts goes_tuple (I1.ok.hd hc) pl (by simpa using r.strs) hn fin
def strsIn : D → Option (List Str)
  | .lst ds => strsOf ds
  | .tup ds => strsOf ds
  | _ => none
/-- len(set(xs)) -/
def lenSetD (d : D) : Option D := (strsIn d).bind fun xs => if xs.length < 4000 then some (.int (cntS xs)) else none
def fLenSet (k : FK) : FE := fun e => (k e).bind fun p => (p.2 p.1).bind fun d => (lenSetD d).bind fun d => some (p.1, d)
theorem jlenSet {np : Nat} {K : PySem.W.Frag} {e : Expr} {te : TE} {ke : FK} {p p2 q pos : Pos} (hc : X.calm = true) (hg : Gl X "len") (hm : X.mg "len" = none) (hg2 : Gl X "set") (hm2 : X.mg "set" = none) (h : JK X np e te ke)
    (na : starEach [e] X.env = (false, eval e X.env) :: starEach [] X.env := by rfl) (hK : X.K = K := by rfl) : JE X np (.Call (.Name "len" p) [.Call (.Name "set" p2) [e] [] q] [] pos) (tLenSetN K te) (fLenSet ke) := by
  subst hK
  refine ⟨pe_lenSetN hc hg hm hg2 hm2 h.pe na, fun B F e σ H Q hn I e' d hf q => ?_⟩
  obtain ⟨⟨e1, ra⟩, h1, hf⟩ := bnd hf
  obtain ⟨x, h3, hf⟩ := bnd hf
  obtain ⟨y, h4, hf⟩ := bnd hf
  cases hf
  obtain ⟨xs, h5, hf⟩ := bnd h4
  split at hf
  · rename_i hl
    cases hf
    refine h.de B F e σ H _ hn I e1 ra h1 fun F1 v H1 s1 I1 l1 => ?_
    have rx := l1 F1 _ H1 _ (Same.refl _) I1 h3
    unfold strsIn at h5
    split at h5
    · obtain ⟨a, ys, ea, t1, r1⟩ := rx.lst' I1.sf
      obtain ⟨e2, _⟩ := strs_rps r1 h5
      subst e2
      exact ⟨a, xs, ea, .inl t1, hl, q _ _ _ s1 I1 (.int _)⟩
    · obtain ⟨a, ys, ea, t1, g1, r1⟩ := rx.tup' I1.sf
      obtain ⟨e2, _⟩ := strs_rps r1 h5
      subst e2
      exact ⟨a, xs, ea, .inr t1, hl, q _ _ _ s1 I1 (.int _)⟩
    · cases h5
  · cases hf
end
section
variable (s : Sl) (e : Sls)
theorem c_fLenSet (k : FK) : fLenSet k (s :: e) = (k (s :: e)).bind fun p => (p.2 p.1).bind fun d => (lenSetD d).bind fun d => some (p.1, d) := rfl
end
theorem d_lenSetL (ss : List Str) (h : ss.length < 4000) : lenSetD (.lst (ss.map D.str)) = some (.int (cntS ss)) := by
  simp only [lenSetD, strsIn, strsOf_map, Option.bind_some, if_pos h]
theorem d_lenSetT (ss : List Str) (h : ss.length < 4000) : lenSetD (.tup (ss.map D.str)) = some (.int (cntS ss)) := by
  simp only [lenSetD, strsIn, strsOf_map, Option.bind_some, if_pos h]
end M

namespace M
open PySem PySem.Spec PyProof.Rows L2
/-! ### t != () for any tuple -/
def neQe : D → D → Option Bool
  | .tup xs, .tup [] => some xs.isEmpty
  | a, b => neQ a b
def neE (a b : D) : Option D := (neQe a b).map fun k => .bl (!k)
def rNeE (K : PySem.W.Frag) : R2 := fun x y H Q => ∃ b, EqVals K H x y b ∧ Q (.bl (!b)) H
theorem op_neE {X : Cx} (hu : X.A.units + 200 < cLine) : OpR X (compareOp .NotEq) (rNeE X.K) := by
  intro pins s σ H x y v u Q I rx ry h
  obtain ⟨b, h, q⟩ := h
  rcases h with ⟨p, r, xs, rfl, rfl, h1, h2, rfl⟩ | h
  · cases rx
    cases ry
    obtain ⟨us, r1, t1, _⟩ := I.tuple h1
    obtain ⟨ws, r2, t2, _⟩ := I.tuple h2
    cases r2
    refine SeqAt.RcNeAt.tuples (A := X.A) (s := s) (e := fun _ => true) t1 t2 (Nat.lt_of_le_of_lt (Nat.le_add_right _ 200) hu) (fun j _ j2 => absurd j2 (by simp)) X.prog X.w X.xe _ ⟨.bl _, H, I, rfl, ?_⟩
    have e : ((List.range (min us.toArray.size ([] : List Value).toArray.size)).all (fun _ => true) && us.toArray.size == ([] : List Value).toArray.size) = xs.isEmpty := by
      cases xs with
      | nil => cases r1; rfl
      | cons a t => cases r1; simp
    rw [e]
    exact q
  · exact op_neX hu pins s σ H _ _ v u Q I rx ry ⟨b, h, q⟩
theorem om_neE {K : PySem.W.Frag} : OpM K (rNeE K) neE := by
  intro B F e σ H x y dx dy d Q I rx ry hf q
  obtain ⟨b, h1, h2⟩ := Option.map_eq_some_iff.mp hf
  subst h2
  refine ⟨b, ?_, q F _ H (Same.refl F) I (.bl _)⟩
  unfold neQe at h1
  split at h1
  · cases h1
    obtain ⟨p, us, e1, t1, _, r1⟩ := rx.tup' I.sf
    obtain ⟨q, ws, e2, t2, _, r2⟩ := ry.tup' I.sf
    cases r2
    refine .inl ⟨p, q, us, e1, e2, t1, t2, ?_⟩
    cases r1 <;> rfl
  · exact .inr (neQ_vals I.sf rx ry h1)
theorem oneE {X : Cx} {K : PySem.W.Frag} (hu : X.A.units + 200 < cLine) (hK : X.K = K := by rfl) : OpR X (compareOp .NotEq) (rNeE K) := by subst hK; exact op_neE hu
theorem d_neE (xs : List D) : neE (.tup xs) (.tup []) = some (.bl (!xs.isEmpty)) := rfl
end M

namespace M
open PySem PySem.Spec PyProof.Rows L2
theorem rest_nc {H : Hp} {e1 e2 : Sls} {σ : L2.St} {vs : List Nat} {p : Addr} (ho : vs.all (fun i => !((e1[i]?.getD .un).hand)) = true) (h : ¬ IsCell H e2 (L2.wipe σ vs) p) : ¬ IsCell H (restS e1 e2 vs) σ p := by
  rintro ⟨i, s, g1, g2⟩
  obtain ⟨c, fs, rfl⟩ := g2.ob
  rcases restS_get g1 with ⟨q1, q2⟩ | ⟨q1, q2⟩
  · have hh := List.all_eq_true.mp ho i q1
    rw [← q2] at hh
    cases hh
  · exact h ⟨i, _, q2, by rw [wipe_out q1]; exact g2⟩
/-! ### something made anew as the last argument -/
theorem IV.ext {K : PySem.W.Frag} {B : Bs} {F : Hp} {e : Sls} {σ : L2.St} {H : Hp} (I : IV K B F e σ H) {a : Addr} {s : Sl} (o : Ow K F H a s) (f : F a = none) (g : B.G a = none) (b : B.H a = none)
    (ne : ∀ (j : Nat) (s' : Sl), e[j]? = some s' → s'.own = true → σ[j]? ≠ some (some (.ref a))) (nc : ¬ IsCell H e σ a) : IV K B F (e ++ [s]) (σ ++ [some (.ref a)]) H := by
  have sp : ∀ {i : Nat} {t : Sl}, (e ++ [s])[i]? = some t → (i < e.length ∧ e[i]? = some t) ∨ (i = e.length ∧ t = s) := fun {i t} h => by
    by_cases z : i < e.length
    · rw [List.getElem?_append_left z] at h; exact .inl ⟨z, h⟩
    · rw [List.getElem?_append_right (by omega)] at h
      have : i - e.length = 0 := by
        rcases Nat.eq_zero_or_pos (i - e.length) with y | y
        · exact y
        · rw [List.getElem?_eq_none (by rw [List.length_cons, List.length_nil]; omega)] at h; cases h
      rw [this] at h
      cases h
      exact .inr ⟨by omega, rfl⟩
  have sl : ∀ {i : Nat}, i < e.length → (σ ++ [some (V.ref a)])[i]? = σ[i]? := fun {i} h => List.getElem?_append_left (by rw [← I.len]; exact h)
  have sr : (σ ++ [some (V.ref a)])[e.length]? = some (some (.ref a)) := by
    rw [List.getElem?_append_right (by rw [I.len]; exact Nat.le_refl _), I.len, Nat.sub_self]; rfl
  refine ⟨I.sf, I.sg, I.g1, I.g2, I.g3, by rw [List.length_append, List.length_append, I.len]; rfl, fun i t v h1 h2 => ?_, fun i j t u hij h1 h2 o1 o2 => ?_, fun i v hi hv => ?_,
    I.ob.go (Same.refl F) (fun b hb => ⟨rfl, I.ob.free hb⟩) (fun i c fs h => ?_) fun j t b h1 h2 h3 => ?_⟩
  · rcases sp h1 with ⟨z, h⟩ | ⟨rfl, rfl⟩
    · rw [sl z] at h2; exact I.sl i t v h h2
    · rw [sr] at h2; cases h2
      exact .ow o f g fun _ => b
  · rcases sp h1 with ⟨z, h⟩ | ⟨rfl, rfl⟩
    · rcases sp h2 with ⟨z2, h'⟩ | ⟨rfl, rfl⟩
      · rw [sl z, sl z2]; exact I.ap i j t u hij h h' o1 o2
      · rw [sl z, sr]; exact ne i t h o1
    · rcases sp h2 with ⟨z2, h'⟩ | ⟨rfl, rfl⟩
      · rw [sl z2, sr]; exact fun y => ne j u h' o2 y.symm
      · exact absurd rfl hij
  · have h := I.an i v hi hv
    rw [sl (by rw [I.len]; exact (List.getElem?_eq_some_iff.mp h).1)]
    exact h
  · rcases sp h with ⟨z, h⟩ | ⟨rfl, z⟩
    · exact ⟨h, sl z⟩
    · subst z; cases o
  · rcases sp h1 with ⟨z, h⟩ | ⟨rfl, rfl⟩
    · rw [sl z] at h3
      exact fun ⟨k, s, h4, h5⟩ => I.ob.aw k j s t b h4 h h5 h2 h3
    · rw [sr] at h3; cases h3
      exact nc
theorem IV.unext {K : PySem.W.Frag} {B : Bs} {F F0 : Hp} {e e0 : Sls} {σ : L2.St} {x : Option V} {H H0 : Hp} (I0 : IV K B F0 e0 σ H0) (I : IV K B F e (σ ++ [x]) H) : IV K B F e.dropLast σ H := by
  have hl : e.length = σ.length + 1 := by rw [I.len, List.length_append]; rfl
  have dl : ∀ {i : Nat} {t : Sl}, e.dropLast[i]? = some t → e[i]? = some t ∧ (σ ++ [x])[i]? = σ[i]? := fun {i t} h => by
    rw [List.dropLast_eq_take] at h
    obtain ⟨h1, h2⟩ := take_get h
    exact ⟨h2, List.getElem?_append_left (by omega)⟩
  refine ⟨I.sf, I.sg, I.g1, I.g2, I.g3, by rw [List.length_dropLast, hl]; rfl, fun i t v h1 h2 => ?_, fun i j t u hij h1 h2 o1 o2 => ?_, I0.an,
    I.ob.go (Same.refl F) (fun b hb => ⟨rfl, I.ob.free hb⟩) (fun i c fs h => ⟨(dl h).1, (dl h).2.symm⟩) fun j t b h1 h2 h3 ⟨k, s, h4, h5⟩ => I.ob.aw k j s t b h4 (dl h1).1 h5 h2 (by rw [(dl h1).2]; exact h3)⟩
  · obtain ⟨a1, a2⟩ := dl h1
    exact I.sl i t v a1 (by rw [a2]; exact h2)
  · obtain ⟨a1, a2⟩ := dl h1
    obtain ⟨b1, b2⟩ := dl h2
    rw [← a2, ← b2]; exact I.ap i j t u hij a1 b1 o1 o2
theorem ArgRs.snoc {K : PySem.W.Frag} {F : Hp} {σ : L2.St} {x : Option V} {a : Addr} {n : Nat} (hx : (σ ++ [x])[n]? = some (some (.ref a))) : ∀ {vs : List V} {as : List Arg}, ArgRs K F σ vs as → ArgRs K F (σ ++ [x]) (vs ++ [.ref a]) (as ++ [.ow n])
  | _, _, .nil => .cons (.ow hx) .nil
  | _, _, .cons r t => by
    refine .cons ?_ (ArgRs.snoc hx t)
    cases r with
    | im r => exact .im r
    | ow h => exact .ow (by rw [List.getElem?_append_left (List.getElem?_eq_some_iff.mp h).1]; exact h)
def fCall2 (m : FC) (e : Sls) (as : List Arg) : Option (Sls × Sl) := if (owIx as).Nodup then (argSs e as).bind fun es => (m es).bind fun q => some (putBack e as q.1, q.2) else none
abbrev FAL := Sls → Option (Sls × List Arg × Sl)
def fCallL (m : FC) (k : FAL) : FE := fun e => (k e).bind fun p => (fCall2 m (p.1 ++ [p.2.2]) (p.2.1 ++ [.ow p.1.length])).bind fun q => match q.2 with
  | .im d => some (q.1.dropLast, d)
  | _ => none
def DAL (K : PySem.W.Frag) (np : Nat) (t : TA) (f : FAL) : Prop :=
  ∀ (B : Bs) (F : Hp) (e : Sls) (σ : L2.St) (H : Hp) (Q : List V → Hp → Prop), B.np = np → IV K B F e σ H → ∀ (e' : Sls) (as : List Arg) (s : Sl), f e = some (e', as, s) →
    (∀ (F' : Hp) (vs : List V) (a : Addr) (H' : Hp), Same F F' → IV K B F' e' σ H' → ArgRs K F' σ vs as → Ow K F' H' a s → F' a = none → B.G a = none → B.H a = none → (∀ (j : Nat) (s' : Sl), e'[j]? = some s' → s'.own = true → σ[j]? ≠ some (some (.ref a))) → ¬ IsCell H' e' σ a → Q (vs ++ [.ref a]) H') → t σ H Q
structure JAL (X : Cx) (np : Nat) (es : List Expr) (t : TA) (f : FAL) : Prop where
  pa : PA X es t
  de : DAL X.K np t f
def lOne (o : Sls → Option (Sls × Sl)) : FAL := fun e => (o e).bind fun r => some (r.1, [], r.2)
def lIm (f : FE) (g : FAL) : FAL := fun e => (f e).bind fun p => (g p.1).bind fun q => some (q.1, .im p.2 :: q.2.1, q.2.2)
def lOw (i : Nat) (g : FAL) : FAL := fun e => if ((e[i]?.getD .un).hand) = true then (g e).bind fun q => some (q.1, .ow i :: q.2.1, q.2.2) else none
section
variable {X : Cx} {np : Nat} {ex : Expr} {es : List Expr} {te : TE} {t : TA} {fe : FE} {fa : FAL}
theorem jal_one {o : Sls → Option (Sls × Sl)} (h : JOw X np ex te o) (hs : starEach [ex] X.env = (false, eval ex X.env) :: starEach [] X.env := by rfl) : JAL X np [ex] (tCons te tNil) (lOne o) := by
  refine ⟨pa_cons h.pe pa_nil hs, fun B F e σ H Q hn I e' as s hf q => ?_⟩
  obtain ⟨⟨e1, s1⟩, h1, hf⟩ := bnd hf
  cases hf
  exact h.de B F e σ H _ hn I e1 s1 h1 fun F' a H' sm I' o f1 f2 f3 ne nc => q F' [] a H' sm I' .nil o f1 f2 f3 ne nc
theorem jal_im (h : JE X np ex te fe) (h2 : JAL X np es t fa) (hs : starEach (ex :: es) X.env = (false, eval ex X.env) :: starEach es X.env := by rfl) : JAL X np (ex :: es) (tCons te t) (lIm fe fa) := by
  refine ⟨pa_cons h.pe h2.pa hs, fun B F e σ H Q hn I e' as s hf q => ?_⟩
  obtain ⟨⟨e1, d⟩, h1, hf⟩ := bnd hf
  obtain ⟨⟨e2, as2, s2⟩, h3, hf⟩ := bnd hf
  cases hf
  refine h.de B F e σ H _ hn I e1 d h1 fun F' v H' s I' r => ?_
  exact h2.de B F' e1 σ H' _ hn I' e2 as2 s2 h3 fun F2 vs a H2 s2 I2 r2 o f1 f2 f3 ne nc => q F2 (v :: vs) a H2 (s.trans s2) I2 (.cons (.im (r.mono s2)) r2) o f1 f2 f3 ne nc
theorem jal_ow (i : Nat) {x : Str} {p : Pos} (h : PE X (.Name x p) (tVar i)) (h2 : JAL X np es t fa) (hs : starEach (.Name x p :: es) X.env = (false, eval (.Name x p) X.env) :: starEach es X.env := by rfl) : JAL X np (.Name x p :: es) (tCons (tVar i) t) (lOw i fa) := by
  refine ⟨pa_cons h h2.pa hs, fun B F e σ H Q hn I e' as s hf q => ?_⟩
  unfold lOw at hf
  split at hf
  · rename_i ho
    obtain ⟨⟨e2, as2, s2⟩, h3, hf⟩ := bnd hf
    cases hf
    cases hs0 : e[i]? with
    | none => rw [hs0] at ho; cases ho
    | some s0 =>
      rw [hs0] at ho
      obtain ⟨a, hv0⟩ := I.handed hs0 ho
      exact ⟨.ref a, hv0, h2.de B F e σ H _ hn I e2 as2 s2 h3 fun F2 vs b H2 s2 I2 r2 o f1 f2 f3 ne nc => q F2 (.ref a :: vs) b H2 s2 I2 (.cons (.ow hv0) r2) o f1 f2 f3 ne nc⟩
  · cases hf
theorem de_callL {K : PySem.W.Frag} {np n : Nat} {m : FC} {t : TA} {fa : FAL} {E : XK} (h : DAL K np t fa) (hlen : ∀ {es r}, m es = some r → es.length = n) : DE K np (tCall (spM K n m) [] E t) (fCallL m fa) := by
  intro B F e σ H Q hn I e' d hf q
  obtain ⟨⟨e1, as, s⟩, h1, hf⟩ := bnd hf
  obtain ⟨⟨e2, s2⟩, h2, hf⟩ := bnd hf
  have hd : s2 = .im d ∧ e2.dropLast = e' := by
    cases s2 with
    | im d0 => cases hf; exact ⟨rfl, rfl⟩
    | un => cases hf
    | lst _ => cases hf
    | dic _ => cases hf
    | ob _ _ => cases hf
  obtain ⟨rfl, rfl⟩ := hd
  unfold fCall2 at h2
  split at h2
  · rename_i hnd
    obtain ⟨es, h3, h2⟩ := bnd h2
    obtain ⟨⟨es', d'⟩, h4, h2⟩ := bnd h2
    cases h2
    refine h B F e σ H _ hn I e1 as s h1 fun F1 vs a H1 s1 I1 r1 o f1 f2 f3 ne nc => ?_
    rw [List.append_nil]
    have I2 := I1.ext o f1 f2 f3 ne nc
    have hx : (σ ++ [some (V.ref a)])[e1.length]? = some (some (.ref a)) := by
      rw [List.getElem?_append_right (by rw [I1.len]; exact Nat.le_refl _), I1.len, Nat.sub_self]; rfl
    refine call_core2 hlen I2 (r1.snoc hx) hnd h3 h4 fun F' v H' sm I' rv _ _ => ?_
    cases rv with
    | im r => exact q F' v H' (s1.trans sm) (I1.unext I') r
    | ow o _ _ _ => cases o
  · cases h2
theorem jcallL {K : PySem.W.Frag} {n k : Nat} {x : Str} {p pos : Pos} {ps : List Str} {m : FC} (G : DefOk X.prog X.w K X.mg X.base x ps k n m)
    (hr : RoomT k X.A) (hg : Gl X x) (ha : JAL X np (ex :: es) t fa) (hdb : (x == ("__debug__" : Str)) = false := by decide)
    (he : starEach (ex :: es) X.env = (false, eval ex X.env) :: starEach es X.env := by rfl) (hpl : (backTo pos (starEach es X.env)).any (·.1) = false := by rfl) (hK : X.K = K := by rfl) :
    JE X np (.Call (.Name x p) (ex :: es) [] pos) (tCall (spM K n m) [] E0 t) (fCallL m fa) := by
  subst hK
  obtain ⟨f, fd, G, b, kp, e, l, kw⟩ := G
  exact ⟨pe_callT G hr hg e kp b.b .nil pass0 ha.pa hdb he hpl, de_callL ha.de (fun {es r} h => l es r h)⟩
end
/-! ### x[k] += c of one's own list -/
section
variable {X : Cx} {np : Nat}
def rGetL : V → V → Hp → VK → Prop := fun o i H Q => ∃ p xs k v, o = .ref p ∧ i = .int k ∧ H p = some (.lst xs) ∧ 0 ≤ k ∧ k < 2 ^ 62 ∧ xs[k.toNat]? = some v ∧ Q v H
theorem get_list : PGet X rGetL := by
  intro pins s σ H o i ov iv Q I ro ri h
  obtain ⟨p, xs, k, v, rfl, rfl, hp, h0, h1, hx, q⟩ := h
  cases ro
  obtain ⟨t, rfl⟩ := ri
  obtain ⟨z, its, n, r, hl, e⟩ := I.lstM hp
  obtain ⟨u, hu, ru⟩ := r.get hx
  exact wpAny_getItem_list ⟨_, e, rfl, n, rfl⟩ h0 (by omega) (by rw [← Array.getElem?_toList]; exact hu) ⟨v, H, I, ru, q⟩
def sAugC (i : Nat) (k c : Int) : FS := fun e => match e[i]? with
  | some (.lst ds) => match ds[k.toNat]? with
    | some (.int n) => if 0 ≤ k ∧ k < 2 ^ 62 then some (e.set i (.lst (ds.set k.toNat (.int (n + c)))), .nx) else none
    | _ => none
  | _ => none
theorem jaug {i : Nat} {x : Str} {p pos tpos p1 p2 : Pos} {j1 j2} {k c : Int} (hv : PE X (.Name x p) (tVar i))
    (ha : ∀ ov iv new, augStore (.Constant (.int k) j1 p1) ov iv new = (do holding [new, ov, iv] (setItem ov iv new); release [new, ov, iv] []; pure .next) := by intros; rfl) :
    JS X np (.AugAssign (.Subscript (.Name x p) (.Constant (.int k) j1 p1) tpos) .Add (.Constant (.int c) j2 p2) pos) (tAugS (tVar i) (tC (.int k)) (tC (.int c)) rGetL (ipI fun i j => i + j) rSetL) (sAugC i k c) := by
  refine ⟨ps_augS hv pe_int get_list pe_int ip_add set_list ha, fun B F e σ H E hn I e' fl hf q => ?_⟩
  unfold sAugC at hf
  split at hf
  · rename_i ds hds
    split at hf
    · rename_i n hn'
      split at hf
      · rename_i hk
        cases hf
        obtain ⟨v0, hv0, r0⟩ := I.slot hds
        obtain ⟨a, ev, o, _⟩ := r0.of_own rfl
        subst ev
        cases o with
        | @lst xs _ g3 g4 =>
          obtain ⟨w, hw, rw'⟩ := g4.getD hn'
          cases rw'
          have hlt : k.toNat < xs.length := (List.getElem?_eq_some_iff.mp hw).1
          refine ⟨.ref a, hv0, a, xs, k, _, rfl, rfl, g3, hk.1, hk.2, hw, n, c, rfl, rfl, a, xs, k, k.toNat, rfl, rfl, g3, ?_, ?_⟩
          · unfold ixN
            rw [if_pos hk.1, if_pos (by omega)]
          · exact q F _ _ (Same.refl F) (I.turn (s' := .lst (ds.set k.toNat (.int (n + c)))) hds rfl hv0 (.lst upd_same (g4.set (.int _) _)))
      · cases hf
    · cases hf
  · cases hf
end
/-! ### d.update(e) -/
def rUpdate : V → List V → Hp → VK → Prop := fun x vs H Q => ∃ (a o : Addr) (kvs more : List (Key × V)), x = .ref a ∧ vs = [.ref o] ∧ H a = some (.dK kvs) ∧ Rd H o (.dK more) ∧ a ≠ o ∧ kvs.length + more.length ≤ sizeLine ∧ Q .non (upd H a (.dK (mergeK kvs more)))
section
variable {X : Cx} {np : Nat}
theorem mt_update : MtR X "dict.update" rUpdate := by
  intro pins s σ H x xs v us Q I rx rxs h
  obtain ⟨a, o, kvs, more, rfl, rfl, ha, ho, hao, hz, q⟩ := h
  cases rx
  obtain ⟨u, rfl, ru⟩ := rxs.one
  cases ru
  obtain ⟨z1, hd1, vs1, rel1, dd1⟩ := dk_of I.hok ha
  obtain ⟨z2, hd2, vs2, rel2, dd2⟩ := dk_rd I.hok ho
  refine call_meetsIn PySem.F.slot_dict_update dd1.typeIs PySem.F.entry_dict_update (PySem.F.args_dict_update_2 _ _) (meets_dict_update (mixKind X.prog X.w) a o hao hd2)
    ⟨vs1, vs2, dd1, dd2, by rw [← Paired.length rel1, ← Paired.length rel2]; exact hz, fun h' hd' ho' hs => ?_⟩
  have he : ∃ q, h'.get? a = some q := let ⟨q, _, _, hq, _⟩ := hd'; ⟨q, hq⟩
  refine ⟨.non, _, d_write I (t' := s.toks) (by rw [ha]; exact True.intro) hs he (dk_new ?_ hd1 (rel2.merge rel1) hd'), rfl, q⟩
  exact Nat.le_trans (length_mergeK more kvs) hz
def OwN (K : PySem.W.Frag) (r : V → List V → Hp → VK → Prop) (g : Sl → List D → Option (Sl × D)) : Prop :=
  ∀ (F H : Hp) (a : Addr) (s s' : Sl) (xs : List V) (ds : List D) (d : D) (Q : VK), Same F H → F a = none → Ow K F H a s → Rps K F xs ds → g s ds = some (s', d) →
    (∀ (o : HO) (v : V), Ow K F (upd H a o) a s' → Rp K F v d → Q v (upd H a o)) → r (.ref a) xs H Q
theorem de_bmN {K : PySem.W.Frag} {np n : Nat} {T : String} {i : Nat} {r : V → List V → Hp → VK → Prop} {g : Sl → List D → Option (Sl × D)} {t : TA} {fs : FEs} (hm : OwN K r g) (h : DEs K np n t fs) : DE K np (tBM K T r (tVar i) t) (fBm T i g fs) := by
  intro B F e σ H Q hn I e' d hf q
  unfold fBm at hf
  split at hf
  · rename_i s0 h0
    split at hf
    · rename_i ho
      obtain ⟨hT, ho⟩ := ho
      subst hT
      obtain ⟨⟨e1, ds⟩, h1, hf⟩ := bnd hf
      simp only at hf
      split at hf
      · rename_i s h2
        split at hf
        · rename_i hos
          obtain ⟨⟨s', d'⟩, h3, hf⟩ := bnd hf
          cases hf
          obtain ⟨v0, hv0, r0⟩ := I.slot h0
          obtain ⟨a, ev, o0, _⟩ := r0.of_own ho
          subst ev
          refine ⟨.ref a, hv0, tyV_own o0, h B F e σ H _ hn I e1 ds h1 fun F1 vs H1 s1 I1 r1 _ => ?_⟩
          obtain ⟨a', ev, o1, f1, _⟩ := (I1.sl i _ _ h2 hv0).of_own hos
          cases ev
          refine hm F1 H1 a s s' vs ds _ Q I1.sf f1 o1 r1 h3 fun o v ow rv => ?_
          exact q F1 v _ s1 (I1.turn h2 hos hv0 ow) rv
        · cases hf
      · cases hf
    · cases hf
  · cases hf
def gUpdate : Sl → List D → Option (Sl × D)
  | .dic es, [.dic ks] => if es.length + ks.length ≤ sizeLine then some (.dic (ks.foldl (fun acc kv => putG acc kv.1 kv.2) es), .non) else none
  | _, _ => none
theorem ow_update {K : PySem.W.Frag} : OwN K rUpdate gUpdate := by
  intro F H a s s' xs ds d Q sf fa o r hf q
  unfold gUpdate at hf
  split at hf
  · split at hf
    · rename_i hz
      cases hf
      obtain ⟨x, rfl, rx⟩ : ∃ x, xs = [x] ∧ Rp K F x (.dic _) := by cases r with | cons r t => cases t; exact ⟨_, rfl, r⟩
      cases o with
      | dic h1 h2 =>
        cases rx with
        | @dic b kvs _ rd rk =>
          have hb : a ≠ b := fun z => by
            subst z
            rcases rd with rd | ⟨_, rd⟩ <;> (rw [fa] at rd; cases rd)
          refine ⟨a, b, _, kvs, rfl, rfl, h1, rd_mono sf rd, hb, by rw [h2.length, rk.length]; exact hz, ?_⟩
          exact q _ _ (.dic upd_same (merge_rpk rk h2)) .non
    · cases hf
  · cases hf
theorem jupdate {K : PySem.W.Frag} {i : Nat} {x : Str} {p apos cpos : Pos} {ex : Expr} {te : TE} {fe : FE} (hv : PE X (.Name x p) (tVar i)) (h : JE X np ex te fe)
    (hs : starEach [ex] X.env = (false, eval ex X.env) :: starEach [] X.env := by rfl) (hbase : attributeBase (.Name x p) "update" X.env (eval (.Name x p) X.env) = eval (.Name x p) X.env := by rfl)
    (hfew : ((backTo cpos (starEach (ex :: []) X.env)).all (fun x => !x.1) && (backToKw cpos (keywordEach [] X.env)).all (fun x => x.1.isSome)
      && decide ((ex :: []).length + ([] : List Keyword).length + (if ([] : List Keyword).isEmpty then 0 else 1) < 30)) = true := by rfl)
    (hline : (apos.endLine == cpos.line) = true := by rfl) (hplain : (backTo cpos (starEach [] X.env)).any (·.1) = false := by rfl) (hK : X.K = K := by rfl) :
    JE X np (.Call (.Attribute (.Name x p) "update" apos) [ex] [] cpos) (tBM K "dict" rUpdate (tVar i) (tCons te tNil)) (fBm "dict" i gUpdate (fCons fe fNil)) := by
  subst hK
  exact ⟨pe_bm PySem.F.plainAttrs_dict PySem.F.slot_dict_update PySem.F.type_dict_update mt_update hv (pa_cons h.pe pa_nil hs) hbase hfew hline hs hplain, de_bmN ow_update (jes_cons h jes_nil hs).de⟩
end
/-! ### dict comprehensions -/
def dcLoop (vs : List Nat) (b : FG) (c : FT) (fk fv : FE) : List D → Sls → List (Key × D) → Option (Sls × List (Key × D))
  | [], e, acc => some (e, acc)
  | d :: ds, e, acc => (b e d).bind fun e1 => (c e1).bind fun p => if p.2 = true then (fk p.1).bind fun y => (fv y.1).bind fun q => y.2.key.bind fun k => if acc.length < sizeLine then dcLoop vs b c fk fv ds (wipeS q.1 vs) (putG acc k q.2) else none
    else dcLoop vs b c fk fv ds (wipeS p.1 vs) acc
def oDc (it : FI) (vs : List Nat) (b : FG) (c : FT) (fk fv : FE) : Sls → Option (Sls × Sl) := fun e => (it e).bind fun p =>
  if vs.all (fun i => !((p.1[i]?.getD .un).hand)) = true then (dcLoop vs b c fk fv p.2 (wipeS p.1 vs) []).bind fun q => some (restS p.1 q.1 vs, .dic q.2) else none
theorem dow_dc {K : PySem.W.Frag} {np : Nat} {wi : TI} {fi : FI} {ts vs : List Nat} {g : TG} {b : FG} {tt : TT} {c : FT} {tk tv : TE} {fk fv : FE} (hi : DI K np wi fi) (hg : DG K np ts g b) (ht : DT K np tt c) (hk : DE K np tk fk) (he : DE K np tv fv)
    (hts : ∀ i ∈ ts, i ∈ vs) (hvs : ∀ i ∈ vs, np ≤ i) : DOw K np (tDc wi g tt tk tv vs) (oDc fi vs b c fk fv) := by
  intro B F e σ H Q hn I e' d hf q
  obtain ⟨⟨e1, ds⟩, h1, hf⟩ := bnd hf
  split at hf
  · rename_i hown
    obtain ⟨⟨e2, out⟩, h2, hf⟩ := bnd hf
    cases hf
    refine hi B F e σ H _ hn I e1 ds h1 fun F1 J H1 s1 I1 it => fun p hp => ?_
    obtain ⟨fp, gp, bp, hp0⟩ := I1.free hp
    have hw : ∀ {B' : Bs} {F' : Hp} {e' : Sls} {σ' : L2.St} {H' : Hp}, B'.np = np → IV K B' F' e' σ' H' → Out ts (L2.wipe σ vs) σ' → IV K B' F' (wipeS e' vs) (L2.wipe σ vs) H' := fun {B' F' e' σ' H'} hn' I' o => by
      refine I'.re (by rw [wipeS_length, I'.len, o.1]) (fun i s hs => ?_) fun i hi' => ?_
      · rcases wipeS_get hs with q | ⟨q1, q2⟩
        · exact .inl q
        · exact .inr (.inl ⟨q2, by rw [wipe_out q1, o.get hts q1]⟩)
      · have : i ∉ vs := fun m => by have := hvs i m; omega
        rw [wipe_out this, o.get hts this]
    refine ⟨fun i m H' => m = ds.length - i ∧ i ≤ ds.length ∧ ∃ F' e' acc accv, Same F1 F' ∧ IV K { B with G := upd B.G p (.dK accv) } F' e' (L2.wipe σ vs) H' ∧ Rpk K F' accv acc ∧ dcLoop vs b c fk fv (ds.drop i) e' acc = some (e2, out), ⟨ds.length, rfl, Nat.zero_le _, F1, wipeS e1 vs, [], [], Same.refl _, ?_, .nil, by rw [List.drop_zero]; exact h2⟩, ?_⟩
    · refine IV.guard ?_ hp
      refine I1.re (by rw [wipeS_length, L2.wipe_length, I1.len]) (fun i s hs => ?_) fun i hi' => ?_
      · rcases wipeS_get hs with q | ⟨q1, q2⟩
        · exact .inl q
        · exact .inr (.inl ⟨q2, by rw [wipe_out q1]⟩)
      · have : i ∉ vs := fun m => by have := hvs i m; omega
        rw [wipe_out this]
    · rintro i m H' ⟨rfl, hle, F', e', acc, accv, s2, I2, r2, hl⟩
      obtain ⟨i1, i2, i3⟩ := it F' _ e' _ H' s2 I2
      by_cases hlt : i < ds.length
      · refine .inr ⟨i1 i hlt, fun H4 => ∃ m', m' < ds.length - i ∧ m' = ds.length - (i + 1) ∧ i + 1 ≤ ds.length ∧ ∃ F' e' acc accv, Same F1 F' ∧ IV K { B with G := upd B.G p (.dK accv) } F' e' (L2.wipe σ vs) H4 ∧ Rpk K F' accv acc ∧ dcLoop vs b c fk fv (ds.drop (i + 1)) e' acc = some (e2, out),
          fun H4 ⟨m', a1, a2, a3⟩ => ⟨m', a1, a2, a3⟩, fun x H3 hy => ?_⟩
        obtain ⟨F3, dx, s3, I3, hd, rx⟩ := i3 i x H3 hlt hy
        have ed : ds.drop i = dx :: ds.drop (i + 1) := by
          have hlt' := hlt
          rw [List.getElem?_eq_getElem hlt] at hd
          cases hd
          exact List.drop_eq_getElem_cons hlt'
        rw [ed, dcLoop] at hl
        obtain ⟨ea, ha, hl⟩ := bnd hl
        obtain ⟨⟨eb, k⟩, hb, hl⟩ := bnd hl
        refine hg { B with G := upd B.G p (.dK accv) } F3 e' _ H3 x dx _ hn I3 rx ea ha fun F4 σ4 H4 s4 I4 o4 => ⟨?_, ?_⟩
        · have := o4.wipe hts
          rw [this]
          apply List.ext_getElem?
          intro j
          by_cases hj : j ∈ vs
          · have z : ∀ (τ : L2.St) (us : List Nat), j ∈ us → (L2.wipe τ us)[j]? = if j < τ.length then some none else none := fun τ us => by
              induction us with
              | nil => intro h; cases h
              | cons v us ih =>
                intro hm
                unfold L2.wipe
                by_cases z : v = j
                · subst z
                  rw [List.getElem?_set]
                  simp only [if_true, wipe_length]
                · rw [List.getElem?_set_ne z]
                  rcases List.mem_cons.mp hm with q | q
                  · exact absurd q.symm z
                  · exact ih q
            rw [z _ _ hj, z _ _ hj, wipe_length]
          · rw [wipe_out hj]
        refine ht { B with G := upd B.G p (.dK accv) } F4 ea σ4 H4 _ hn I4 eb k hb fun F5 H5 s5 I5 => ?_
        cases k with
        | false =>
          refine iteF ⟨_, by omega, rfl, hlt, F5, wipeS eb vs, acc, accv, s2.trans (s3.trans (s4.trans s5)), hw hn I5 o4, r2.mono (s3.trans (s4.trans s5)), hl⟩
        | true =>
          simp only [if_true] at hl
          obtain ⟨⟨ec, y⟩, hc, hl⟩ := bnd hl
          obtain ⟨⟨ed', z⟩, hdv, hl⟩ := bnd hl
          obtain ⟨k, hkk, hl⟩ := bnd hl
          split at hl
          · rename_i hsz
            refine iteT (hk { B with G := upd B.G p (.dK accv) } F5 eb σ4 H5 _ hn I5 ec y hc fun F6 v6 H6 s6 I6 r6 => ?_)
            refine he { B with G := upd B.G p (.dK accv) } F6 ec σ4 H6 _ hn I6 ed' z hdv fun F7 v7 H7 s7 I7 r7 => ?_
            have s27 := s3.trans (s4.trans (s5.trans (s6.trans s7)))
            refine ⟨accv, k, key_rpo (.rp r6 : RpO K F6 H6 v6 y) hkk, I7.sg p _ (show upd B.G p _ p = some _ from upd_same), by rw [r2.length]; exact hsz, _, by omega, rfl, hlt, F7, wipeS ed' vs, putG acc k z, putG accv k v7, s2.trans s27, ?_, put_rpk r7 (r2.mono s27), hl⟩
            rw [putG_put]
            exact IV.grow bp (hw hn I7 o4)
          · cases hl
      · have e : i = ds.length := by omega
        subst e
        rw [List.drop_length, dcLoop] at hl
        cases hl
        refine .inl ⟨i2, ?_⟩
        obtain ⟨I3, hpp, hpf, hne, hnc⟩ := IV.unguard2 gp bp I2
        have I4 : IV K B F' (restS e1 e2 vs) σ H' := by
          refine I3.re (by rw [restS_length, I3.len, L2.wipe_length]) (fun i s hs => ?_) fun i hi' => ?_
          · rcases restS_get hs with ⟨q1, q2⟩ | ⟨q1, q2⟩
            · have ho := List.all_eq_true.mp hown i q1
              cases hs1 : e1[i]? with
              | none => rw [hs1] at q2; exact .inl q2
              | some s0 =>
                rw [hs1] at q2 ho
                cases s0 with
                | un => exact .inl q2
                | im d0 =>
                  obtain ⟨v0, hv0, r0⟩ := I1.slot hs1
                  obtain ⟨x0, e0, r1⟩ := r0.of_im
                  subst e0
                  exact .inr (.inr ⟨x0, d0, q2, hv0, r1.mono s2⟩)
                | lst _ => cases ho
                | dic _ => cases ho
                | ob _ _ => cases ho
            · exact .inr (.inl ⟨q2, by rw [wipe_out q1]⟩)
          · have : i ∉ vs := fun m => by have := hvs i m; omega
            rw [wipe_out this]
        refine q F' p H' (s1.trans s2) I4 (.dic hpp r2) hpf gp hp0 (fun j s hj ho => ?_) (rest_nc hown hnc)
        rcases restS_get hj with ⟨q1, q2⟩ | ⟨q1, q2⟩
        · exfalso
          have hh := List.all_eq_true.mp hown j q1
          rw [← q2, Sl.hand_own ho] at hh
          cases hh
        · rw [← wipe_out (σ := σ) q1]
          exact hne j s q2 ho
  · cases hf
theorem jow_dc {X : Cx} {np : Nat} {kx vx tg iter : Expr} {ifs : List Expr} {scope : Scope} {own : List (Str × Nat)} {pos : Pos} {wi : TI} {fi : FI} {ts : List Nat} {g : TG} {b : FG} {tt : TT} {c : FT} {tk tv : TE} {fk fv : FE} (hc : X.calm = true) (hN : X.N.Nodup)
    (hi : JI X np tg iter wi fi) (ok : BlkOk X.N X.env.scope scope own)
    (hg : ∀ (s : Shared) (H : Hp) (C : Addr) (cl : List (Str × Addr)) (fp : List Addr), JG (X.blk s H scope (compEnvC scope cl C X.env) fp) np tg ts g b)
    (ht : ∀ (s : Shared) (H : Hp) (C : Addr) (cl : List (Str × Addr)) (fp : List Addr), JTs (X.blk s H scope (compEnvC scope cl C X.env) fp) np ifs tt c)
    (hk : ∀ (s : Shared) (H : Hp) (C : Addr) (cl : List (Str × Addr)) (fp : List Addr), JE (X.blk s H scope (compEnvC scope cl C X.env) fp) np kx tk fk)
    (he : ∀ (s : Shared) (H : Hp) (C : Addr) (cl : List (Str × Addr)) (fp : List Addr), JE (X.blk s H scope (compEnvC scope cl C X.env) fp) np vx tv fv)
    (hts : ∀ i ∈ ts, i ∈ own.map (·.2) := by decide) (hvs : ∀ i ∈ own.map (·.2), np ≤ i := by decide) (hs : ∀ x, foldedSetIterable iter X.env x = pure x := by intro _; rfl) :
    JOw X np (.DictComp kx vx [⟨tg, iter, ifs, 0⟩] scope pos) (tDc wi g tt tk tv (own.map (·.2))) (oDc fi (own.map (·.2)) b c fk fv) := by
  refine ⟨pe_dc hc hN hi.pi ok (fun s H C cl fp => (hg s H C cl fp).pg) (fun s H C cl fp => (ht s H C cl fp).pts) (fun s H C cl fp => (hk s H C cl fp).pe) (fun s H C cl fp => (he s H C cl fp).pe) hs, ?_⟩
  exact dow_dc hi.de (hg X.s_0 X.H_0 0 [] []).de (ht X.s_0 X.H_0 0 [] []).de (hk X.s_0 X.H_0 0 [] []).de (he X.s_0 X.H_0 0 [] []).de hts hvs
end M

namespace M
open PySem PySem.Spec PyProof.Rows L2
/-! ### a comprehension's list as one's own -/
def oLc (it : FI) (vs : List Nat) (b : FG) (c : FT) (f : FE) : Sls → Option (Sls × Sl) := fun e => (it e).bind fun p =>
  if vs.all (fun i => !((p.1[i]?.getD .un).hand)) = true then (lcLoop vs b c f p.2 (wipeS p.1 vs) []).bind fun q => some (restS p.1 q.1 vs, .lst q.2) else none
theorem dow_lc {K : PySem.W.Frag} {np : Nat} {wi : TI} {fi : FI} {ts vs : List Nat} {g : TG} {b : FG} {tt : TT} {c : FT} {te : TE} {f : FE} (hi : DI K np wi fi) (hg : DG K np ts g b) (ht : DT K np tt c) (he : DE K np te f)
    (hts : ∀ i ∈ ts, i ∈ vs) (hvs : ∀ i ∈ vs, np ≤ i) : DOw K np (tLc wi g tt te vs) (oLc fi vs b c f) := by
  intro B F e σ H Q hn I e' d hf q
  obtain ⟨⟨e1, ds⟩, h1, hf⟩ := bnd hf
  split at hf
  · rename_i hown
    obtain ⟨⟨e2, out⟩, h2, hf⟩ := bnd hf
    cases hf
    refine hi B F e σ H _ hn I e1 ds h1 fun F1 J H1 s1 I1 it => fun p hp => ?_
    obtain ⟨fp, gp, bp, hp0⟩ := I1.free hp
    have hw : ∀ {B' : Bs} {F' : Hp} {e' : Sls} {σ' : L2.St} {H' : Hp}, B'.np = np → IV K B' F' e' σ' H' → Out ts (L2.wipe σ vs) σ' → IV K B' F' (wipeS e' vs) (L2.wipe σ vs) H' := fun {B' F' e' σ' H'} hn' I' o => by
      refine I'.re (by rw [wipeS_length, I'.len, o.1]) (fun i s hs => ?_) fun i hi' => ?_
      · rcases wipeS_get hs with q | ⟨q1, q2⟩
        · exact .inl q
        · exact .inr (.inl ⟨q2, by rw [wipe_out q1, o.get hts q1]⟩)
      · have : i ∉ vs := fun m => by have := hvs i m; omega
        rw [wipe_out this, o.get hts this]
    refine ⟨fun i m H' => m = ds.length - i ∧ i ≤ ds.length ∧ ∃ F' e' acc accv, Same F1 F' ∧ IV K { B with G := upd B.G p (.lst accv) } F' e' (L2.wipe σ vs) H' ∧ Rps K F' accv acc ∧ lcLoop vs b c f (ds.drop i) e' acc = some (e2, out), ⟨ds.length, rfl, Nat.zero_le _, F1, wipeS e1 vs, [], [], Same.refl _, ?_, .nil, by rw [List.drop_zero]; exact h2⟩, ?_⟩
    · refine IV.guard ?_ hp
      refine I1.re (by rw [wipeS_length, L2.wipe_length, I1.len]) (fun i s hs => ?_) fun i hi' => ?_
      · rcases wipeS_get hs with q | ⟨q1, q2⟩
        · exact .inl q
        · exact .inr (.inl ⟨q2, by rw [wipe_out q1]⟩)
      · have : i ∉ vs := fun m => by have := hvs i m; omega
        rw [wipe_out this]
    · rintro i m H' ⟨rfl, hle, F', e', acc, accv, s2, I2, r2, hl⟩
      obtain ⟨i1, i2, i3⟩ := it F' _ e' _ H' s2 I2
      by_cases hlt : i < ds.length
      · refine .inr ⟨i1 i hlt, fun H4 => ∃ m', m' < ds.length - i ∧ m' = ds.length - (i + 1) ∧ i + 1 ≤ ds.length ∧ ∃ F' e' acc accv, Same F1 F' ∧ IV K { B with G := upd B.G p (.lst accv) } F' e' (L2.wipe σ vs) H4 ∧ Rps K F' accv acc ∧ lcLoop vs b c f (ds.drop (i + 1)) e' acc = some (e2, out),
          fun H4 ⟨m', a1, a2, a3⟩ => ⟨m', a1, a2, a3⟩, fun x H3 hy => ?_⟩
        obtain ⟨F3, dx, s3, I3, hd, rx⟩ := i3 i x H3 hlt hy
        have ed : ds.drop i = dx :: ds.drop (i + 1) := by
          have hlt' := hlt
          rw [List.getElem?_eq_getElem hlt] at hd
          cases hd
          exact List.drop_eq_getElem_cons hlt'
        rw [ed, lcLoop] at hl
        obtain ⟨ea, ha, hl⟩ := bnd hl
        obtain ⟨⟨eb, k⟩, hb, hl⟩ := bnd hl
        refine hg { B with G := upd B.G p (.lst accv) } F3 e' _ H3 x dx _ hn I3 rx ea ha fun F4 σ4 H4 s4 I4 o4 => ⟨?_, ?_⟩
        · have := o4.wipe hts
          rw [this]
          apply List.ext_getElem?
          intro j
          by_cases hj : j ∈ vs
          · have z : ∀ (τ : L2.St) (us : List Nat), j ∈ us → (L2.wipe τ us)[j]? = if j < τ.length then some none else none := fun τ us => by
              induction us with
              | nil => intro h; cases h
              | cons v us ih =>
                intro hm
                unfold L2.wipe
                by_cases z : v = j
                · subst z
                  rw [List.getElem?_set]
                  simp only [if_true, wipe_length]
                · rw [List.getElem?_set_ne z]
                  rcases List.mem_cons.mp hm with q | q
                  · exact absurd q.symm z
                  · exact ih q
            rw [z _ _ hj, z _ _ hj, wipe_length]
          · rw [wipe_out hj]
        refine ht { B with G := upd B.G p (.lst accv) } F4 ea σ4 H4 _ hn I4 eb k hb fun F5 H5 s5 I5 => ?_
        cases k with
        | false =>
          refine iteF ⟨_, by omega, rfl, hlt, F5, wipeS eb vs, acc, accv, s2.trans (s3.trans (s4.trans s5)), hw hn I5 o4, r2.mono (s3.trans (s4.trans s5)), hl⟩
        | true =>
          simp only [if_true] at hl
          obtain ⟨⟨ec, y⟩, hc, hl⟩ := bnd hl
          split at hl
          · rename_i hsz
            refine iteT (he { B with G := upd B.G p (.lst accv) } F5 eb σ4 H5 _ hn I5 ec y hc fun F6 v6 H6 s6 I6 r6 => ?_)
            have s26 := s3.trans (s4.trans (s5.trans s6))
            refine ⟨accv, I6.sg p _ (show upd B.G p _ p = some _ from upd_same), by rw [r2.length]; exact hsz, _, by omega, rfl, hlt, F6, wipeS ec vs, acc ++ [y], accv ++ [v6], s2.trans s26, ?_, (r2.mono s26).append (.cons r6 .nil), hl⟩
            exact IV.grow bp (hw hn I6 o4)
          · cases hl
      · have e : i = ds.length := by omega
        subst e
        rw [List.drop_length, lcLoop] at hl
        cases hl
        refine .inl ⟨i2, ?_⟩
        obtain ⟨I3, hpp, hpf, hne, hnc⟩ := IV.unguard2 gp bp I2
        have I4 : IV K B F' (restS e1 e2 vs) σ H' := by
          refine I3.re (by rw [restS_length, I3.len, L2.wipe_length]) (fun i s hs => ?_) fun i hi' => ?_
          · rcases restS_get hs with ⟨q1, q2⟩ | ⟨q1, q2⟩
            · have ho := List.all_eq_true.mp hown i q1
              cases hs1 : e1[i]? with
              | none => rw [hs1] at q2; exact .inl q2
              | some s0 =>
                rw [hs1] at q2 ho
                cases s0 with
                | un => exact .inl q2
                | im d0 =>
                  obtain ⟨v0, hv0, r0⟩ := I1.slot hs1
                  obtain ⟨x0, e0, r1⟩ := r0.of_im
                  subst e0
                  exact .inr (.inr ⟨x0, d0, q2, hv0, r1.mono s2⟩)
                | lst _ => cases ho
                | dic _ => cases ho
                | ob _ _ => cases ho
            · exact .inr (.inl ⟨q2, by rw [wipe_out q1]⟩)
          · have : i ∉ vs := fun m => by have := hvs i m; omega
            rw [wipe_out this]
        refine q F' p H' (s1.trans s2) I4 (.lst hpp r2) hpf gp hp0 (fun j s hj ho => ?_) (rest_nc hown hnc)
        rcases restS_get hj with ⟨q1, q2⟩ | ⟨q1, q2⟩
        · exfalso
          have hh := List.all_eq_true.mp hown j q1
          rw [← q2, Sl.hand_own ho] at hh
          cases hh
        · rw [← wipe_out (σ := σ) q1]
          exact hne j s q2 ho
  · cases hf
theorem js_newLc {i : Nat} {y : Str} {py : Pos} {elt tg iter : Expr} {ifs : List Expr} {scope : Scope} {own : List (Str × Nat)} {pos spos : Pos} {wi : TI} {fi : FI} {ts : List Nat} {g : TG} {b : FG} {tt : TT} {c : FT} {te : TE} {f : FE} (hc : X.calm = true) (hN : X.N.Nodup)
    (hi : JI X np tg iter wi fi) (ok : BlkOk X.N X.env.scope scope own)
    (hg : ∀ (s : Shared) (H : Hp) (C : Addr) (cl : List (Str × Addr)) (fp : List Addr), JG (X.blk s H scope (compEnvC scope cl C X.env) fp) np tg ts g b)
    (ht : ∀ (s : Shared) (H : Hp) (C : Addr) (cl : List (Str × Addr)) (fp : List Addr), JTs (X.blk s H scope (compEnvC scope cl C X.env) fp) np ifs tt c)
    (he : ∀ (s : Shared) (H : Hp) (C : Addr) (cl : List (Str × Addr)) (fp : List Addr), JE (X.blk s H scope (compEnvC scope cl C X.env) fp) np elt te f)
    (hts : ∀ i ∈ ts, i ∈ own.map (·.2) := by decide) (hvs : ∀ i ∈ own.map (·.2), np ≤ i := by decide) (hs : ∀ x, foldedSetIterable iter X.env x = pure x := by intro _; rfl)
    (hy : X.N[i]? = some y := by rfl) (hyl : X.env.scope.names.lookup y = some .local := by rfl) (hnp : np ≤ i := by decide)
    (hsw : swapsWith (.ListComp elt [⟨tg, iter, ifs, 0⟩] scope pos) (some (.Name y py)) spos.line X.env = pure true := by rfl) (hx : Loc X.env.scope y := by first | exact Or.inl rfl | exact Or.inr rfl)
    (hf : X.fn y = true ∨ X.env.scope.names.lookup y = some .local := by first | exact .inl rfl | exact .inr rfl) :
    JS X np (.Assign [.Name y py] (.ListComp elt [⟨tg, iter, ifs, 0⟩] scope pos) spos) (tAsg (tLc wi g tt te (own.map (·.2))) (gName i)) (sSetO i (oLc fi (own.map (·.2)) b c f)) :=
  js_setO ⟨pe_lc hc hN hi.pi ok (fun s H C cl fp => (hg s H C cl fp).pg) (fun s H C cl fp => (ht s H C cl fp).pts) (fun s H C cl fp => (he s H C cl fp).pe) hs,
    dow_lc hi.de (hg X.s_0 X.H_0 0 [] []).de (ht X.s_0 X.H_0 0 [] []).de (he X.s_0 X.H_0 0 [] []).de hts hvs⟩
    (ps_setLc hc hN hy hyl hsw hi.pi ok (fun s H C cl fp => (hg s H C cl fp).pg) (fun s H C cl fp => (ht s H C cl fp).pts) (fun s H C cl fp => (he s H C cl fp).pe) hs) hnp
theorem jow_lc {X : Cx} {np : Nat} {elt tg iter : Expr} {ifs : List Expr} {scope : Scope} {own : List (Str × Nat)} {pos : Pos} {wi : TI} {fi : FI} {ts : List Nat} {g : TG} {b : FG} {tt : TT} {c : FT} {te : TE} {f : FE} (hc : X.calm = true) (hN : X.N.Nodup)
    (hi : JI X np tg iter wi fi) (ok : BlkOk X.N X.env.scope scope own)
    (hg : ∀ (s : Shared) (H : Hp) (C : Addr) (cl : List (Str × Addr)) (fp : List Addr), JG (X.blk s H scope (compEnvC scope cl C X.env) fp) np tg ts g b)
    (ht : ∀ (s : Shared) (H : Hp) (C : Addr) (cl : List (Str × Addr)) (fp : List Addr), JTs (X.blk s H scope (compEnvC scope cl C X.env) fp) np ifs tt c)
    (he : ∀ (s : Shared) (H : Hp) (C : Addr) (cl : List (Str × Addr)) (fp : List Addr), JE (X.blk s H scope (compEnvC scope cl C X.env) fp) np elt te f)
    (hts : ∀ i ∈ ts, i ∈ own.map (·.2) := by decide) (hvs : ∀ i ∈ own.map (·.2), np ≤ i := by decide) (hs : ∀ x, foldedSetIterable iter X.env x = pure x := by intro _; rfl) :
    JOw X np (.ListComp elt [⟨tg, iter, ifs, 0⟩] scope pos) (tLc wi g tt te (own.map (·.2))) (oLc fi (own.map (·.2)) b c f) :=
  ⟨pe_lc hc hN hi.pi ok (fun s H C cl fp => (hg s H C cl fp).pg) (fun s H C cl fp => (ht s H C cl fp).pts) (fun s H C cl fp => (he s H C cl fp).pe) hs,
    dow_lc hi.de (hg X.s_0 X.H_0 0 [] []).de (ht X.s_0 X.H_0 0 [] []).de (he X.s_0 X.H_0 0 [] []).de hts hvs⟩
end M

namespace M
open PySem PySem.Spec PyProof.Rows L2
/-! ### terms of whatever names; terms without bound names -/
mutual
def T.Wk (N : Nat) : T → Prop
  | .num i => 0 ≤ i ∧ i < 10 ^ 20
  | .name s => Asc s 40
  | .make s => Asc s 40
  | .app a b => a.Wk N ∧ b.Wk N
  | .op o a b => o ∈ opsL ∧ a.Wk N ∧ b.Wk N
  | .fn x b => Asc x 40 ∧ b.Wk N
  | .lt ps b => (plI ps).length ≤ N ∧ ps.Wk N ∧ b.Wk N
  | .cs a ws => a.Wk N ∧ (wlI ws).length ≤ N ∧ ws.Wk N
def PL.Wk (N : Nat) : PL → Prop
  | .nil => True
  | .cons x t r => Asc x 40 ∧ t.Wk N ∧ r.Wk N
def WL.Wk (N : Nat) : WL → Prop
  | .nil => True
  | .cons c xs t r => Asc c 40 ∧ (∀ s ∈ xs, Asc s 40) ∧ xs.length ≤ N ∧ t.Wk N ∧ r.Wk N
end
mutual
theorem T.wk {N : Nat} (hN : 3 ≤ N) : ∀ t : T, t.Ok → t.z ≤ N → t.Wk N
  | .num i, ok, _ => ok
  | .name s, ok, _ => (SmallN.nm ok).asc
  | .make s, ok, _ => (GreatN.nm ok).asc
  | .app a b, ok, hz => by rw [T.z] at hz; exact ⟨T.wk hN a ok.1 (by omega), T.wk hN b ok.2 (by omega)⟩
  | .op o a b, ok, hz => by rw [T.z] at hz; exact ⟨ok.1, T.wk hN a ok.2.1 (by omega), T.wk hN b ok.2.2 (by omega)⟩
  | .fn x b, ok, hz => by rw [T.z] at hz; exact ⟨(SmallN.nm ok.1).asc, T.wk hN b ok.2 (by omega)⟩
  | .lt ps b, ok, hz => by
    rw [T.z] at hz
    have := pl_len ps
    exact ⟨by omega, PL.wk hN ps ok.2.2.1 (by omega), T.wk hN b ok.2.2.2 (by omega)⟩
  | .cs a ws, ok, hz => by
    rw [T.z] at hz
    have := wl_len ws
    exact ⟨T.wk hN a ok.1 (by omega), by omega, WL.wk hN ws ok.2.2 (by omega)⟩
theorem PL.wk {N : Nat} (hN : 3 ≤ N) : ∀ t : PL, t.Ok → t.z ≤ N → t.Wk N
  | .nil, _, _ => trivial
  | .cons x t r, ok, hz => by rw [PL.z] at hz; exact ⟨(SmallN.nm ok.1).asc, T.wk hN t ok.2.1 (by omega), PL.wk hN r ok.2.2 (by omega)⟩
theorem WL.wk {N : Nat} (hN : 3 ≤ N) : ∀ t : WL, t.Ok → t.z ≤ N → t.Wk N
  | .nil, _, _ => trivial
  | .cons c xs t r, ok, hz => by
    rw [WL.z] at hz
    exact ⟨(GreatN.nm ok.1).asc, fun s hs => (SmallN.nm (ok.2.1 s hs)).asc, Nat.le_trans ok.2.2.2.1 hN, T.wk hN t ok.2.2.2.2.1 (by omega), WL.wk hN r ok.2.2.2.2.2 (by omega)⟩
end
theorem pl_wk {N : Nat} : ∀ {ps : PL}, ps.Wk N → ∀ q ∈ plI ps, Asc q.1 40 ∧ q.2.Wk N ∧ q.2.h ≤ ps.h
  | .nil, _, q, h => nomatch h
  | .cons x t r, ok, q, h => by
    rcases List.mem_cons.mp h with rfl | h
    · exact ⟨ok.1, ok.2.1, by rw [PL.h]; exact Nat.le_max_left _ _⟩
    · obtain ⟨h1, h2, h3⟩ := pl_wk ok.2.2 q h
      exact ⟨h1, h2, by rw [PL.h]; omega⟩
theorem wl_wk {N : Nat} : ∀ {ps : WL}, ps.Wk N → ∀ q ∈ wlI ps, Asc q.1 40 ∧ (∀ s ∈ q.2.1, Asc s 40) ∧ q.2.1.length ≤ N ∧ q.2.2.Wk N ∧ q.2.2.h ≤ ps.h
  | .nil, _, q, h => nomatch h
  | .cons c xs t r, ok, q, h => by
    rcases List.mem_cons.mp h with rfl | h
    · exact ⟨ok.1, ok.2.1, ok.2.2.1, ok.2.2.2.1, by rw [WL.h]; exact Nat.le_max_left _ _⟩
    · obtain ⟨h1, h2, h3, h4, h5⟩ := wl_wk ok.2.2.2.2 q h
      exact ⟨h1, h2, h3, h4, by rw [WL.h]; omega⟩
def T.few (N : Nat) : T → Prop
  | .lt ps _ => (plI ps).length ≤ N
  | .cs _ ws => (wlI ws).length ≤ N
  | _ => True
theorem T.Wk.few {N : Nat} {t : T} (h : t.Wk N) : t.few N := by
  cases t with
  | lt ps b => exact h.1
  | cs a ws => exact h.2.1
  | _ => trivial
theorem T.parts_wk {N : Nat} (hN : 1 ≤ N) {t : T} (ok : t.Wk N) : t.parts.length ≤ N + 1 ∧ ∀ q ∈ t.parts, q.1.h + 1 ≤ t.h ∧ q.1.Wk N ∧ q.2.length ≤ N := by
  cases t with
  | app a b =>
    refine ⟨by simp only [T.parts, List.length_cons, List.length_nil]; omega, fun q h => ?_⟩
    simp only [T.parts, List.mem_cons, List.not_mem_nil, or_false] at h
    rcases h with rfl | rfl
    · exact ⟨by simp only [T.h]; omega, ok.1, Nat.zero_le _⟩
    · exact ⟨by simp only [T.h]; omega, ok.2, Nat.zero_le _⟩
  | op o a b =>
    refine ⟨by simp only [T.parts, List.length_cons, List.length_nil]; omega, fun q h => ?_⟩
    simp only [T.parts, List.mem_cons, List.not_mem_nil, or_false] at h
    rcases h with rfl | rfl
    · exact ⟨by simp only [T.h]; omega, ok.2.1, Nat.zero_le _⟩
    · exact ⟨by simp only [T.h]; omega, ok.2.2, Nat.zero_le _⟩
  | fn x b =>
    refine ⟨by simp only [T.parts, List.length_cons, List.length_nil]; omega, fun q h => ?_⟩
    simp only [T.parts, List.mem_cons, List.not_mem_nil, or_false] at h
    subst h
    exact ⟨by simp only [T.h]; omega, ok.2, hN⟩
  | lt ps b =>
    have ok1 : (plI ps).length ≤ N := ok.1
    refine ⟨by rw [T.parts, pl_parts, List.length_append, List.length_map, List.length_cons, List.length_nil]; omega, fun q h => ?_⟩
    rw [T.parts, pl_parts] at h
    rcases List.mem_append.mp h with h | h
    · obtain ⟨w, hw, rfl⟩ := List.mem_map.mp h
      obtain ⟨_, h2, h3⟩ := pl_wk ok.2.1 w hw
      exact ⟨by simp only [T.h]; omega, h2, by rw [pl_names, List.length_map]; exact ok1⟩
    · obtain rfl := List.mem_singleton.mp h
      exact ⟨by simp only [T.h]; omega, ok.2.2, by rw [pl_names, List.length_map]; exact ok1⟩
  | cs a ws =>
    have ok1 : (wlI ws).length ≤ N := ok.2.1
    refine ⟨by rw [T.parts, wl_parts, List.length_cons, List.length_map]; omega, fun q h => ?_⟩
    rw [T.parts, wl_parts] at h
    rcases List.mem_cons.mp h with rfl | h
    · exact ⟨by simp only [T.h]; omega, ok.1, Nat.zero_le _⟩
    · obtain ⟨w, hw, rfl⟩ := List.mem_map.mp h
      obtain ⟨_, _, h2, h3, h4⟩ := wl_wk ok.2.2 w hw
      exact ⟨by simp only [T.h]; omega, h3, h2⟩
  | num _ => exact ⟨Nat.zero_le _, fun q h => nomatch h⟩
  | name _ => exact ⟨Nat.zero_le _, fun q h => nomatch h⟩
  | make _ => exact ⟨Nat.zero_le _, fun q h => nomatch h⟩
/-! the last place of a name -/
def lix : List Str → Str → Option Nat
  | [], _ => none
  | b :: bd, s => match lix bd s with
    | some k => some (k + 1)
    | none => if b = s then some 0 else none
theorem lix_lt : ∀ {bd : List Str} {s : Str} {k : Nat}, lix bd s = some k → k < bd.length
  | b :: bd, s, k, h => by
    rw [lix] at h
    rw [List.length_cons]
    cases e : lix bd s with
    | some j => rw [e] at h; cases h; have := lix_lt e; omega
    | none =>
      rw [e] at h
      simp only at h
      split at h
      · cases h; omega
      · cases h
theorem lix_append (s : Str) : ∀ (bd ns : List Str), lix (bd ++ ns) s = match lix ns s with
    | some k => some (bd.length + k)
    | none => lix bd s
  | [], ns => by
    rw [List.nil_append]
    cases lix ns s with
    | some k => simp
    | none => rfl
  | b :: bd, ns => by
    rw [List.cons_append, lix, lix_append s bd ns]
    cases lix ns s with
    | some k => simp only [List.length_cons]; congr 1; omega
    | none => rw [lix]
def fidx : List Str → Str → Option Nat
  | [], _ => none
  | b :: bd, s => if b = s then some 0 else (fidx bd s).map (· + 1)
theorem fidx_snoc (b s : Str) : ∀ r : List Str, fidx (r ++ [b]) s = match fidx r s with
    | some k => some k
    | none => if b = s then some r.length else none
  | [] => by simp only [List.nil_append, fidx, List.length_nil]; split <;> rfl
  | x :: r => by
    rw [List.cons_append, fidx, fidx_snoc b s r, fidx]
    by_cases h : x = s
    · simp only [h, if_true]
    · simp only [h, if_false]
      cases fidx r s with
      | some k => rfl
      | none =>
        simp only [Option.map_none, List.length_cons]
        split <;> rfl
theorem fidx_rev (s : Str) : ∀ bd : List Str, fidx bd.reverse s = (lix bd s).map fun k => bd.length - 1 - k
  | [] => rfl
  | b :: bd => by
    rw [List.reverse_cons, fidx_snoc, fidx_rev s bd, lix]
    cases e : lix bd s with
    | some k =>
      have := lix_lt e
      simp only [Option.map_some, List.length_cons]; congr 1; omega
    | none =>
      simp only [Option.map_none, List.length_reverse, List.length_cons]
      split
      · simp only [Option.map_some]; congr 1
      · rfl
theorem find_fidx (s : Str) : ∀ r : List Str, (List.range r.length).find? (fun k => decide (r.getD k ⟨#[]⟩ = s)) = fidx r s
  | [] => rfl
  | x :: r => by
    rw [List.length_cons, List.range_succ_eq_map, List.find?_cons, fidx]
    by_cases h : x = s
    · simp [h]
    · have ih := find_fidx s r
      simp only [List.getD_cons_zero, h, decide_false, if_false, List.find?_map, Function.comp_def, Nat.succ_eq_add_one, List.getD_cons_succ, ih]
theorem find_back (s : Str) (bd : List Str) : (List.range bd.length).find? (fun k => decide (bd.getD (bd.length - 1 - k) ⟨#[]⟩ = s)) = (lix bd s).map fun k => bd.length - 1 - k := by
  rw [← fidx_rev, ← find_fidx, List.length_reverse]
  have : ∀ k ∈ List.range bd.length, decide (bd.getD (bd.length - 1 - k) ⟨#[]⟩ = s) = decide (bd.reverse.getD k ⟨#[]⟩ = s) := fun k hk => by
    have hk := List.mem_range.mp hk
    rw [List.getD_eq_getElem?_getD, List.getD_eq_getElem?_getD, List.getElem?_reverse hk]
  generalize List.range bd.length = l at this
  induction l with
  | nil => rfl
  | cons a l ih =>
    rw [List.find?_cons, List.find?_cons, this a (List.mem_cons_self ..), ih fun k hk => this k (List.mem_cons_of_mem _ hk)]
/-! dicts of places -/
theorem lookK_put {k j : Key} {v : D} : ∀ {es : List (Key × D)}, lookK j (putG es k v) = if k = j then some v else lookK j es := by
  have h1 : ∀ es : List (Key × D), (es.any fun kv => decide (kv.1 = k)) = true → lookK j (es.map fun kv => if kv.1 = k then (kv.1, v) else kv) = if k = j then some v else lookK j es := by
    intro es
    induction es with
    | nil => intro h; cases h
    | cons p es ih =>
      intro h
      obtain ⟨a, b⟩ := p
      rw [List.map_cons]
      by_cases ha : a = k
      · subst ha
        simp only [if_true, lookK]
        by_cases hj : a = j
        · simp only [hj, if_true]
        · simp only [hj, if_false]
          by_cases hr : (es.any fun kv => decide (kv.1 = a)) = true
          · rw [ih hr, if_neg hj]
          · clear ih h
            induction es with
            | nil => rfl
            | cons q es ih2 =>
              obtain ⟨c, d⟩ := q
              have hc : ¬ c = a := fun z => hr (by simp [z])
              have hr2 : ¬ (es.any fun kv => decide (kv.1 = a)) = true := fun z => hr (by simp [z])
              rw [List.map_cons]
              simp only [hc, if_false, lookK]
              rw [ih2 hr2]
      · simp only [ha, if_false, lookK]
        have hr : (es.any fun kv => decide (kv.1 = k)) = true := by simpa [ha] using h
        rw [ih hr]
        by_cases hj : a = j
        · subst hj; simp only [if_true, Ne.symm ha, if_false]
        · simp only [hj, if_false]
  intro es
  unfold putG
  split
  · rename_i h; exact h1 es h
  · rename_i h
    induction es with
    | nil => simp only [List.nil_append, lookK]
    | cons p es ih =>
      obtain ⟨a, b⟩ := p
      have ha : ¬ a = k := fun z => h (by simp [z])
      have hr : ¬ (es.any fun kv => decide (kv.1 = k)) = true := fun z => h (by simp [z])
      rw [List.cons_append, lookK, lookK, ih hr]
      by_cases hj : a = j
      · subst hj; simp only [if_true]; rw [if_neg (fun z => ha z.symm)]
      · simp only [hj, if_false]
theorem putG_keys (es : List (Key × D)) (k : Key) (v : D) : (k ∈ es.map (·.1) ∧ (putG es k v).map (·.1) = es.map (·.1)) ∨ (k ∉ es.map (·.1) ∧ (putG es k v).map (·.1) = es.map (·.1) ++ [k]) := by
  unfold putG
  by_cases h : (es.any fun kv => decide (kv.1 = k)) = true
  · refine .inl ⟨?_, ?_⟩
    · obtain ⟨p, hp, e⟩ := List.any_eq_true.mp h
      exact List.mem_map.mpr ⟨p, hp, of_decide_eq_true e⟩
    · rw [if_pos h, List.map_map]
      refine List.map_congr_left fun p _ => ?_
      simp only [Function.comp_apply]
      split <;> rfl
  · refine .inr ⟨fun z => h ?_, ?_⟩
    · obtain ⟨p, hp, e⟩ := List.mem_map.mp z
      exact List.any_eq_true.mpr ⟨p, hp, decide_eq_true e⟩
    · rw [if_neg h, List.map_append]
      rfl
theorem putG_nodup {es : List (Key × D)} {k : Key} {v : D} (h : (es.map (·.1)).Nodup) : ((putG es k v).map (·.1)).Nodup := by
  rcases putG_keys es k v with ⟨_, e⟩ | ⟨hk, e⟩
  · rw [e]; exact h
  · rw [e]
    exact List.nodup_append.mpr ⟨h, List.nodup_cons.mpr ⟨List.not_mem_nil, List.nodup_nil⟩, fun a ha b hb e => hk (by rw [List.mem_singleton.mp hb] at e; rw [← e]; exact ha)⟩
theorem putG_len (es : List (Key × D)) (k : Key) (v : D) : (putG es k v).length ≤ es.length + 1 := by
  rcases putG_keys es k v with ⟨_, e⟩ | ⟨hk, e⟩
  · have := congrArg List.length e
    rw [List.length_map, List.length_map] at this; omega
  · have := congrArg List.length e
    rw [List.length_map, List.length_append, List.length_map] at this
    simp only [List.length_cons, List.length_nil] at this; omega
theorem look_none {k : Key} : ∀ {es : List (Key × D)}, k ∉ es.map (·.1) → lookK k es = none
  | [], _ => rfl
  | (a, b) :: es, h => by
    rw [lookK, if_neg (fun z => h (by rw [← z]; exact List.mem_cons_self ..)), look_none fun z => h (List.mem_cons_of_mem _ z)]
theorem look_merge {j : Key} : ∀ {ks es : List (Key × D)}, (ks.map (·.1)).Nodup → lookK j (ks.foldl (fun acc kv => putG acc kv.1 kv.2) es) = match lookK j ks with
    | some v => some v
    | none => lookK j es
  | [], es, _ => rfl
  | (a, b) :: ks, es, h => by
    rw [List.map_cons, List.nodup_cons] at h
    rw [List.foldl_cons, look_merge h.2, lookK_put, lookK]
    by_cases z : a = j
    · subst z
      rw [look_none h.1]
      simp only [if_true]
    · simp only [z, if_false]
theorem len_merge : ∀ (ks es : List (Key × D)), (ks.foldl (fun acc kv => putG acc kv.1 kv.2) es).length ≤ es.length + ks.length
  | [], es => Nat.le_refl _
  | p :: ks, es => by
    have h1 := len_merge ks (putG es p.1 p.2)
    have h2 := putG_len es p.1 p.2
    rw [List.foldl_cons, List.length_cons]; omega
/-- names numbered from a number on -/
def enK (d : Int) : Nat → List Str → List (Key × D) → List (Key × D)
  | _, [], acc => acc
  | j, x :: xs, acc => enK d (j + 1) xs (putG acc (.inr x) (.int (d + (0 + (j : Nat)))))
theorem enK_len (d : Int) : ∀ (xs : List Str) (j : Nat) (acc : List (Key × D)), (enK d j xs acc).length ≤ acc.length + xs.length
  | [], _, _ => Nat.le_refl _
  | x :: xs, j, acc => by
    have h1 := enK_len d xs (j + 1) (putG acc (.inr x) (.int (d + (0 + (j : Nat)))))
    have h2 := putG_len acc (.inr x) (.int (d + (0 + (j : Nat))))
    rw [enK, List.length_cons]; omega
theorem enK_nodup (d : Int) : ∀ (xs : List Str) (j : Nat) (acc : List (Key × D)), (acc.map (·.1)).Nodup → ((enK d j xs acc).map (·.1)).Nodup
  | [], _, _, h => h
  | x :: xs, j, acc, h => enK_nodup d xs (j + 1) _ (putG_nodup h)
theorem enK_look (d : Int) (s : Str) : ∀ (xs : List Str) (j : Nat) (acc : List (Key × D)), lookK (.inr s) (enK d j xs acc) = match lix xs s with
    | some k => some (.int (d + ((j + k : Nat) : Int)))
    | none => lookK (.inr s) acc
  | [], _, _ => rfl
  | x :: xs, j, acc => by
    rw [enK, enK_look d s xs (j + 1), lix]
    cases lix xs s with
    | some k => simp only; congr 3; omega
    | none =>
      simp only [lookK_put, Sum.inr.injEq]
      by_cases z : x = s
      · simp only [z, if_true]; congr 3; omega
      · simp only [z, if_false]
def DRel (es : List (Key × D)) (bd : List Str) : Prop := es.length ≤ bd.length ∧ ∀ s, lookK (.inr s) es = (lix bd s).map fun k => D.int (k : Nat)
theorem DRel.nil : DRel [] [] := ⟨Nat.le_refl _, fun _ => rfl⟩
theorem DRel.more {es : List (Key × D)} {bd : List Str} (h : DRel es bd) (ns : List Str) : DRel ((enK ((bd.length : Nat) : Int) 0 ns []).foldl (fun acc kv => putG acc kv.1 kv.2) es) (bd ++ ns) := by
  refine ⟨?_, fun s => ?_⟩
  · have h1 := len_merge (enK ((bd.length : Nat) : Int) 0 ns []) es
    have h2 := enK_len ((bd.length : Nat) : Int) ns 0 []
    have h3 := h.1
    rw [List.length_append]
    simp only [List.length_nil] at h2
    omega
  · rw [look_merge (enK_nodup _ ns 0 [] List.nodup_nil), enK_look, lix_append, h.2 s]
    cases lix ns s with
    | some k =>
      simp only [Option.map_some]
      congr 2
      omega
    | none => rfl
/-! terms without bound names -/
def extD : T → List D
  | .op o _ _ => [.str o]
  | .cs _ ws => (wlI ws).map fun w => .tup [.str w.1, .int ((w.2.1.length : Nat) : Int)]
  | _ => []
def nlN (bd : List Str) (s : Str) : D := match lix bd s with
  | some k => .tup [.str "bound", .int ((bd.length - 1 - k : Nat) : Int)]
  | none => .tup [.str "name", .str s]
def nlC (F : T × List Str → D) (t : T) (bd : List Str) : D := match t with
  | .name s => nlN bd s
  | .num i => .tup [.str "num", .int i]
  | .make s => .tup [.str "make", .str s]
  | t => .tup [.str t.tag, .int (((t.parts.map F ++ extD t).length : Nat) : Int), .lst (t.parts.map F ++ extD t)]
def nl : Nat → T → List Str → D
  | 0, _, _ => .non
  | f + 1, t, bd => nlC (fun p => nl f p.1 (bd ++ p.2)) t bd
def T.mk : T → List Str
  | .cs _ ws => (wlI ws).map (·.1)
  | _ => []
def T.opn : T → Str
  | .op o _ _ => o
  | _ => ⟨#[]⟩
def T.lens (t : T) : List Nat := t.parts.map fun q => q.2.length
def nmEq (b1 b2 : List Str) (s s' : Str) : Bool := match lix b1 s, lix b2 s' with
  | some k, some k' => decide (k = k')
  | none, none => decide (s = s')
  | _, _ => false
abbrev zipS (S : T → T → List Str → List Str → Bool) (P Q : List (T × List Str)) (b1 b2 : List Str) : Bool := (P.zip Q).all fun p => S p.1.1 p.2.1 (b1 ++ p.1.2) (b2 ++ p.2.2)
def smR (S : T → T → List Str → List Str → Bool) (t u : T) (b1 b2 : List Str) : Bool := decide (t.opn = u.opn) && (decide (t.mk = u.mk) && (decide (t.lens = u.lens) && zipS S t.parts u.parts b1 b2))
def smC (S : T → T → List Str → List Str → Bool) (t u : T) (b1 b2 : List Str) : Bool := match t, u with
  | .name s, .name s' => nmEq b1 b2 s s'
  | .num i, .num j => decide (i = j)
  | .make s, .make s' => decide (s = s')
  | t, u => smR S t u b1 b2
def sm : Nat → T → T → List Str → List Str → Bool
  | 0, _, _, _, _ => false
  | f + 1, t, u, b1, b2 => decide (t.tag = u.tag) && smC (sm f) t u b1 b2
open PyData in
theorem eqvAll_app : ∀ {a a' b b' : List PyData}, a.length = a'.length → eqvAll (a ++ b) (a' ++ b') = (eqvAll a a' && eqvAll b b')
  | [], [], _, _, _ => by simp [eqvAll]
  | x :: a, y :: a', b, b', h => by
    simp only [List.length_cons, Nat.add_right_cancel_iff] at h
    simp only [List.cons_append, eqvAll, eqvAll_app h, Bool.and_assoc]
  | [], _ :: _, _, _, h => by simp at h
  | _ :: _, [], _, _, h => by simp at h
open PyData in
theorem eqvAll_len : ∀ {a b : List PyData}, a.length ≠ b.length → eqvAll a b = false
  | [], [], h => absurd rfl h
  | x :: a, y :: b, h => by
    simp only [List.length_cons, ne_eq, Nat.add_right_cancel_iff] at h
    simp only [eqvAll, eqvAll_len h, Bool.and_false]
  | [], _ :: _, _ => by simp [eqvAll]
  | _ :: _, [], _ => by simp [eqvAll]
theorem pys_app : ∀ a b : List D, D.pys (a ++ b) = D.pys a ++ D.pys b
  | [], _ => rfl
  | x :: a, b => by rw [List.cons_append, D.pys, D.pys, pys_app a b]; rfl
theorem pys_len : ∀ a : List D, (D.pys a).length = a.length
  | [] => rfl
  | x :: a => by rw [D.pys, List.length_cons, List.length_cons, pys_len a]
theorem zip_eqv {S : T → T → List Str → List Str → Bool} {b1 b2 : List Str} {F G : T × List Str → D} : ∀ {P Q : List (T × List Str)}, P.map (fun q => q.2.length) = Q.map (fun q => q.2.length) →
    (∀ p ∈ P, ∀ q ∈ Q, p.2.length = q.2.length → S p.1 q.1 (b1 ++ p.2) (b2 ++ q.2) = PyData.eqv (F p).py (G q).py) → PyData.eqvAll (D.pys (P.map F)) (D.pys (Q.map G)) = zipS S P Q b1 b2
  | [], [], _, _ => by simp [D.pys, PyData.eqvAll, zipS]
  | p :: P, q :: Q, hl, h => by
    simp only [List.map_cons, List.cons.injEq] at hl
    have ih := zip_eqv hl.2 (fun p hp q hq => h p (List.mem_cons_of_mem _ hp) q (List.mem_cons_of_mem _ hq))
    simp only [List.map_cons, D.pys, PyData.eqvAll, ih, zipS, List.zip_cons_cons, List.all_cons, h p (List.mem_cons_self ..) q (List.mem_cons_self ..) hl.1]
  | [], _ :: _, hl, _ => by simp at hl
  | _ :: _, [], hl, _ => by simp at hl
theorem ext_eqv : ∀ L M : List (Str × List Str × T), PyData.eqvAll (D.pys (L.map fun w => .tup [.str w.1, .int ((w.2.1.length : Nat) : Int)])) (D.pys (M.map fun w => .tup [.str w.1, .int ((w.2.1.length : Nat) : Int)])) = (decide (L.map (·.1) = M.map (·.1)) && decide (L.map (fun w => w.2.1.length) = M.map (fun w => w.2.1.length)))
  | [], [] => by simp [D.pys, PyData.eqvAll]
  | w :: L, v :: M => by
    have ih := ext_eqv L M
    simp only [List.map_cons, D.pys, D.py, PyData.eqvAll, PyData.eqv, ih, List.cons.injEq, Bool.decide_and, Bool.and_true]
    have e : (((w.2.1.length : Nat) : Int) == ((v.2.1.length : Nat) : Int)) = decide (w.2.1.length = v.2.1.length) := by
      by_cases h : w.2.1.length = v.2.1.length
      · simp [h]
      · have : ¬ ((w.2.1.length : Nat) : Int) = ((v.2.1.length : Nat) : Int) := by omega
        simp [h, this]
    first | rw [e] | skip
    cases h1 : decide (w.1 = v.1) <;> cases h2 : decide (w.2.1.length = v.2.1.length) <;> cases decide (L.map (·.1) = M.map (·.1)) <;> simp_all
  | [], _ :: _ => by simp [D.pys, PyData.eqvAll]
  | _ :: _, [] => by simp [D.pys, PyData.eqvAll]
def T.leaf : T → Bool
  | .num _ => true
  | .name _ => true
  | .make _ => true
  | _ => false
theorem nlC_in {F : T × List Str → D} {t : T} {bd : List Str} (h : t.leaf = false) : nlC F t bd = .tup [.str t.tag, .int (((t.parts.map F ++ extD t).length : Nat) : Int), .lst (t.parts.map F ++ extD t)] := by
  cases t <;> first | rfl | cases h
theorem smC_in {S : T → T → List Str → List Str → Bool} {t u : T} {b1 b2 : List Str} (h : t.leaf = false) : smC S t u b1 b2 = smR S t u b1 b2 := by
  cases t <;> first | (cases u <;> rfl) | cases h
theorem lens_lt (ps : PL) (b : T) : (T.lt ps b).lens = List.replicate ((plI ps).length + 1) (plI ps).length := by
  simp only [T.lens, T.parts, pl_parts, List.map_append, List.map_map, List.map_cons, List.map_nil, Function.comp_def, pl_names, List.length_map]
  rw [List.map_const', List.replicate_succ']
theorem lens_cs (a : T) (ws : WL) : (T.cs a ws).lens = 0 :: (wlI ws).map fun w => w.2.1.length := by
  simp only [T.lens, T.parts, wl_parts, List.map_cons, List.map_map, Function.comp_def, List.length_nil]
theorem ext_same {t u : T} (ht : t.tag = u.tag) (hn : t.leaf = false) (hl : t.lens = u.lens) : PyData.eqvAll (D.pys (extD t)) (D.pys (extD u)) = (decide (t.opn = u.opn) && decide (t.mk = u.mk)) := by
  cases t <;> cases u <;> first | (exfalso; simp [T.tag] at ht; done) | (exfalso; simp [T.leaf] at hn; done) | skip
  case app.app => simp [extD, D.pys, PyData.eqvAll, T.opn, T.mk]
  case op.op o _ _ o' _ _ => simp [extD, D.pys, D.py, PyData.eqvAll, PyData.eqv, T.opn, T.mk]; by_cases h : o = o' <;> simp [h]
  case fn.fn => simp [extD, D.pys, PyData.eqvAll, T.opn, T.mk]
  case lt.lt => simp [extD, D.pys, PyData.eqvAll, T.opn, T.mk]
  case cs.cs =>
    rw [lens_cs, lens_cs] at hl
    simp only [List.cons.injEq, true_and] at hl
    simp only [extD, ext_eqv, hl, decide_true, Bool.and_true, T.opn, T.mk, Bool.true_and] <;> congr
theorem ext_diff {t u : T} (ht : t.tag = u.tag) (hn : t.leaf = false) (hl : t.lens ≠ u.lens) : t.parts.length + (extD t).length ≠ u.parts.length + (extD u).length ∨ (t.parts.length = u.parts.length ∧ PyData.eqvAll (D.pys (extD t)) (D.pys (extD u)) = false) := by
  cases t <;> cases u <;> first | (exfalso; simp [T.tag] at ht; done) | (exfalso; simp [T.leaf] at hn; done) | skip
  case app.app => exact absurd rfl hl
  case op.op => exact absurd rfl hl
  case fn.fn => exact absurd rfl hl
  case lt.lt ps b qs c =>
    rw [lens_lt, lens_lt] at hl
    refine .inl fun z => ?_
    simp only [T.parts, pl_parts, extD, List.length_append, List.length_map, List.length_cons, List.length_nil] at z
    have : (plI ps).length = (plI qs).length := by omega
    rw [this] at hl
    exact hl rfl
  case cs.cs a ws b vs =>
    rw [lens_cs, lens_cs] at hl
    simp only [T.parts, wl_parts, extD, List.length_cons, List.length_map, ext_eqv]
    by_cases hz : (wlI ws).length = (wlI vs).length
    · refine .inr ⟨by omega, ?_⟩
      rw [decide_eq_false (p := List.map (fun w => w.2.1.length) (wlI ws) = List.map (fun w => w.2.1.length) (wlI vs)) (fun z => hl (by rw [z])), Bool.and_false]
    · exact .inl fun z => hz (by omega)
theorem sm_in {S : T → T → List Str → List Str → Bool} {F G : T × List Str → D} {t u : T} {b1 b2 : List Str} (ht : t.tag = u.tag) (hn : t.leaf = false)
    (h : ∀ p ∈ t.parts, ∀ q ∈ u.parts, p.2.length = q.2.length → S p.1 q.1 (b1 ++ p.2) (b2 ++ q.2) = PyData.eqv (F p).py (G q).py) :
    smR S t u b1 b2 = PyData.eqv (D.tup [.str t.tag, .int (((t.parts.map F ++ extD t).length : Nat) : Int), .lst (t.parts.map F ++ extD t)]).py (D.tup [.str u.tag, .int (((u.parts.map G ++ extD u).length : Nat) : Int), .lst (u.parts.map G ++ extD u)]).py := by
  simp only [D.py, D.pys, PyData.eqv, PyData.eqvAll, Bool.and_true, ht, beq_self_eq_true, Bool.true_and, pys_app, List.length_append, List.length_map]
  have e : ((((t.parts.length + (extD t).length : Nat)) : Int) == (((u.parts.length + (extD u).length : Nat)) : Int)) = decide (t.parts.length + (extD t).length = u.parts.length + (extD u).length) := by
    by_cases hz : t.parts.length + (extD t).length = u.parts.length + (extD u).length
    · rw [hz]; simp
    · rw [decide_eq_false hz]
      exact beq_eq_false_iff_ne.mpr (fun z => hz (by omega))
  rw [e]
  unfold smR
  by_cases hl : t.lens = u.lens
  · have hP : t.parts.length = u.parts.length := by have := congrArg List.length hl; simpa only [T.lens, List.length_map] using this
    rw [eqvAll_app (by rw [pys_len, pys_len, List.length_map, List.length_map]; exact hP), zip_eqv hl h, ext_same ht hn hl, decide_eq_true hl, Bool.true_and]
    by_cases hz : (extD t).length = (extD u).length
    · rw [decide_eq_true (show t.parts.length + (extD t).length = u.parts.length + (extD u).length by omega)]
      cases decide (t.opn = u.opn) <;> cases decide (t.mk = u.mk) <;> cases zipS S t.parts u.parts b1 b2 <;> rfl
    · have := ext_same ht hn hl
      rw [eqvAll_len (by rw [pys_len, pys_len]; exact hz)] at this
      rw [decide_eq_false (show ¬ t.parts.length + (extD t).length = u.parts.length + (extD u).length by omega), Bool.false_and, ← Bool.and_assoc, ← this, Bool.false_and]
  · rw [decide_eq_false hl, Bool.false_and, Bool.and_false, Bool.and_false]
    rcases ext_diff ht hn hl with hz | ⟨hz, he⟩
    · rw [decide_eq_false hz, Bool.false_and]
    · rw [eqvAll_app (by rw [pys_len, pys_len, List.length_map, List.length_map]; exact hz), he, Bool.and_false, Bool.and_false]
def nlTag (bd : List Str) : T → Str
  | .name s => if (lix bd s).isSome then "bound" else "name"
  | t => t.tag
theorem nlC_tag (F : T × List Str → D) (t : T) (bd : List Str) : ∃ r, nlC F t bd = .tup (.str (nlTag bd t) :: r) := by
  cases t with
  | name s =>
    simp only [nlC, nlN, nlTag]
    cases lix bd s <;> exact ⟨_, rfl⟩
  | num i => exact ⟨_, rfl⟩
  | make i => exact ⟨_, rfl⟩
  | _ => rw [nlC_in rfl]; exact ⟨_, rfl⟩
theorem nlTag_ne {t u : T} (b1 b2 : List Str) (h : t.tag ≠ u.tag) : nlTag b1 t ≠ nlTag b2 u := by
  cases t <;> cases u <;> first | exact absurd rfl h | skip
  all_goals simp only [nlTag, T.tag]
  all_goals first | (split <;> decide +kernel) | decide +kernel
theorem sm_eqv : ∀ (f : Nat) (t u : T) (b1 b2 : List Str) (g1 g2 : Nat), b1.length = b2.length → (t.h ≤ f ∨ u.h ≤ f) → t.h ≤ g1 → u.h ≤ g2 → sm f t u b1 b2 = PyData.eqv (nl g1 t b1).py (nl g2 u b2).py
  | 0, t, u, _, _, _, _, _, hf, _, _ => by have := t.h_pos; have := u.h_pos; omega
  | f + 1, t, u, b1, b2, g1, g2, hb, hf, h1, h2 => by
    obtain ⟨g1, rfl⟩ : ∃ k, g1 = k + 1 := ⟨g1 - 1, by have := t.h_pos; omega⟩
    obtain ⟨g2, rfl⟩ : ∃ k, g2 = k + 1 := ⟨g2 - 1, by have := u.h_pos; omega⟩
    rw [sm, nl, nl]
    by_cases ht : t.tag = u.tag
    · rw [decide_eq_true (by rw [ht]), Bool.true_and]
      cases hn : t.leaf with
      | false =>
        have hn2 : u.leaf = false := by cases t <;> cases u <;> first | rfl | (exfalso; simp [T.leaf] at hn; done) | (exfalso; simp [T.tag] at ht; done)
        rw [smC_in hn, nlC_in hn, nlC_in hn2]
        have pm : ∀ {v : T} {q : T × List Str}, q ∈ v.parts → q.1.h + 1 ≤ v.h := fun {v q} hq => by
          cases v with
          | app a b => simp only [T.parts, List.mem_cons, List.not_mem_nil, or_false] at hq; rcases hq with rfl | rfl <;> simp only [T.h] <;> omega
          | op o a b => simp only [T.parts, List.mem_cons, List.not_mem_nil, or_false] at hq; rcases hq with rfl | rfl <;> simp only [T.h] <;> omega
          | fn x b => simp only [T.parts, List.mem_cons, List.not_mem_nil, or_false] at hq; subst hq; simp only [T.h]; omega
          | lt ps b =>
            simp only [T.parts] at hq
            rcases List.mem_append.mp hq with hq | hq
            · have := (PL.parts_mem hq).2.1; simp only [T.h]; omega
            · obtain rfl := List.mem_singleton.mp hq; simp only [T.h]; omega
          | cs a ws =>
            simp only [T.parts] at hq
            rcases List.mem_cons.mp hq with rfl | hq
            · simp only [T.h]; omega
            · have := (WL.parts_mem hq).1; simp only [T.h]; omega
          | num _ => nomatch hq
          | name _ => nomatch hq
          | make _ => nomatch hq
        refine sm_in ht hn fun p hp q hq hl => ?_
        have a1 := pm hp
        have a2 := pm hq
        exact sm_eqv f p.1 q.1 _ _ g1 g2 (by rw [List.length_append, List.length_append]; omega) (by omega) (by omega) (by omega)
      | true =>
        cases t <;> cases u <;> first | (exfalso; simp [T.tag] at ht; done) | (exfalso; simp [T.leaf] at hn; done) | skip
        case num.num i j =>
          simp only [smC, nlC, D.py, D.pys, PyData.eqv, PyData.eqvAll, beq_self_eq_true, Bool.true_and, Bool.and_true]
          by_cases h : i = j <;> simp [h]
        case make.make i j =>
          simp only [smC, nlC, D.py, D.pys, PyData.eqv, PyData.eqvAll, beq_self_eq_true, Bool.true_and, Bool.and_true]
          by_cases h : i = j <;> simp [h]
        case name.name s s' =>
          simp only [smC, nlC, nmEq, nlN]
          cases e1 : lix b1 s with
          | some k =>
            have l1 := lix_lt e1
            cases e2 : lix b2 s' with
            | some k' =>
              have l2 := lix_lt e2
              simp only [D.py, D.pys, PyData.eqv, PyData.eqvAll, beq_self_eq_true, Bool.true_and, Bool.and_true]
              by_cases h : k = k'
              · rw [h, hb]; simp
              · rw [decide_eq_false h]
                exact (beq_eq_false_iff_ne.mpr (fun z => h (by omega))).symm
            | none =>
              simp only [D.py, D.pys, PyData.eqv, PyData.eqvAll]
              rfl
          | none =>
            cases e2 : lix b2 s' with
            | some k' =>
              simp only [D.py, D.pys, PyData.eqv, PyData.eqvAll]
              rfl
            | none =>
              simp only [D.py, D.pys, PyData.eqv, PyData.eqvAll, beq_self_eq_true, Bool.true_and, Bool.and_true]
              by_cases h : s = s' <;> simp [h]
    · obtain ⟨r1, e1⟩ := nlC_tag (fun p => nl g1 p.1 (b1 ++ p.2)) t b1
      obtain ⟨r2, e2⟩ := nlC_tag (fun p => nl g2 p.1 (b2 ++ p.2)) u b2
      rw [decide_eq_false (fun z => ht (by simpa using z)), Bool.false_and, e1, e2]
      simp only [D.py, D.pys, PyData.eqv, PyData.eqvAll]
      have := nlTag_ne b1 b2 ht
      have : (nlTag b1 t == nlTag b2 u) = false := beq_eq_false_iff_ne.mpr this
      rw [this, Bool.false_and]
theorem zip_comm {S : T → T → List Str → List Str → Bool} {b1 b2 : List Str} : ∀ {P Q : List (T × List Str)}, (∀ p ∈ P, ∀ q ∈ Q, S p.1 q.1 (b1 ++ p.2) (b2 ++ q.2) = S q.1 p.1 (b2 ++ q.2) (b1 ++ p.2)) → zipS S P Q b1 b2 = zipS S Q P b2 b1
  | [], [], _ => rfl
  | p :: P, q :: Q, h => by
    have ih := zip_comm (fun p hp q hq => h p (List.mem_cons_of_mem _ hp) q (List.mem_cons_of_mem _ hq))
    simp only [zipS, List.zip_cons_cons, List.all_cons] at ih ⊢
    rw [h p (List.mem_cons_self ..) q (List.mem_cons_self ..), ih]
  | [], _ :: _, _ => rfl
  | _ :: _, [], _ => rfl
theorem sm_comm : ∀ (f : Nat) (t u : T) (b1 b2 : List Str), sm f t u b1 b2 = sm f u t b2 b1
  | 0, _, _, _, _ => rfl
  | f + 1, t, u, b1, b2 => by
    rw [sm, sm]
    have e0 : decide (t.tag = u.tag) = decide (u.tag = t.tag) := decide_eq_decide.mpr eq_comm
    rw [e0]
    by_cases ht : u.tag = t.tag
    · rw [decide_eq_true ht, Bool.true_and, Bool.true_and]
      cases hn : t.leaf with
      | false =>
        have hn2 : u.leaf = false := by cases t <;> cases u <;> first | rfl | (exfalso; simp [T.leaf] at hn; done) | (exfalso; simp [T.tag] at ht; done)
        rw [smC_in hn, smC_in hn2]
        unfold smR
        rw [zip_comm (P := t.parts) fun p _ q _ => sm_comm f p.1 q.1 _ _, show decide (t.opn = u.opn) = decide (u.opn = t.opn) from decide_eq_decide.mpr eq_comm, show decide (t.mk = u.mk) = decide (u.mk = t.mk) from decide_eq_decide.mpr eq_comm, show decide (t.lens = u.lens) = decide (u.lens = t.lens) from decide_eq_decide.mpr eq_comm]
      | true =>
        cases t <;> cases u <;> first | (exfalso; simp [T.tag] at ht; done) | (exfalso; simp [T.leaf] at hn; done) | skip
        case num.num i j => exact decide_eq_decide.mpr eq_comm
        case make.make i j => exact decide_eq_decide.mpr eq_comm
        case name.name s s' =>
          simp only [smC, nmEq]
          cases lix b1 s <;> cases lix b2 s' <;> simp only [eq_comm]
    · rw [decide_eq_false ht, Bool.false_and, Bool.false_and]
end M

namespace M
open PySem PySem.Spec PyProof.Rows L2
/-! ### rules for the new combinators, at a state that shows its first slot -/
section
variable (s : Sl) (e : Sls)
theorem c_fCall2 (m : FC) (e : Sls) (as : List Arg) : fCall2 m e as = if (owIx as).Nodup then (argSs e as).bind fun es => (m es).bind fun q => some (putBack e as q.1, q.2) else none := rfl
theorem c_fCallL (m : FC) (k : FAL) : fCallL m k (s :: e) = (k (s :: e)).bind fun p => (fCall2 m (p.1 ++ [p.2.2]) (p.2.1 ++ [.ow p.1.length])).bind fun q => match q.2 with
  | .im d => some (q.1.dropLast, d)
  | _ => none := rfl
theorem c_lOne (o : Sls → Option (Sls × Sl)) : lOne o (s :: e) = (o (s :: e)).bind fun r => some (r.1, [], r.2) := rfl
theorem c_lIm (f : FE) (g : FAL) : lIm f g (s :: e) = (f (s :: e)).bind fun p => (g p.1).bind fun q => some (q.1, .im p.2 :: q.2.1, q.2.2) := rfl
theorem c_lOw (i : Nat) (g : FAL) : lOw i g (s :: e) = if ((s :: e)[i]?.getD .un).hand = true then (g (s :: e)).bind fun q => some (q.1, .ow i :: q.2.1, q.2.2) else none := rfl
theorem c_sAugC (i : Nat) (k c : Int) : sAugC i k c (s :: e) = match (s :: e)[i]? with
  | some (.lst ds) => match ds[k.toNat]? with
    | some (.int n) => if 0 ≤ k ∧ k < 2 ^ 62 then some ((s :: e).set i (.lst (ds.set k.toNat (.int (n + c)))), .nx) else none
    | _ => none
  | _ => none := rfl
theorem c_oDc (it : FI) (vs : List Nat) (b : FG) (c : FT) (fk fv : FE) : oDc it vs b c fk fv (s :: e) = (it (s :: e)).bind fun p =>
  if vs.all (fun i => !((p.1[i]?.getD .un).hand)) = true then (dcLoop vs b c fk fv p.2 (wipeS p.1 vs) []).bind fun q => some (restS p.1 q.1 vs, .dic q.2) else none := rfl
theorem c_oLc (it : FI) (vs : List Nat) (b : FG) (c : FT) (f : FE) : oLc it vs b c f (s :: e) = (it (s :: e)).bind fun p =>
  if vs.all (fun i => !((p.1[i]?.getD .un).hand)) = true then (lcLoop vs b c f p.2 (wipeS p.1 vs) []).bind fun q => some (restS p.1 q.1 vs, .lst q.2) else none := rfl
end
theorem g_update (es ks : List (Key × D)) : gUpdate (.dic es) [.dic ks] = if es.length + ks.length ≤ sizeLine then some (.dic (ks.foldl (fun acc kv => putG acc kv.1 kv.2) es), .non) else none := rfl
theorem dl_one (a : Sl) : [a].dropLast = [] := rfl
theorem dl_cons (a b : Sl) (e : Sls) : (a :: b :: e).dropLast = a :: (b :: e).dropLast := rfl
def dcStep (vs : List Nat) (b : FG) (c : FT) (fk fv : FE) (d : D) (e : Sls) (acc : List (Key × D)) : Option (Sls × List (Key × D)) :=
  (b e d).bind fun e1 => (c e1).bind fun p => if p.2 = true then (fk p.1).bind fun y => (fv y.1).bind fun q => y.2.key.bind fun k => if acc.length < sizeLine then some (wipeS q.1 vs, putG acc k q.2) else none else some (wipeS p.1 vs, acc)
theorem c_dcStep (vs : List Nat) (b : FG) (c : FT) (fk fv : FE) (d : D) (s : Sl) (e : Sls) (acc : List (Key × D)) : dcStep vs b c fk fv d (s :: e) acc =
  (b (s :: e) d).bind fun e1 => (c e1).bind fun p => if p.2 = true then (fk p.1).bind fun y => (fv y.1).bind fun q => y.2.key.bind fun k => if acc.length < sizeLine then some (wipeS q.1 vs, putG acc k q.2) else none else some (wipeS p.1 vs, acc) := rfl
theorem dc_step (vs : List Nat) (b : FG) (c : FT) (fk fv : FE) (d : D) (ds : List D) (e : Sls) (acc : List (Key × D)) : dcLoop vs b c fk fv (d :: ds) e acc = (dcStep vs b c fk fv d e acc).bind fun q => dcLoop vs b c fk fv ds q.1 q.2 := by
  rw [dcLoop]
  unfold dcStep
  cases b e d with
  | none => rfl
  | some e1 =>
    simp only [Option.bind_some]
    cases c e1 with
    | none => rfl
    | some p =>
      simp only [Option.bind_some]
      split
      · cases fk p.1 with
        | none => rfl
        | some y =>
          simp only [Option.bind_some]
          cases fv y.1 with
          | none => rfl
          | some q =>
            simp only [Option.bind_some]
            cases y.2.key with
            | none => rfl
            | some k =>
              simp only [Option.bind_some]
              split <;> rfl
      · rfl
theorem w_dc_map {α : Type} {vs : List Nat} {b : FG} {c : FT} {fk fv : FE} {e : Sls} (i : α → D) (F : List (Key × D) → α → List (Key × D)) {Q : Sls → List (Key × D) → Prop} : ∀ {ds : List α} {acc : List (Key × D)}, acc.length + ds.length ≤ 8000000 →
    (∀ d ∈ ds, ∀ acc : List (Key × D), (F acc d).length ≤ acc.length + 1) →
    (∀ d ∈ ds, ∀ (acc : List (Key × D)) (R : Sls → List (Key × D) → Prop), acc.length < sizeLine → R e (F acc d) → W (dcStep vs b c fk fv (i d) e acc) R) → Q e (ds.foldl F acc) → W (dcLoop vs b c fk fv (ds.map i) e acc) Q
  | [], acc, _, _, _, h => ⟨_, _, rfl, by simpa using h⟩
  | d :: ds, acc, hl, hF, hs, h => by
    rw [List.length_cons] at hl
    rw [List.map_cons, dc_step, W_bind]
    refine hs d (List.mem_cons_self ..) acc _ (line_lt (by omega)) ?_
    have := hF d (List.mem_cons_self ..) acc
    refine w_dc_map i F (ds := ds) (acc := F acc d) (by omega) (fun d' hd' => hF d' (List.mem_cons_of_mem _ hd')) (fun d' hd' => hs d' (List.mem_cons_of_mem _ hd')) ?_
    exact h
/-! names, numbered -/
def numS (ns : List Str) : List (Nat × Str) := (List.range ns.length).zip ns
def numD (p : Nat × Str) : D := .tup [.int (0 + (p.1 : Nat)), .str p.2]
theorem pairs_zip : ∀ (ks : List Nat) (ns : List Str), pairs (ks.map fun k => D.int (0 + (k : Nat))) (ns.map .str) = (ks.zip ns).map numD
  | [], _ => rfl
  | _ :: _, [] => rfl
  | k :: ks, n :: ns => by rw [List.map_cons, List.map_cons, pairs, pairs_zip ks ns]; rfl
theorem numbered_strs (ns : List Str) : numbered (ns.map .str) = (numS ns).map numD := by
  rw [numbered, List.length_map]
  exact pairs_zip _ _
theorem fold_enK (d : Int) : ∀ (ns : List Str) (j : Nat) (acc : List (Key × D)), (((List.range' j ns.length).zip ns).foldl (fun acc p => putG acc (.inr p.2) (.int (d + (0 + (p.1 : Nat))))) acc) = enK d j ns acc
  | [], _, _ => rfl
  | n :: ns, j, acc => by
    rw [List.length_cons, List.range'_succ, List.zip_cons_cons, List.foldl_cons, fold_enK d ns (j + 1)]
    rfl
theorem fold_num (d : Int) (ns : List Str) : ((numS ns).foldl (fun acc p => putG acc (.inr p.2) (.int (d + (0 + (p.1 : Nat))))) []) = enK d 0 ns [] := by
  rw [numS, List.range_eq_range']
  exact fold_enK d ns 0 []
theorem numS_len (ns : List Str) : (numS ns).length = ns.length := by simp [numS]
/-! == of lists of whole numbers -/
theorem plains_ints : ∀ ss : List Nat, D.plains (ss.map fun n => .int ((n : Nat) : Int)) = true
  | [] => rfl
  | s :: ss => by simp only [List.map_cons, D.plains, D.plain, plains_ints ss, Bool.and_self]
theorem depth_ints : ∀ ss : List Nat, PyData.depthAll (D.pys (ss.map fun n => .int ((n : Nat) : Int))) ≤ 1
  | [] => by simp [PyData.depthAll, D.pys]
  | s :: ss => by have := depth_ints ss; simp only [List.map_cons, D.pys, D.py, PyData.depthAll, PyData.depth]; omega
theorem eqvAll_ints : ∀ xs ys : List Nat, PyData.eqvAll (D.pys (xs.map fun n => .int ((n : Nat) : Int))) (D.pys (ys.map fun n => .int ((n : Nat) : Int))) = decide (xs = ys)
  | [], [] => rfl
  | [], y :: ys => by simp [PyData.eqvAll, D.pys]
  | x :: xs, [] => by simp [PyData.eqvAll, D.pys]
  | x :: xs, y :: ys => by
    have ih := eqvAll_ints xs ys
    simp only [List.map_cons, D.pys, D.py, PyData.eqvAll, PyData.eqv, ih, List.cons.injEq, Bool.decide_and]
    congr 1
    by_cases h : x = y
    · simp [h]
    · rw [decide_eq_false h]; exact beq_eq_false_iff_ne.mpr (fun z => h (by omega))
theorem ne_intsL (xs ys : List Nat) : neD (.lst (xs.map fun n => .int ((n : Nat) : Int))) (.lst (ys.map fun n => .int ((n : Nat) : Int))) = some (.bl (!decide (xs = ys))) := by
  have g : (D.lst (xs.map fun n => .int ((n : Nat) : Int))).plain = true ∧ (D.lst (ys.map fun n => .int ((n : Nat) : Int))).plain = true ∧ min (D.lst (xs.map fun n => .int ((n : Nat) : Int))).py.depth (D.lst (ys.map fun n => .int ((n : Nat) : Int))).py.depth ≤ 200 := by
    refine ⟨plains_ints xs, plains_ints ys, ?_⟩
    have := depth_ints xs
    simp only [D.py, PyData.depth]
    omega
  simp only [neD, neQ, eqG]
  rw [if_pos g]
  simp only [D.py, PyData.eqv, eqvAll_ints, Option.map_some]
theorem eq_numT (i j : Int) : eqD (.tup [.str "num", .int i]) (.tup [.str "num", .int j]) = some (.bl (decide (i = j))) := by
  have : eqG (.tup [.str "num", .int i]) (.tup [.str "num", .int j]) = some (decide (i = j)) := by
    unfold eqG
    rw [if_pos (by simp [D.plain, D.plains, D.py, D.pys, PyData.depth, PyData.depthAll])]
    simp only [D.py, D.pys, PyData.eqv, PyData.eqvAll, beq_self_eq_true, Bool.true_and, Bool.and_true]
    by_cases h : i = j <;> simp [h]
  simp only [eqD, eqQ, this, Option.map_some]
theorem eq_makeT (i j : Str) : eqD (.tup [.str "make", .str i]) (.tup [.str "make", .str j]) = some (.bl (decide (i = j))) := by
  have : eqG (.tup [.str "make", .str i]) (.tup [.str "make", .str j]) = some (decide (i = j)) := by
    unfold eqG
    rw [if_pos (by simp [D.plain, D.plains, D.py, D.pys, PyData.depth, PyData.depthAll])]
    simp only [D.py, D.pys, PyData.eqv, PyData.eqvAll, beq_self_eq_true, Bool.true_and, Bool.and_true]
    by_cases h : i = j <;> simp [h]
  simp only [eqD, eqQ, this, Option.map_some]
theorem eq_is (i : Int) (x : Str) : eqD (.int i) (.str x) = some (.bl false) := by
  simp [eqD, eqQ, eqG, D.plain, D.py, PyData.depth, PyData.eqv]
theorem eq_si (i : Int) (x : Str) : eqD (.str x) (.int i) = some (.bl false) := by
  simp [eqD, eqQ, eqG, D.plain, D.py, PyData.depth, PyData.eqv]
theorem ne_bb (a b : Bool) : neD (.bl a) (.bl b) = some (.bl (a != b)) := by
  simp only [neD, neQ, eqG, D.plain, D.py, PyData.depth, PyData.eqv]
  cases a <;> cases b <;> rfl
theorem in_twoL (x : Str) (a b : String) : inD (.str x) (.lst [.str (Str.ofString a), .str (Str.ofString b)]) = some (.bl (decide (x = Str.ofString a) || decide (x = Str.ofString b))) := by
  have := in_strsL x [Str.ofString a, Str.ofString b]
  simpa only [List.map_cons, List.map_nil, List.mem_cons, List.not_mem_nil, or_false, Bool.decide_or] using this
theorem in_twoT (x : Str) (a b : String) : inD (.str x) (.tup [.str (Str.ofString a), .str (Str.ofString b)]) = some (.bl (decide (x = Str.ofString a) || decide (x = Str.ofString b))) := by
  have := in_strsT x [Str.ofString a, Str.ofString b]
  simpa only [List.map_cons, List.map_nil, List.mem_cons, List.not_mem_nil, or_false, Bool.decide_or] using this
/-! depth and plainness of terms without bound names -/
theorem ext_plain : ∀ t : T, D.plains (extD t) = true
  | .op o _ _ => rfl
  | .cs _ ws => by
    simp only [extD]
    induction wlI ws with
    | nil => rfl
    | cons w r ih => simp only [List.map_cons, D.plains, D.plain, ih, Bool.and_self]
  | .num _ => rfl
  | .name _ => rfl
  | .make _ => rfl
  | .app _ _ => rfl
  | .fn _ _ => rfl
  | .lt _ _ => rfl
theorem ext_depth : ∀ t : T, PyData.depthAll (D.pys (extD t)) ≤ 1 + 1
  | .op o _ _ => by simp [extD, D.pys, D.py, PyData.depthAll, PyData.depth]
  | .cs _ ws => by
    simp only [extD]
    induction wlI ws with
    | nil => simp [D.pys, PyData.depthAll]
    | cons w r ih => simp only [List.map_cons, D.pys, D.py, PyData.depthAll, PyData.depth]; omega
  | .num _ => by simp [extD, D.pys, PyData.depthAll]
  | .name _ => by simp [extD, D.pys, PyData.depthAll]
  | .make _ => by simp [extD, D.pys, PyData.depthAll]
  | .app _ _ => by simp [extD, D.pys, PyData.depthAll]
  | .fn _ _ => by simp [extD, D.pys, PyData.depthAll]
  | .lt _ _ => by simp [extD, D.pys, PyData.depthAll]
theorem plains_app : ∀ a b : List D, D.plains (a ++ b) = (D.plains a && D.plains b)
  | [], _ => by simp [D.plains]
  | x :: a, b => by rw [List.cons_append, D.plains, D.plains, plains_app a b, Bool.and_assoc]
theorem depth_app : ∀ a b : List PyData, PyData.depthAll (a ++ b) = max (PyData.depthAll a) (PyData.depthAll b)
  | [], _ => by simp [PyData.depthAll]
  | x :: a, b => by rw [List.cons_append, PyData.depthAll, PyData.depthAll, depth_app a b, Nat.max_assoc]
theorem plains_map {α : Type} {F : α → D} : ∀ {L : List α}, (∀ x ∈ L, (F x).plain = true) → D.plains (L.map F) = true
  | [], _ => rfl
  | x :: L, h => by rw [List.map_cons, D.plains, h x (List.mem_cons_self ..), plains_map fun y hy => h y (List.mem_cons_of_mem _ hy)]; rfl
theorem depth_map {α : Type} {F : α → D} {n : Nat} : ∀ {L : List α}, (∀ x ∈ L, (F x).py.depth ≤ n) → PyData.depthAll (D.pys (L.map F)) ≤ n
  | [], _ => by simp [D.pys, PyData.depthAll]
  | x :: L, h => by
    have h1 := h x (List.mem_cons_self ..)
    have h2 := depth_map fun y hy => h y (List.mem_cons_of_mem _ hy)
    simp only [List.map_cons, D.pys, PyData.depthAll]; omega
theorem nl_plain : ∀ (f : Nat) (t : T) (bd : List Str), (nl f t bd).plain = true
  | 0, _, _ => rfl
  | f + 1, t, bd => by
    rw [nl]
    cases hn : t.leaf with
    | false =>
      rw [nlC_in hn]
      simp only [D.plain, D.plains, plains_app, ext_plain, Bool.and_true, Bool.true_and]
      exact plains_map fun x _ => nl_plain f _ _
    | true =>
      cases t <;> first | rfl | (exfalso; simp [T.leaf] at hn; done) | skip
      simp only [nlC, nlN]
      split <;> rfl
theorem nl_depth : ∀ (f : Nat) (t : T) (bd : List Str), (nl f t bd).py.depth ≤ 2 * f + 3
  | 0, _, _ => by simp [nl, D.py, PyData.depth]
  | f + 1, t, bd => by
    rw [nl]
    cases hn : t.leaf with
    | false =>
      rw [nlC_in hn]
      have h1 := ext_depth t
      have h2 := depth_map (L := t.parts) (F := fun p => nl f p.1 (bd ++ p.2)) (n := 2 * f + 3) fun x _ => nl_depth f _ _
      simp only [D.py, D.pys, PyData.depth, PyData.depthAll, pys_app, depth_app]
      omega
    | true =>
      cases t <;> first | (simp only [nlC, D.py, D.pys, PyData.depth, PyData.depthAll]; omega) | (exfalso; simp [T.leaf] at hn; done) | skip
      simp only [nlC, nlN]
      split <;> simp only [D.py, D.pys, PyData.depth, PyData.depthAll] <;> omega
theorem eqW_nl (f : Nat) (hf : f ≤ 400) (t u : T) (b1 b2 : List Str) : eqW (nl f t b1) (nl f u b2) = some (.bl (PyData.eqv (nl f t b1).py (nl f u b2).py)) := by
  have g : eqGw (nl f t b1) (nl f u b2) = some (PyData.eqv (nl f t b1).py (nl f u b2).py) := by
    unfold eqGw
    rw [if_pos ⟨nl_plain .., nl_plain .., by have := nl_depth f t b1; omega⟩]
  cases f with
  | zero => simp only [nl, eqW, eqQw] at g ⊢; rw [g]; rfl
  | succ f =>
    obtain ⟨r1, e1⟩ := nlC_tag (fun p => nl f p.1 (b1 ++ p.2)) t b1
    obtain ⟨r2, e2⟩ := nlC_tag (fun p => nl f p.1 (b2 ++ p.2)) u b2
    rw [nl, nl, e1, e2] at g ⊢
    simp only [eqW, eqQw, g, Option.map_some]
end M

namespace M
open PySem PySem.Spec PyProof.Rows L2
/-! ### bound names called otherwise -/
def frL (j : Nat) : List Nat := [122, 113, 97 + j % 26, 97 + j / 26 % 26, 97 + j / 26 / 26 % 26, 97 + j / 26 / 26 / 26 % 26]
def frS (j : Nat) : Str := ⟨(frL j).toArray⟩
theorem frS_inj {i j : Nat} (hi : i < 456976) (hj : j < 456976) (h : frS i = frS j) : i = j := by
  have h : (frL i).toArray = (frL j).toArray := congrArg Str.cps h
  have h : frL i = frL j := by simpa using h
  simp only [frL, List.cons.injEq] at h
  omega
theorem frS_len (j : Nat) : (frS j).length = 6 := rfl
theorem frS_asc (j : Nat) : Asc (frS j) 40 := by
  refine ⟨fun c hc => ?_, by rw [frS_len]; decide⟩
  simp only [frS, frL, List.mem_cons, List.not_mem_nil, or_false] at hc
  omega
theorem frS_not (j : Nat) : ¬ SmallN (frS j) := by
  rintro (h | ⟨c, cs, h1, h2, _⟩)
  · simp only [smallWs, List.mem_cons, List.not_mem_nil, or_false] at h
    have e := frS_len j
    rcases h with h | h | h | h | h | h | h | h | h | h | h | h <;> (rw [h] at e; revert e; decide +kernel)
  · have : frL j = c :: cs := by simpa [frS] using congrArg (fun s : Str => s.cps.toList) h1
    simp only [frL, List.cons.injEq] at this
    rw [← this.1, firstS_cps] at h2
    revert h2; decide
structure RR (es : List (Key × D)) (bd bd' : List Str) (n : Nat) : Prop where
  len : bd'.length = bd.length
  look : ∀ s, lookK (.inr s) es = (lix bd s).map fun k => D.str (bd'.getD k ⟨#[]⟩)
  back : ∀ s k, lix bd s = some k → lix bd' (bd'.getD k ⟨#[]⟩) = some k
  mem : ∀ b ∈ bd', ∃ j, 1 ≤ j ∧ j ≤ n ∧ b = frS j
  small : es.length ≤ bd.length
theorem RR.nil (n : Nat) : RR [] [] [] n := ⟨rfl, fun _ => rfl, fun _ _ h => (by cases h), fun _ h => (nomatch h), Nat.le_refl _⟩
theorem RR.mono {es : List (Key × D)} {bd bd' : List Str} {n m : Nat} (h : RR es bd bd' n) (hm : n ≤ m) : RR es bd bd' m :=
  ⟨h.len, h.look, h.back, fun b hb => by obtain ⟨j, h1, h2, h3⟩ := h.mem b hb; exact ⟨j, h1, by omega, h3⟩, h.small⟩
theorem lix_snoc (bd : List Str) (x s : Str) : lix (bd ++ [x]) s = if x = s then some bd.length else lix bd s := by
  rw [lix_append, lix, lix]
  by_cases h : x = s
  · simp [h]
  · simp [h]
theorem RR.add {es : List (Key × D)} {bd bd' : List Str} {n : Nat} (h : RR es bd bd' n) (hn : n + 1 < 456976) (x : Str) : RR (putG es (.inr x) (.str (frS (n + 1)))) (bd ++ [x]) (bd' ++ [frS (n + 1)]) (n + 1) := by
  have hl := h.len
  have gd : ∀ {k}, k < bd.length → (bd' ++ [frS (n + 1)]).getD k ⟨#[]⟩ = bd'.getD k ⟨#[]⟩ := fun {k} hk => by
    rw [List.getD_eq_getElem?_getD, List.getD_eq_getElem?_getD, List.getElem?_append_left (by omega)]
  have gl : (bd' ++ [frS (n + 1)]).getD bd.length ⟨#[]⟩ = frS (n + 1) := by
    rw [List.getD_eq_getElem?_getD, ← hl, List.getElem?_append_right (Nat.le_refl _), Nat.sub_self]; rfl
  refine ⟨by rw [List.length_append, List.length_append, hl]; rfl, fun s => ?_, fun s k hk => ?_, fun b hb => ?_, ?_⟩
  · rw [lookK_put, lix_snoc, h.look s]
    by_cases z : x = s
    · subst z
      simp only [if_true, Option.map_some, gl]
    · have z2 : ¬ (Sum.inr x : Key) = .inr s := fun e => z (by cases e; rfl)
      simp only [z, z2, if_false]
      cases e : lix bd s with
      | none => rfl
      | some k => simp only [Option.map_some, gd (lix_lt e)]
  · rw [lix_snoc] at hk
    split at hk
    · cases hk
      rw [gl, lix_snoc, if_pos rfl, hl]
    · have lt := lix_lt hk
      rw [gd lt, lix_snoc, if_neg, h.back s k hk]
      intro e
      have hm : bd'.getD k ⟨#[]⟩ ∈ bd' := by
        rw [List.getD_eq_getElem?_getD, List.getElem?_eq_getElem (by omega), Option.getD_some]; exact List.getElem_mem _
      obtain ⟨j, h1, h2, h3⟩ := h.mem _ hm
      rw [h3] at e
      have := frS_inj (by omega) (by omega) e
      omega
  · rcases List.mem_append.mp hb with hb | hb
    · obtain ⟨j, h1, h2, h3⟩ := h.mem b hb
      exact ⟨j, h1, by omega, h3⟩
    · exact ⟨n + 1, by omega, Nat.le_refl _, List.mem_singleton.mp hb⟩
  · have := putG_len es (.inr x) (.str (frS (n + 1)))
    have := h.small
    rw [List.length_append, List.length_cons, List.length_nil]; omega
/-- names n + 1, n + 2, .. -/
def frs (n : Nat) : Nat → List Str
  | 0 => []
  | k + 1 => frS (n + 1) :: frs (n + 1) k
theorem frs_len (n k : Nat) : (frs n k).length = k := by
  induction k generalizing n with
  | zero => rfl
  | succ k ih => rw [frs, List.length_cons, ih]
def putF (es : List (Key × D)) (n : Nat) : List Str → List (Key × D)
  | [] => es
  | x :: xs => putF (putG es (.inr x) (.str (frS (n + 1)))) (n + 1) xs
theorem RR.adds : ∀ {xs : List Str} {es : List (Key × D)} {bd bd' : List Str} {n : Nat}, RR es bd bd' n → n + xs.length < 456976 → RR (putF es n xs) (bd ++ xs) (bd' ++ frs n xs.length) (n + xs.length)
  | [], es, bd, bd', n, h, _ => by simpa [putF, frs] using h
  | x :: xs, es, bd, bd', n, h, hn => by
    rw [List.length_cons] at hn
    have := RR.adds (xs := xs) (h.add (by omega) x) (by omega)
    rw [List.append_assoc, List.append_assoc] at this
    rw [putF, List.length_cons, frs]
    have e : n + 1 + xs.length = n + (xs.length + 1) := by omega
    rw [e] at this
    exact this
theorem lix_nodup : ∀ {xs : List Str}, xs.Nodup → ∀ i, (h : i < xs.length) → lix xs xs[i] = some i
  | x :: xs, hn, 0, _ => by
    rw [List.nodup_cons] at hn
    have : lix xs x = none := by
      cases e : lix xs x with
      | none => rfl
      | some k =>
        exfalso
        have hm : ∀ {ys : List Str} {s : Str} {k : Nat}, lix ys s = some k → s ∈ ys := by
          intro ys
          induction ys with
          | nil => intro s k h; cases h
          | cons y ys ih =>
            intro s k h
            rw [lix] at h
            cases e2 : lix ys s with
            | some j => exact List.mem_cons_of_mem _ (ih e2)
            | none =>
              rw [e2] at h
              simp only at h
              split at h
              · rename_i z; rw [z]; exact List.mem_cons_self ..
              · cases h
        exact hn.1 (hm e)
    simp only [List.getElem_cons_zero, lix, this, if_true]
  | x :: xs, hn, i + 1, h => by
    rw [List.nodup_cons] at hn
    have ih := lix_nodup hn.2 i (by simpa using h)
    simp only [List.getElem_cons_succ, lix, ih]
theorem RR.names {xs : List Str} {es : List (Key × D)} {bd bd' ys : List Str} {n : Nat} (h : RR es (bd ++ xs) (bd' ++ ys) n) (hb : bd'.length = bd.length) (hn : xs.Nodup) : xs.map (fun s => lookK (.inr s) es) = ys.map fun y => some (D.str y) := by
  have hl : ys.length = xs.length := by have := h.len; rw [List.length_append, List.length_append] at this; omega
  refine List.ext_getElem (by rw [List.length_map, List.length_map, hl]) fun i h1 h2 => ?_
  rw [List.length_map] at h1 h2
  rw [List.getElem_map, List.getElem_map, h.look, lix_append, lix_nodup hn i h1]
  simp only [Option.map_some]
  congr 2
  rw [List.getD_eq_getElem?_getD, List.getElem?_append_right (by omega), hb, Nat.add_sub_cancel_left, List.getElem?_eq_getElem h2]; rfl
theorem RR.name {es : List (Key × D)} {bd bd' : List Str} {n : Nat} (h : RR es bd bd' n) {s : Str} (hs : SmallN s) : ∃ y, Asc y 40 ∧ (lookK (.inr s) es).getD (.str s) = .str y ∧ nlN bd' y = nlN bd s := by
  rw [h.look s]
  cases e : lix bd s with
  | none =>
    refine ⟨s, (SmallN.nm hs).asc, rfl, ?_⟩
    have : lix bd' s = none := by
      cases e2 : lix bd' s with
      | none => rfl
      | some k =>
        exfalso
        have lt := lix_lt e2
        have hm : s ∈ bd' := by
          have hm : ∀ {ys : List Str} {s : Str} {k : Nat}, lix ys s = some k → s ∈ ys := by
            intro ys
            induction ys with
            | nil => intro s k h; cases h
            | cons y ys ih =>
              intro s k h
              rw [lix] at h
              cases e2 : lix ys s with
              | some j => exact List.mem_cons_of_mem _ (ih e2)
              | none =>
                rw [e2] at h
                simp only at h
                split at h
                · rename_i z; rw [z]; exact List.mem_cons_self ..
                · cases h
          exact hm e2
        obtain ⟨j, _, _, h3⟩ := h.mem s hm
        rw [h3] at hs
        exact frS_not j hs
    simp only [nlN, e, this]
  | some k =>
    have lt := lix_lt e
    have hm : bd'.getD k ⟨#[]⟩ ∈ bd' := by
      rw [List.getD_eq_getElem?_getD, List.getElem?_eq_getElem (by have := h.len; omega), Option.getD_some]; exact List.getElem_mem _
    obtain ⟨j, _, _, h3⟩ := h.mem _ hm
    refine ⟨bd'.getD k ⟨#[]⟩, by rw [h3]; exact frS_asc j, rfl, ?_⟩
    simp only [nlN, e, h.back s k e, h.len]
/-! lists of parts -/
def toPL : List (Str × T) → PL
  | [] => .nil
  | p :: r => .cons p.1 p.2 (toPL r)
def toWL : List (Str × List Str × T) → WL
  | [] => .nil
  | p :: r => .cons p.1 p.2.1 p.2.2 (toWL r)
theorem plI_to : ∀ L, plI (toPL L) = L
  | [] => rfl
  | p :: r => by rw [toPL, plI, plI_to r]
theorem wlI_to : ∀ L, wlI (toWL L) = L
  | [] => rfl
  | p :: r => by rw [toWL, wlI, wlI_to r]
/-- alike, as great -/
structure Tw (bd bd' : List Str) (t u : T) : Prop where
  nl : ∀ g, M.nl g u bd' = M.nl g t bd
  h : u.h = t.h
  z : u.z = t.z
  wk : u.Wk 3300
def PLr (bd bd' : List Str) : List (Str × T) → List (Str × T) → Prop
  | [], [] => True
  | p :: L, q :: Ms => Tw bd bd' p.2 q.2 ∧ PLr bd bd' L Ms
  | _, _ => False
theorem PLr.len {bd bd' : List Str} : ∀ {L Ms : List (Str × T)}, PLr bd bd' L Ms → Ms.length = L.length
  | [], [], _ => rfl
  | p :: L, q :: Ms, h => by rw [List.length_cons, List.length_cons, PLr.len h.2]
theorem PLr.z {bd bd' : List Str} : ∀ {L Ms : List (Str × T)}, PLr bd bd' L Ms → (toPL Ms).z = (toPL L).z ∧ (toPL Ms).h = (toPL L).h
  | [], [], _ => ⟨rfl, rfl⟩
  | p :: L, q :: Ms, h => by
    obtain ⟨a, b⟩ := PLr.z h.2
    simp only [toPL, PL.z, PL.h, a, b, h.1.z, h.1.h, and_self]
theorem PLr.nl_eq {bd bd' : List Str} (g : Nat) : ∀ {L Ms : List (Str × T)}, PLr bd bd' L Ms → Ms.map (fun q => nl g q.2 bd') = L.map fun q => nl g q.2 bd
  | [], [], _ => rfl
  | p :: L, q :: Ms, h => by rw [List.map_cons, List.map_cons, PLr.nl_eq g h.2, h.1.nl g]
theorem PLr.wk {bd bd' : List Str} : ∀ {L Ms : List (Str × T)}, PLr bd bd' L Ms → (∀ y ∈ Ms.map (·.1), Asc y 40) → (toPL Ms).Wk 3300
  | [], [], _, _ => trivial
  | p :: L, q :: Ms, h, ha => ⟨ha _ (List.mem_cons_self ..), h.1.wk, PLr.wk h.2 fun y hy => ha y (List.mem_cons_of_mem _ hy)⟩
def WLr (bd bd' : List Str) : List (Str × List Str × T) → List (Str × List Str × T) → Prop
  | [], [] => True
  | p :: L, q :: Ms => (q.1 = p.1 ∧ q.2.1.length = p.2.1.length ∧ (∀ y ∈ q.2.1, Asc y 40) ∧ Tw (bd ++ p.2.1) (bd' ++ q.2.1) p.2.2 q.2.2) ∧ WLr bd bd' L Ms
  | _, _ => False
theorem WLr.len {bd bd' : List Str} : ∀ {L Ms : List (Str × List Str × T)}, WLr bd bd' L Ms → Ms.length = L.length
  | [], [], _ => rfl
  | p :: L, q :: Ms, h => by rw [List.length_cons, List.length_cons, WLr.len h.2]
theorem WLr.z {bd bd' : List Str} : ∀ {L Ms : List (Str × List Str × T)}, WLr bd bd' L Ms → (toWL Ms).z = (toWL L).z ∧ (toWL Ms).h = (toWL L).h
  | [], [], _ => ⟨rfl, rfl⟩
  | p :: L, q :: Ms, h => by
    obtain ⟨a, b⟩ := WLr.z h.2
    simp only [toWL, WL.z, WL.h, a, b, h.1.2.2.2.z, h.1.2.2.2.h, and_self]
theorem WLr.nl_eq {bd bd' : List Str} (g : Nat) : ∀ {L Ms : List (Str × List Str × T)}, WLr bd bd' L Ms → Ms.map (fun q => nl g q.2.2 (bd' ++ q.2.1)) = L.map fun q => nl g q.2.2 (bd ++ q.2.1)
  | [], [], _ => rfl
  | p :: L, q :: Ms, h => by rw [List.map_cons, List.map_cons, WLr.nl_eq g h.2, h.1.2.2.2.nl g]
theorem WLr.ext {bd bd' : List Str} : ∀ {L Ms : List (Str × List Str × T)}, WLr bd bd' L Ms → Ms.map (fun w => D.tup [.str w.1, .int ((w.2.1.length : Nat) : Int)]) = L.map fun w => D.tup [.str w.1, .int ((w.2.1.length : Nat) : Int)]
  | [], [], _ => rfl
  | p :: L, q :: Ms, h => by rw [List.map_cons, List.map_cons, WLr.ext h.2, h.1.1, h.1.2.1]
theorem WLr.wk {bd bd' : List Str} : ∀ {L Ms : List (Str × List Str × T)}, WLr bd bd' L Ms → (∀ q ∈ L, Asc q.1 40 ∧ q.2.1.length ≤ 3) → (toWL Ms).Wk 3300
  | [], [], _, _ => trivial
  | p :: L, q :: Ms, h, ha => by
    obtain ⟨a1, a2⟩ := ha _ (List.mem_cons_self ..)
    exact ⟨by rw [h.1.1]; exact a1, h.1.2.2.1, by rw [h.1.2.1]; omega, h.1.2.2.2.wk, WLr.wk h.2 fun y hy => ha y (List.mem_cons_of_mem _ hy)⟩
theorem Tw.app {bd bd' : List Str} {a b a' b' : T} (h1 : Tw bd bd' a a') (h2 : Tw bd bd' b b') : Tw bd bd' (.app a b) (.app a' b') := by
  refine ⟨fun g => ?_, by simp only [T.h, h1.h, h2.h], by simp only [T.z, h1.z, h2.z], h1.wk, h2.wk⟩
  cases g with
  | zero => rfl
  | succ g =>
    rw [M.nl, M.nl, nlC_in rfl, nlC_in rfl]
    simp only [T.parts, T.tag, extD, List.map_cons, List.map_nil, List.append_nil, h1.nl, h2.nl, List.length_cons]
theorem Tw.op {bd bd' : List Str} {a b a' b' : T} {o : Str} (ho : o ∈ opsL) (h1 : Tw bd bd' a a') (h2 : Tw bd bd' b b') : Tw bd bd' (.op o a b) (.op o a' b') := by
  refine ⟨fun g => ?_, by simp only [T.h, h1.h, h2.h], by simp only [T.z, h1.z, h2.z], ho, h1.wk, h2.wk⟩
  cases g with
  | zero => rfl
  | succ g =>
    rw [M.nl, M.nl, nlC_in rfl, nlC_in rfl]
    simp only [T.parts, T.tag, extD, List.map_cons, List.map_nil, List.append_nil, h1.nl, h2.nl, List.length_cons, List.length_append]
theorem Tw.fn {bd bd' : List Str} {b b' : T} {x y : Str} (hy : Asc y 40) (h2 : Tw (bd ++ [x]) (bd' ++ [y]) b b') : Tw bd bd' (.fn x b) (.fn y b') := by
  refine ⟨fun g => ?_, by simp only [T.h, h2.h], by simp only [T.z, h2.z], hy, h2.wk⟩
  cases g with
  | zero => rfl
  | succ g =>
    rw [M.nl, M.nl, nlC_in rfl, nlC_in rfl]
    simp only [T.parts, T.tag, extD, List.map_cons, List.map_nil, List.append_nil, h2.nl, List.length_cons]
theorem pl_eta : ∀ ps : PL, toPL (plI ps) = ps
  | .nil => rfl
  | .cons x t r => by rw [plI, toPL, pl_eta r]
theorem wl_eta : ∀ ps : WL, toWL (wlI ps) = ps
  | .nil => rfl
  | .cons x xs t r => by rw [wlI, toWL, wl_eta r]
theorem Tw.lt {bd bd' : List Str} {ps : PL} {b b' : T} {L : List (Str × T)} (hp : PLr (bd ++ ps.names) (bd' ++ L.map (·.1)) (plI ps) L) (h2 : Tw (bd ++ ps.names) (bd' ++ L.map (·.1)) b b') (ha : ∀ y ∈ L.map (·.1), Asc y 40) (hz : (plI ps).length ≤ 3300) :
    Tw bd bd' (.lt ps b) (.lt (toPL L) b') := by
  have e := hp.z
  rw [pl_eta] at e
  refine ⟨fun g => ?_, by simp only [T.h, h2.h, e.2], by simp only [T.z, h2.z, e.1], by rw [plI_to, hp.len]; exact hz, hp.wk ha, h2.wk⟩
  cases g with
  | zero => rfl
  | succ g =>
    rw [M.nl, M.nl, nlC_in rfl, nlC_in rfl]
    have e1 := hp.nl_eq g
    simp only [T.parts, T.tag, extD, List.append_nil, pl_parts, plI_to, pl_names, List.map_append, List.map_map, List.map_cons, List.map_nil, Function.comp_def] at e1 h2 ⊢
    rw [e1, h2.nl]
theorem Tw.cs {bd bd' : List Str} {ws : WL} {a a' : T} {L : List (Str × List Str × T)} (hp : WLr bd bd' (wlI ws) L) (h2 : Tw bd bd' a a') (ha : ∀ q ∈ wlI ws, Asc q.1 40 ∧ q.2.1.length ≤ 3) (hz : (wlI ws).length ≤ 3300) :
    Tw bd bd' (.cs a ws) (.cs a' (toWL L)) := by
  have e := hp.z
  rw [wl_eta] at e
  refine ⟨fun g => ?_, by simp only [T.h, h2.h, e.2], by simp only [T.z, h2.z, e.1], h2.wk, by rw [wlI_to, hp.len]; exact hz, hp.wk ha⟩
  cases g with
  | zero => rfl
  | succ g =>
    rw [M.nl, M.nl, nlC_in rfl, nlC_in rfl]
    have e1 := hp.nl_eq g
    have e2 := hp.ext
    simp only [T.parts, T.tag, extD, List.append_nil, wl_parts, wlI_to, List.map_append, List.map_map, List.map_cons, List.map_nil, Function.comp_def] at e1 e2 h2 ⊢
    rw [e1, h2.nl, e2]
end M

namespace M
open PySem PySem.Spec PyProof.Rows L2
/-! ### terms put for names: laws -/
theorem parts_h {t : T} {q : T × List Str} (hq : q ∈ t.parts) : q.1.h + 1 ≤ t.h := by
  cases t with
  | app a b => simp only [T.parts, List.mem_cons, List.not_mem_nil, or_false] at hq; rcases hq with rfl | rfl <;> simp only [T.h] <;> omega
  | op o a b => simp only [T.parts, List.mem_cons, List.not_mem_nil, or_false] at hq; rcases hq with rfl | rfl <;> simp only [T.h] <;> omega
  | fn x b => simp only [T.parts, List.mem_cons, List.not_mem_nil, or_false] at hq; subst hq; simp only [T.h]; omega
  | lt ps b =>
    simp only [T.parts] at hq
    rcases List.mem_append.mp hq with hq | hq
    · have := (PL.parts_mem hq).2.1; simp only [T.h]; omega
    · obtain rfl := List.mem_singleton.mp hq; simp only [T.h]; omega
  | cs a ws =>
    simp only [T.parts] at hq
    rcases List.mem_cons.mp hq with rfl | hq
    · simp only [T.h]; omega
    · have := (WL.parts_mem hq).1; simp only [T.h]; omega
  | num _ => nomatch hq
  | name _ => nomatch hq
  | make _ => nomatch hq
theorem own_in {t : T} (h : t.leaf = false) (bd : List Str) : ownN t bd = [] := by
  cases t <;> first | rfl | (exfalso; simp [T.leaf] at h; done)
theorem own_make {s : Str} (bd : List Str) : ownN (.make s) bd = [] := rfl
def putQ (x : Str) (c : T) (q : T × List Str) : T := if x ∈ q.2 then q.1 else T.put x c q.1
theorem put_names (x : Str) (c : T) : ∀ ps : PL, (PL.put x c ps).names = ps.names
  | .nil => rfl
  | .cons y t r => by rw [PL.put, PL.names, PL.names, put_names x c r]
theorem plI_put (x : Str) (c : T) : ∀ ps : PL, plI (PL.put x c ps) = (plI ps).map fun q => (q.1, T.put x c q.2)
  | .nil => rfl
  | .cons y t r => by rw [PL.put, plI, plI, plI_put x c r]; rfl
theorem wlI_put (x : Str) (c : T) : ∀ ps : WL, wlI (WL.put x c ps) = (wlI ps).map fun q => (q.1, q.2.1, if x ∈ q.2.1 then q.2.2 else T.put x c q.2.2)
  | .nil => rfl
  | .cons y xs t r => by simp only [WL.put, wlI, wlI_put x c r, List.map_cons]
theorem parts_put (x : Str) (c : T) {t : T} (h : t.leaf = false) : (T.put x c t).leaf = false ∧ (T.put x c t).tag = t.tag ∧ extD (T.put x c t) = extD t ∧ (T.put x c t).parts = t.parts.map fun q => (putQ x c q, q.2) := by
  cases t with
  | app a b => exact ⟨rfl, rfl, rfl, by simp [T.put, T.parts, putQ]⟩
  | op o a b => exact ⟨rfl, rfl, rfl, by simp [T.put, T.parts, putQ]⟩
  | fn y b =>
    rw [T.put]
    by_cases hy : y = x
    · subst hy
      rw [if_pos rfl]
      exact ⟨rfl, rfl, rfl, by simp [T.parts, putQ]⟩
    · rw [if_neg hy]
      exact ⟨rfl, rfl, rfl, by simp [T.parts, putQ, Ne.symm hy]⟩
  | lt ps b =>
    rw [T.put]
    by_cases hx : x ∈ ps.names
    · rw [if_pos hx]
      refine ⟨rfl, rfl, rfl, ?_⟩
      simp only [T.parts, pl_parts, List.map_append, List.map_map, List.map_cons, List.map_nil, Function.comp_def, putQ, if_pos hx]
    · rw [if_neg hx]
      refine ⟨rfl, rfl, rfl, ?_⟩
      simp only [T.parts, pl_parts, put_names, plI_put, List.map_append, List.map_map, List.map_cons, List.map_nil, Function.comp_def, putQ, if_neg hx]
  | cs a ws =>
    refine ⟨rfl, rfl, ?_, ?_⟩
    · simp only [T.put, extD, wlI_put, List.map_map, Function.comp_def]
    · simp only [T.put, T.parts, wl_parts, wlI_put, List.map_map, List.map_cons, Function.comp_def, putQ, List.not_mem_nil, if_false]
  | num _ => cases h
  | name _ => cases h
  | make _ => cases h
theorem free_not : ∀ (f : Nat) (t : T) (bd : List Str), t.h ≤ f → ∀ s ∈ t.free bd, s ∉ bd
  | 0, t, _, hf, _, _ => by have := t.h_pos; omega
  | f + 1, t, bd, hf, s, hs => by
    rw [free_eq] at hs
    rcases List.mem_append.mp hs with hs | hs
    · cases t with
      | name y =>
        simp only [ownN] at hs
        split at hs
        · cases hs
        · rename_i hy; rw [List.mem_singleton.mp hs]; exact hy
      | _ => cases hs
    · simp only [restN, List.mem_flatten, List.mem_map] at hs
      obtain ⟨l, ⟨q, hq, rfl⟩, hs⟩ := hs
      have := parts_h hq
      have := free_not f q.1 (bd ++ q.2) (by omega) s hs
      exact fun z => this (List.mem_append_left _ z)
theorem free_pre (bs : List Str) : ∀ (f : Nat) (t : T) (bd : List Str), t.h ≤ f → t.free (bs ++ bd) = (t.free bd).filter fun s => decide (s ∉ bs)
  | 0, t, _, hf => by have := t.h_pos; omega
  | f + 1, t, bd, hf => by
    rw [free_eq, free_eq, List.filter_append]
    congr 1
    · cases t with
      | name y =>
        simp only [ownN, List.mem_append]
        by_cases h1 : y ∈ bs <;> by_cases h2 : y ∈ bd <;> simp [h1, h2]
      | _ => rfl
    · simp only [restN, List.filter_flatten, List.map_map]
      congr 1
      refine List.map_congr_left fun q hq => ?_
      have := parts_h hq
      simp only [Function.comp_apply]
      rw [List.append_assoc, free_pre bs f q.1 (bd ++ q.2) (by omega)]
theorem free_cl {c : T} (hc : c.free [] = []) (bd : List Str) : c.free bd = [] := by
  have := free_pre bd c.h c [] (Nat.le_refl _)
  rw [List.append_nil, hc] at this
  simpa using this
theorem filter_id {x : Str} {l : List Str} (h : x ∉ l) : (l.filter fun s => decide (s ≠ x)) = l := List.filter_eq_self.mpr fun s hs => decide_eq_true fun z => h (by rw [← z]; exact hs)
theorem free_put {x : Str} {c : T} (hc : c.free [] = []) : ∀ (f : Nat) (t : T) (bd : List Str), t.h ≤ f → x ∉ bd → (T.put x c t).free bd = (t.free bd).filter fun s => decide (s ≠ x)
  | 0, t, _, hf, _ => by have := t.h_pos; omega
  | f + 1, t, bd, hf, hx => by
    cases hl : t.leaf with
    | true =>
      cases t <;> first | (exfalso; simp [T.leaf] at hl; done) | skip
      case num i => rfl
      case make s => rfl
      case name s =>
        rw [T.put]
        by_cases hs : s = x
        · subst hs
          rw [if_pos rfl, free_cl hc]
          simp [T.free, hx]
        · rw [if_neg hs]
          simp only [T.free]
          split <;> simp [hs]
    | false =>
      obtain ⟨l1, l2, l3, l4⟩ := parts_put x c hl
      rw [free_eq, free_eq t, own_in hl, own_in l1, List.nil_append, List.nil_append, l4]
      simp only [restN, List.filter_flatten, List.map_map]
      congr 1
      refine List.map_congr_left fun q hq => ?_
      have := parts_h hq
      simp only [Function.comp_apply, putQ]
      by_cases hxq : x ∈ q.2
      · rw [if_pos hxq, filter_id fun z => free_not f q.1 _ (by omega) x z (List.mem_append_right _ hxq)]
      · rw [if_neg hxq]
        exact free_put hc f q.1 _ (by omega) fun z => (List.mem_append.mp z).elim hx hxq
mutual
theorem put_id {x : Str} {c : T} : ∀ {t : T} {bd : List Str}, x ∉ bd → x ∉ t.free bd → T.put x c t = t
  | .num i, _, _, _ => rfl
  | .make s, _, _, _ => rfl
  | .name s, bd, hb, h => by
    rw [T.put, if_neg]
    intro z
    subst z
    simp [T.free, hb] at h
  | .app a b, bd, hb, h => by
    simp only [T.free, List.mem_append, not_or] at h
    rw [T.put, put_id hb h.1, put_id hb h.2]
  | .op o a b, bd, hb, h => by
    simp only [T.free, List.mem_append, not_or] at h
    rw [T.put, put_id hb h.1, put_id hb h.2]
  | .fn y b, bd, hb, h => by
    rw [T.put]
    split
    · rfl
    · rename_i hy
      rw [T.free] at h
      rw [put_id (bd := bd ++ [y]) (by simp [hb, Ne.symm hy]) h]
  | .lt ps b, bd, hb, h => by
    rw [T.put]
    split
    · rfl
    · rename_i hy
      simp only [T.free, List.mem_append, not_or] at h
      rw [PL.put_id (bd := bd ++ ps.names) (by simp [hb, hy]) h.1, put_id (bd := bd ++ ps.names) (by simp [hb, hy]) h.2]
  | .cs a ws, bd, hb, h => by
    simp only [T.free, List.mem_append, not_or] at h
    rw [T.put, put_id hb h.1, WL.put_id hb h.2]
theorem PL.put_id {x : Str} {c : T} : ∀ {t : PL} {bd : List Str}, x ∉ bd → x ∉ t.free bd → PL.put x c t = t
  | .nil, _, _, _ => rfl
  | .cons y t r, bd, hb, h => by
    simp only [PL.free, List.mem_append, not_or] at h
    rw [PL.put, put_id hb h.1, PL.put_id hb h.2]
theorem WL.put_id {x : Str} {c : T} : ∀ {t : WL} {bd : List Str}, x ∉ bd → x ∉ t.free bd → WL.put x c t = t
  | .nil, _, _, _ => rfl
  | .cons k xs t r, bd, hb, h => by
    simp only [WL.free, List.mem_append, not_or] at h
    rw [WL.put, WL.put_id hb h.2]
    split
    · rfl
    · rename_i hx
      rw [put_id (bd := bd ++ xs) (by simp [hb, hx]) h.1]
end
mutual
theorem put_comm {x y : Str} {c d : T} (hxy : x ≠ y) (hc : c.free [] = []) (hd : d.free [] = []) : ∀ t : T, T.put y d (T.put x c t) = T.put x c (T.put y d t)
  | .num i => rfl
  | .make s => rfl
  | .name s => by
    rw [T.put, T.put]
    by_cases h1 : s = x
    · subst h1
      have : ¬ s = y := hxy
      simp only [if_true, this, if_false, T.put]
      exact put_id (bd := []) List.not_mem_nil (by rw [hc]; exact List.not_mem_nil)
    · by_cases h2 : s = y
      · subst h2
        simp only [h1, if_false, if_true, T.put]
        exact (put_id (bd := []) List.not_mem_nil (by rw [hd]; exact List.not_mem_nil)).symm
      · simp only [h1, h2, if_false, T.put]
  | .app a b => by simp only [T.put, put_comm hxy hc hd a, put_comm hxy hc hd b]
  | .op o a b => by simp only [T.put, put_comm hxy hc hd a, put_comm hxy hc hd b]
  | .fn z b => by
    have ih := put_comm hxy hc hd b
    simp only [T.put]
    by_cases h1 : z = x
    · subst h1
      have : ¬ z = y := hxy
      simp only [if_true, this, if_false, T.put]
    · by_cases h2 : z = y
      · subst h2
        simp only [h1, if_false, if_true, T.put]
      · simp only [h1, h2, if_false, T.put, ih]
  | .lt ps b => by
    have ih := put_comm hxy hc hd b
    have ip := PL.put_comm hxy hc hd ps
    simp only [T.put]
    by_cases h1 : x ∈ ps.names <;> by_cases h2 : y ∈ ps.names <;> simp only [h1, h2, if_true, if_false, T.put, put_names, ih, ip]
  | .cs a ws => by simp only [T.put, put_comm hxy hc hd a, WL.put_comm hxy hc hd ws]
theorem PL.put_comm {x y : Str} {c d : T} (hxy : x ≠ y) (hc : c.free [] = []) (hd : d.free [] = []) : ∀ t : PL, PL.put y d (PL.put x c t) = PL.put x c (PL.put y d t)
  | .nil => rfl
  | .cons z t r => by simp only [PL.put, M.put_comm hxy hc hd t, PL.put_comm hxy hc hd r]
theorem WL.put_comm {x y : Str} {c d : T} (hxy : x ≠ y) (hc : c.free [] = []) (hd : d.free [] = []) : ∀ t : WL, WL.put y d (WL.put x c t) = WL.put x c (WL.put y d t)
  | .nil => rfl
  | .cons k xs t r => by
    have ih := M.put_comm hxy hc hd t
    simp only [WL.put, WL.put_comm hxy hc hd r]
    by_cases h1 : x ∈ xs <;> by_cases h2 : y ∈ xs <;> simp only [h1, h2, if_true, if_false, ih]
end
mutual
theorem put_z (x : Str) (c : T) : ∀ t : T, (T.put x c t).z ≤ t.z * c.z
  | .num i => by have := c.z_pos; simp only [T.put, T.z]; omega
  | .make s => by have := c.z_pos; simp only [T.put, T.z]; omega
  | .name s => by have := c.z_pos; rw [T.put]; split <;> simp only [T.z] <;> omega
  | .app a b => by
    have := c.z_pos; have h1 := put_z x c a; have h2 := put_z x c b
    simp only [T.put, T.z, Nat.add_mul]; omega
  | .op o a b => by
    have := c.z_pos; have h1 := put_z x c a; have h2 := put_z x c b
    simp only [T.put, T.z, Nat.add_mul]; omega
  | .fn y b => by
    have := c.z_pos; have h2 := put_z x c b
    have := Nat.le_mul_of_pos_right b.z c.z_pos
    rw [T.put]; split <;> simp only [T.z, Nat.add_mul] <;> omega
  | .lt ps b => by
    have := c.z_pos; have h1 := PL.put_z x c ps; have h2 := put_z x c b
    have := Nat.le_mul_of_pos_right b.z c.z_pos
    have := Nat.le_mul_of_pos_right ps.z c.z_pos
    rw [T.put]; split <;> simp only [T.z, Nat.add_mul] <;> omega
  | .cs a ws => by
    have := c.z_pos; have h1 := put_z x c a; have h2 := WL.put_z x c ws
    simp only [T.put, T.z, Nat.add_mul]; omega
theorem PL.put_z (x : Str) (c : T) : ∀ t : PL, (PL.put x c t).z ≤ t.z * c.z
  | .nil => by simp [PL.put, PL.z]
  | .cons y t r => by
    have h1 := M.put_z x c t; have h2 := PL.put_z x c r
    simp only [PL.put, PL.z, Nat.add_mul]; omega
theorem WL.put_z (x : Str) (c : T) : ∀ t : WL, (WL.put x c t).z ≤ t.z * c.z
  | .nil => by simp [WL.put, WL.z]
  | .cons k xs t r => by
    have h1 := M.put_z x c t; have h2 := WL.put_z x c r
    have := Nat.le_mul_of_pos_right t.z c.z_pos
    simp only [WL.put, WL.z, Nat.add_mul]; split <;> omega
end
mutual
theorem put_wk {N : Nat} {x : Str} {c : T} (hc : c.Wk N) : ∀ {t : T}, t.Wk N → (T.put x c t).Wk N
  | .num i, ok => ok
  | .make s, ok => ok
  | .name s, ok => by rw [T.put]; split; exact hc; exact ok
  | .app a b, ok => ⟨put_wk hc ok.1, put_wk hc ok.2⟩
  | .op o a b, ok => ⟨ok.1, put_wk hc ok.2.1, put_wk hc ok.2.2⟩
  | .fn y b, ok => by rw [T.put]; split; exact ok; exact ⟨ok.1, put_wk hc ok.2⟩
  | .lt ps b, ok => by
    rw [T.put]
    split
    · exact ok
    · exact ⟨by rw [plI_put, List.length_map]; exact ok.1, PL.put_wk hc ok.2.1, put_wk hc ok.2.2⟩
  | .cs a ws, ok => ⟨put_wk hc ok.1, by rw [wlI_put, List.length_map]; exact ok.2.1, WL.put_wk hc ok.2.2⟩
theorem PL.put_wk {N : Nat} {x : Str} {c : T} (hc : c.Wk N) : ∀ {t : PL}, t.Wk N → (PL.put x c t).Wk N
  | .nil, _ => trivial
  | .cons y t r, ok => ⟨ok.1, M.put_wk hc ok.2.1, PL.put_wk hc ok.2.2⟩
theorem WL.put_wk {N : Nat} {x : Str} {c : T} (hc : c.Wk N) : ∀ {t : WL}, t.Wk N → (WL.put x c t).Wk N
  | .nil, _ => trivial
  | .cons k xs t r, ok => by
    rw [WL.put]
    refine ⟨ok.1, ok.2.1, ok.2.2.1, ?_, WL.put_wk hc ok.2.2.2.2⟩
    split
    · exact ok.2.2.2.1
    · exact M.put_wk hc ok.2.2.2.1
end
/-! nl -/
theorem nl_fuel : ∀ (f g : Nat) (t : T) (bd : List Str), t.h ≤ f → t.h ≤ g → nl f t bd = nl g t bd
  | 0, _, t, _, h, _ => by have := t.h_pos; omega
  | f + 1, 0, t, _, _, h => by have := t.h_pos; omega
  | f + 1, g + 1, t, bd, h1, h2 => by
    rw [nl, nl]
    cases hl : t.leaf with
    | true => cases t <;> first | rfl | (exfalso; simp [T.leaf] at hl; done)
    | false =>
      rw [nlC_in hl, nlC_in hl]
      have : t.parts.map (fun p => nl f p.1 (bd ++ p.2)) = t.parts.map fun p => nl g p.1 (bd ++ p.2) := List.map_congr_left fun q hq => by
        have := parts_h hq
        exact nl_fuel f g q.1 _ (by omega) (by omega)
      rw [this]
theorem nl_pre (bs : List Str) : ∀ (f : Nat) (t : T) (bd : List Str), t.free bd = [] → nl f t (bs ++ bd) = nl f t bd
  | 0, _, _, _ => rfl
  | f + 1, t, bd, h => by
    rw [nl, nl]
    cases hl : t.leaf with
    | true =>
      cases t <;> first | rfl | (exfalso; simp [T.leaf] at hl; done) | skip
      case name s =>
        have hs : s ∈ bd := by
          rw [T.free] at h
          split at h
          · assumption
          · cases h
        have hk : ∃ k, lix bd s = some k := by
          clear h
          induction bd with
          | nil => cases hs
          | cons b bd ih =>
            rw [lix]
            cases e : lix bd s with
            | some k => exact ⟨_, rfl⟩
            | none =>
              rcases List.mem_cons.mp hs with rfl | hs
              · simp
              · obtain ⟨k, hk⟩ := ih hs; rw [e] at hk; cases hk
        obtain ⟨k, hk⟩ := hk
        have lt := lix_lt hk
        simp only [nlC, nlN, lix_append, hk, List.length_append]
        congr 4
        omega
    | false =>
      rw [nlC_in hl, nlC_in hl]
      rw [free_eq, own_in hl, List.nil_append] at h
      have : t.parts.map (fun p => nl f p.1 (bs ++ bd ++ p.2)) = t.parts.map fun p => nl f p.1 (bd ++ p.2) := List.map_congr_left fun q hq => by
        rw [List.append_assoc]
        refine nl_pre bs f q.1 _ ?_
        simp only [restN, List.flatten_eq_nil_iff] at h
        exact h _ (List.mem_map.mpr ⟨q, hq, rfl⟩)
      rw [this]
theorem lix_none {bd : List Str} {s : Str} (h : s ∉ bd) : lix bd s = none := by
  induction bd with
  | nil => rfl
  | cons b bd ih =>
    rw [List.mem_cons, not_or] at h
    rw [lix, ih h.2]
    simp [Ne.symm h.1]
mutual
def sbD (x : Str) (C : D) : D → D
  | .tup [.str a, .str s] => if a = "name" ∧ s = x then C else .tup [.str a, .str s]
  | .tup [.str a, .int n, .lst xs] => .tup [.str a, .int n, .lst (sbDs x C xs)]
  | d => d
def sbDs (x : Str) (C : D) : List D → List D
  | [] => []
  | d :: ds => sbD x C d :: sbDs x C ds
end
mutual
def frD : D → List Str
  | .tup [.str a, .str s] => if a = "name" then [s] else []
  | .tup [.str a, .int n, .lst xs] => frDs xs
  | _ => []
def frDs : List D → List Str
  | [] => []
  | d :: ds => frD d ++ frDs ds
end
theorem sbDs_app (x : Str) (C : D) : ∀ a b : List D, sbDs x C (a ++ b) = sbDs x C a ++ sbDs x C b
  | [], _ => by simp [sbDs]
  | d :: a, b => by simp only [List.cons_append, sbDs, sbDs_app x C a b]
theorem frDs_app : ∀ a b : List D, frDs (a ++ b) = frDs a ++ frDs b
  | [], _ => by simp [frDs]
  | d :: a, b => by simp only [List.cons_append, frDs, frDs_app a b, List.append_assoc]
theorem sbDs_map {α : Type} (x : Str) (C : D) (F : α → D) : ∀ l : List α, sbDs x C (l.map F) = l.map fun q => sbD x C (F q)
  | [] => by simp [sbDs]
  | d :: a => by simp only [List.map_cons, sbDs, sbDs_map x C F a]
theorem frDs_map {α : Type} (F : α → D) : ∀ l : List α, frDs (l.map F) = (l.map fun q => frD (F q)).flatten
  | [] => by simp [frDs]
  | d :: a => by simp only [List.map_cons, frDs, frDs_map F a, List.flatten_cons]
theorem sub_ext (x : Str) (C : D) (t : T) : sbDs x C (extD t) = extD t := by
  cases t <;> simp only [extD, sbDs, sbD]
  rw [sbDs_map]
  exact List.map_congr_left fun q _ => by simp only [sbD]
theorem fr_ext (t : T) : frDs (extD t) = [] := by
  cases t <;> simp only [extD, frDs, frD, List.append_nil]
  rw [frDs_map]
  simp only [frD]
  simp
theorem fr_nl : ∀ (f : Nat) (t : T) (bd : List Str), t.h ≤ f → frD (nl f t bd) = t.free bd
  | 0, t, _, h => by have := t.h_pos; omega
  | f + 1, t, bd, h => by
    rw [nl]
    cases hl : t.leaf with
    | true =>
      cases t <;> first | (exfalso; simp [T.leaf] at hl; done) | skip
      case num i => simp [nlC, frD, T.free]
      case make i => simp only [nlC, frD, T.free, lit_eq, String.reduceEq, if_false]
      case name s =>
        simp only [nlC, nlN, T.free]
        by_cases hs : s ∈ bd
        · have : lix bd s ≠ none := by
            intro e
            clear h
            induction bd with
            | nil => cases hs
            | cons b bd ih =>
              rw [lix] at e
              cases e2 : lix bd s with
              | some k => rw [e2] at e; cases e
              | none =>
                rw [e2] at e
                rcases List.mem_cons.mp hs with rfl | hs
                · simp at e
                · exact ih hs e2
          cases e : lix bd s with
          | none => exact absurd e this
          | some k => simp [frD, hs]
        · rw [lix_none hs]
          simp [frD, hs]
    | false =>
      rw [nlC_in hl, frD, frDs_app, fr_ext, List.append_nil, frDs_map, free_eq, own_in hl, List.nil_append, restN]
      congr 1
      exact List.map_congr_left fun q hq => by
        have := parts_h hq
        exact fr_nl f q.1 _ (by omega)
theorem sub_id (x : Str) (C : D) : ∀ (f : Nat) (t : T) (bd : List Str), x ∉ t.free bd → sbD x C (nl f t bd) = nl f t bd
  | 0, _, _, _ => by simp [nl, sbD]
  | f + 1, t, bd, h => by
    rw [nl]
    cases hl : t.leaf with
    | true =>
      cases t <;> first | (exfalso; simp [T.leaf] at hl; done) | skip
      case num i => simp [nlC, sbD]
      case make i => simp only [nlC, sbD, lit_eq, String.reduceEq, false_and, if_false]
      case name s =>
        simp only [nlC, nlN]
        cases e : lix bd s with
        | some k => simp [sbD]
        | none =>
          have hs : s ≠ x := by
            rintro rfl
            rw [T.free] at h
            split at h
            · rename_i hm
              clear h
              induction bd with
              | nil => cases hm
              | cons b bd ih =>
                rw [lix] at e
                cases e2 : lix bd s with
                | some k => rw [e2] at e; cases e
                | none =>
                  rw [e2] at e
                  rcases List.mem_cons.mp hm with rfl | hm
                  · simp at e
                  · exact ih e2 hm
            · exact h (List.mem_singleton.mpr rfl)
          simp [sbD, hs]
    | false =>
      rw [free_eq, own_in hl, List.nil_append] at h
      rw [nlC_in hl, sbD, sbDs_app, sub_ext, sbDs_map]
      have : t.parts.map (fun q => sbD x C (nl f q.1 (bd ++ q.2))) = t.parts.map fun q => nl f q.1 (bd ++ q.2) := List.map_congr_left fun q hq => by
        refine sub_id x C f q.1 _ fun z => h ?_
        simp only [restN, List.mem_flatten, List.mem_map]
        exact ⟨_, ⟨q, hq, rfl⟩, z⟩
      rw [this]
theorem nl_put {x : Str} {c : T} (hc : c.free [] = []) : ∀ (f : Nat) (t : T) (bd : List Str), t.h + c.h ≤ f → x ∉ bd → nl f (T.put x c t) bd = sbD x (nl c.h c []) (nl f t bd)
  | 0, t, _, h, _ => by have := t.h_pos; omega
  | f + 1, t, bd, h, hx => by
    have cp := c.h_pos
    cases hl : t.leaf with
    | true =>
      cases t <;> first | (exfalso; simp [T.leaf] at hl; done) | skip
      case num i => simp [T.put, nl, nlC, sbD]
      case make i => simp only [T.put, nl, nlC, sbD, lit_eq, String.reduceEq, false_and, if_false]
      case name s =>
        rw [T.put]
        by_cases hs : s = x
        · subst hs
          rw [if_pos rfl]
          have e : nl (f + 1) (.name s) bd = .tup [.str "name", .str s] := by simp only [nl, nlC, nlN, lix_none hx]
          rw [e]
          have := nl_pre bd (f + 1) c [] hc
          rw [List.append_nil] at this
          rw [this, nl_fuel (f + 1) c.h c [] (by simp only [T.h] at h; omega) (Nat.le_refl _)]
          simp [sbD]
        · rw [if_neg hs, sub_id]
          simp only [T.free]
          split
          · exact List.not_mem_nil
          · simp [Ne.symm hs]
    | false =>
      obtain ⟨l1, l2, l3, l4⟩ := parts_put x c hl
      rw [nl, nl, nlC_in hl, nlC_in l1, l2, l3, l4, sbD, sbDs_app, sub_ext, sbDs_map, List.map_map]
      have : t.parts.map ((fun p => nl f p.1 (bd ++ p.2)) ∘ fun q => (putQ x c q, q.2)) = t.parts.map fun q => sbD x (nl c.h c []) (nl f q.1 (bd ++ q.2)) := List.map_congr_left fun q hq => by
        have hq2 := parts_h hq
        simp only [Function.comp_apply, putQ]
        by_cases hxq : x ∈ q.2
        · rw [if_pos hxq, sub_id]
          exact fun z => free_not q.1.h q.1 _ (Nat.le_refl _) x z (List.mem_append_right _ hxq)
        · rw [if_neg hxq]
          exact nl_put hc f q.1 _ (by omega) fun z => (List.mem_append.mp z).elim hx hxq
      rw [this]
      simp only [List.length_append, List.length_map]
theorem put_eqv {x : Str} {a b : T} (ha : a.free [] = []) (hb : b.free [] = []) : ∀ (f : Nat) (t : T) (bd : List Str), t.h + a.h ≤ f → t.h + b.h ≤ f → x ∉ bd →
    PyData.eqv (nl f (T.put x a t) bd).py (nl f (T.put x b t) bd).py = (decide (x ∉ t.free bd) || PyData.eqv (nl a.h a []).py (nl b.h b []).py)
  | 0, t, _, h, _, _ => by have := t.h_pos; omega
  | f + 1, t, bd, h1, h2, hx => by
    cases hl : t.leaf with
    | true =>
      cases t <;> first | (exfalso; simp [T.leaf] at hl; done) | skip
      case num i => simp only [T.put, T.free, List.not_mem_nil, not_false_eq_true, decide_true, Bool.true_or]; exact eqv_refl _ (nl_plain ..)
      case make i => simp only [T.put, T.free, List.not_mem_nil, not_false_eq_true, decide_true, Bool.true_or]; exact eqv_refl _ (nl_plain ..)
      case name s =>
        rw [T.put, T.put]
        by_cases hs : s = x
        · subst hs
          rw [if_pos rfl, if_pos rfl]
          have e1 := nl_pre bd (f + 1) a [] ha
          have e2 := nl_pre bd (f + 1) b [] hb
          rw [List.append_nil] at e1 e2
          rw [e1, e2, nl_fuel (f + 1) a.h a [] (by simp only [T.h] at h1; omega) (Nat.le_refl _), nl_fuel (f + 1) b.h b [] (by simp only [T.h] at h2; omega) (Nat.le_refl _)]
          simp [T.free, hx]
        · rw [if_neg hs, if_neg hs]
          have : x ∉ T.free bd (.name s) := by
            rw [T.free]; split
            · exact List.not_mem_nil
            · simp [Ne.symm hs]
          rw [decide_eq_true this, Bool.true_or]
          exact eqv_refl _ (nl_plain ..)
    | false =>
      obtain ⟨l1, l2, l3, l4⟩ := parts_put x a hl
      obtain ⟨m1, m2, m3, m4⟩ := parts_put x b hl
      rw [nl, nl, nlC_in l1, nlC_in m1, l2, l3, l4, m2, m3, m4, List.map_map, List.map_map]
      simp only [D.py, D.pys, PyData.eqv, PyData.eqvAll, beq_self_eq_true, Bool.true_and, Bool.and_true, List.length_append, List.length_map, pys_app]
      rw [eqvAll_app (by rw [pys_len, pys_len, List.length_map, List.length_map]), eqvs_refl _ (ext_plain t), Bool.and_true, free_eq, own_in hl, List.nil_append]
      have key : ∀ P : List (T × List Str), (∀ q ∈ P, q ∈ t.parts) → PyData.eqvAll (D.pys (P.map ((fun p => nl f p.1 (bd ++ p.2)) ∘ fun q => (putQ x a q, q.2)))) (D.pys (P.map ((fun p => nl f p.1 (bd ++ p.2)) ∘ fun q => (putQ x b q, q.2)))) = (decide (x ∉ restN bd P) || PyData.eqv (nl a.h a []).py (nl b.h b []).py) := by
        intro P
        induction P with
        | nil => intro _; simp [D.pys, PyData.eqvAll, restN]
        | cons q P ih =>
          intro hP
          have hq := parts_h (hP q (List.mem_cons_self ..))
          have ih := ih fun q hq => hP q (List.mem_cons_of_mem _ hq)
          have e : PyData.eqv (nl f (putQ x a q) (bd ++ q.2)).py (nl f (putQ x b q) (bd ++ q.2)).py = (decide (x ∉ q.1.free (bd ++ q.2)) || PyData.eqv (nl a.h a []).py (nl b.h b []).py) := by
            unfold putQ
            by_cases hxq : x ∈ q.2
            · rw [if_pos hxq, if_pos hxq, decide_eq_true (p := x ∉ q.1.free (bd ++ q.2)) fun z => free_not q.1.h q.1 _ (Nat.le_refl _) x z (List.mem_append_right _ hxq), Bool.true_or]
              exact eqv_refl _ (nl_plain ..)
            · rw [if_neg hxq, if_neg hxq]
              exact put_eqv ha hb f q.1 _ (by omega) (by omega) fun z => (List.mem_append.mp z).elim hx hxq
          simp only [List.map_cons, D.pys, PyData.eqvAll, Function.comp_apply, ih, restN_cons, List.mem_append, not_or, e]
          by_cases h1 : x ∈ q.1.free (bd ++ q.2) <;> by_cases h2 : x ∈ restN bd P <;> simp [h1, h2]
      exact key _ fun _ h => h
end M

namespace M
open PySem PySem.Spec PyProof.Rows L2
/-! ### == of terms is being the same -/
mutual
def D.nb : D → Bool
  | .int _ => true
  | .str _ => true
  | .lst xs => D.nbs xs
  | .tup xs => D.nbs xs
  | _ => false
def D.nbs : List D → Bool
  | [] => true
  | x :: xs => x.nb && D.nbs xs
end
mutual
theorem eqv_inj : ∀ a b : D, a.nb = true → b.nb = true → PyData.eqv a.py b.py = true → a = b
  | .int i, b, _, hb, h => by
    cases b <;> first | (simp [D.nb] at hb; done) | (simp [D.py, PyData.eqv] at h; done) | skip
    simp only [D.py, PyData.eqv, beq_iff_eq] at h
    rw [h]
  | .str i, b, _, hb, h => by
    cases b <;> first | (simp [D.nb] at hb; done) | (simp [D.py, PyData.eqv] at h; done) | skip
    simp only [D.py, PyData.eqv, beq_iff_eq] at h
    rw [h]
  | .lst xs, b, ha, hb, h => by
    cases b <;> first | (simp [D.nb] at hb; done) | (simp [D.py, PyData.eqv] at h; done) | skip
    simp only [D.py, PyData.eqv] at h
    rw [eqvs_inj xs _ ha hb h]
  | .tup xs, b, ha, hb, h => by
    cases b <;> first | (simp [D.nb] at hb; done) | (simp [D.py, PyData.eqv] at h; done) | skip
    simp only [D.py, PyData.eqv] at h
    rw [eqvs_inj xs _ ha hb h]
  | .non, _, ha, _, _ => by cases ha
  | .bl _, _, ha, _, _ => by cases ha
  | .dic _, _, ha, _, _ => by cases ha
  | .ty _, _, ha, _, _ => by cases ha
  | .fn _, _, ha, _, _ => by cases ha
theorem eqvs_inj : ∀ xs ys : List D, D.nbs xs = true → D.nbs ys = true → PyData.eqvAll (D.pys xs) (D.pys ys) = true → xs = ys
  | [], [], _, _, _ => rfl
  | x :: xs, y :: ys, ha, hb, h => by
    simp only [D.nbs, Bool.and_eq_true] at ha hb
    simp only [D.pys, PyData.eqvAll, Bool.and_eq_true] at h
    rw [eqv_inj x y ha.1 hb.1 h.1, eqvs_inj xs ys ha.2 hb.2 h.2]
  | [], _ :: _, _, _, h => by simp [D.pys, PyData.eqvAll] at h
  | _ :: _, [], _, _, h => by simp [D.pys, PyData.eqvAll] at h
end
theorem nbs_strs : ∀ ss : List Str, D.nbs (ss.map .str) = true
  | [] => rfl
  | s :: ss => by simp only [List.map_cons, D.nbs, D.nb, nbs_strs ss, Bool.and_self]
mutual
theorem T.nb : ∀ t : T, t.d.nb = true
  | .num _ => rfl
  | .name _ => rfl
  | .make _ => rfl
  | .app a b => by simp only [T.d, D.nb, D.nbs, a.nb, b.nb, Bool.and_self]
  | .op _ a b => by simp only [T.d, D.nb, D.nbs, a.nb, b.nb, Bool.and_self]
  | .fn _ b => by simp only [T.d, D.nb, D.nbs, b.nb, Bool.and_self]
  | .lt ps b => by simp only [T.d, D.nb, D.nbs, ps.nb, b.nb, Bool.and_self]
  | .cs a ws => by simp only [T.d, D.nb, D.nbs, a.nb, ws.nb, Bool.and_self]
theorem PL.nb : ∀ t : PL, D.nbs t.d = true
  | .nil => rfl
  | .cons x t r => by simp only [PL.d, D.nb, D.nbs, t.nb, r.nb, Bool.and_self]
theorem WL.nb : ∀ t : WL, D.nbs t.d = true
  | .nil => rfl
  | .cons c xs t r => by simp only [WL.d, D.nb, D.nbs, t.nb, r.nb, nbs_strs, Bool.and_self]
end
theorem strs_inj : ∀ {a b : List Str}, a.map D.str = b.map D.str → a = b
  | [], [], _ => rfl
  | x :: a, y :: b, h => by
    simp only [List.map_cons, List.cons.injEq, D.str.injEq] at h
    rw [h.1, strs_inj h.2]
  | [], _ :: _, h => by simp at h
  | _ :: _, [], h => by simp at h
mutual
theorem T.d_inj : ∀ t u : T, t.d = u.d → t = u
  | .num i, u, h => by cases u <;> simp only [T.d, D.tup.injEq, List.cons.injEq, D.str.injEq, D.int.injEq, lit_eq, String.reduceEq, false_and, true_and, and_true, reduceCtorEq] at h; rw [h]
  | .name i, u, h => by cases u <;> simp only [T.d, D.tup.injEq, List.cons.injEq, D.str.injEq, D.int.injEq, lit_eq, String.reduceEq, false_and, true_and, and_true, reduceCtorEq] at h; rw [h]
  | .make i, u, h => by cases u <;> simp only [T.d, D.tup.injEq, List.cons.injEq, D.str.injEq, D.int.injEq, lit_eq, String.reduceEq, false_and, true_and, and_true, reduceCtorEq] at h; rw [h]
  | .app a b, u, h => by
    cases u <;> simp only [T.d, D.tup.injEq, List.cons.injEq, D.str.injEq, D.int.injEq, lit_eq, String.reduceEq, false_and, true_and, and_true, reduceCtorEq] at h
    rw [T.d_inj a _ h.1, T.d_inj b _ h.2]
  | .op o a b, u, h => by
    cases u <;> simp only [T.d, D.tup.injEq, List.cons.injEq, D.str.injEq, D.int.injEq, lit_eq, String.reduceEq, false_and, true_and, and_true, reduceCtorEq] at h
    rw [h.1, T.d_inj a _ h.2.1, T.d_inj b _ h.2.2]
  | .fn x b, u, h => by
    cases u <;> simp only [T.d, D.tup.injEq, List.cons.injEq, D.str.injEq, D.int.injEq, lit_eq, String.reduceEq, false_and, true_and, and_true, reduceCtorEq] at h
    rw [h.1, T.d_inj b _ h.2]
  | .lt ps b, u, h => by
    cases u <;> simp only [T.d, D.tup.injEq, List.cons.injEq, D.str.injEq, D.int.injEq, lit_eq, String.reduceEq, false_and, true_and, and_true, reduceCtorEq] at h
    rw [PL.d_inj ps _ h.1, T.d_inj b _ h.2]
  | .cs a ws, u, h => by
    cases u <;> simp only [T.d, D.tup.injEq, List.cons.injEq, D.str.injEq, D.int.injEq, lit_eq, String.reduceEq, false_and, true_and, and_true, reduceCtorEq] at h
    rw [T.d_inj a _ h.1, WL.d_inj ws _ h.2]
theorem PL.d_inj : ∀ t u : PL, t.d = u.d → t = u
  | .nil, u, h => by cases u <;> simp [PL.d] at h ⊢
  | .cons x t r, u, h => by
    cases u <;> simp only [PL.d, List.cons.injEq, D.tup.injEq, D.str.injEq, and_true, reduceCtorEq] at h
    rw [h.1.1, T.d_inj t _ h.1.2, PL.d_inj r _ h.2]
theorem WL.d_inj : ∀ t u : WL, t.d = u.d → t = u
  | .nil, u, h => by cases u <;> simp [WL.d] at h ⊢
  | .cons x xs t r, u, h => by
    cases u <;> simp only [WL.d, List.cons.injEq, D.tup.injEq, D.str.injEq, and_true, reduceCtorEq] at h
    rw [h.1.1, strs_inj h.1.2.1, T.d_inj t _ h.1.2.2, WL.d_inj r _ h.2]
end
theorem eqv_T (t u : T) [Decidable (t = u)] : PyData.eqv t.d.py u.d.py = decide (t = u) := by
  by_cases h : t = u
  · rw [decide_eq_true h, h, eqv_refl _ u.plain]
  · rw [decide_eq_false h]
    exact Bool.eq_false_iff.mpr fun e => h (T.d_inj t u (eqv_inj _ _ t.nb u.nb e))
theorem eqGw_T (t u : T) [Decidable (t = u)] (ht : t.h ≤ 300) : eqGw t.d u.d = some (decide (t = u)) := by
  unfold eqGw
  rw [if_pos ⟨t.plain, u.plain, by have := t.depth; omega⟩, eqv_T]
theorem eqW_T (t u : T) [Decidable (t = u)] (ht : t.h ≤ 300) : eqW t.d u.d = some (.bl (decide (t = u))) := by
  have g := eqGw_T t u ht
  obtain ⟨r1, e1⟩ := tag_d t
  obtain ⟨r2, e2⟩ := tag_d u
  rw [e1, e2] at g ⊢
  simp only [eqW, eqQw, g, Option.map_some]
theorem neW_T (t u : T) [Decidable (t = u)] (ht : t.h ≤ 300) : neW t.d u.d = some (.bl (!decide (t = u))) := by
  have g := eqGw_T t u ht
  obtain ⟨r1, e1⟩ := tag_d t
  obtain ⟨r2, e2⟩ := tag_d u
  rw [e1, e2] at g ⊢
  simp only [neW, neQw, g, Option.map_some]
theorem ne_strsLW (xs ys : List Str) : neW (.lst (xs.map .str)) (.lst (ys.map .str)) = some (.bl (!decide (xs = ys))) := by
  have g : (D.lst (xs.map .str)).plain = true ∧ (D.lst (ys.map .str)).plain = true ∧ min (D.lst (xs.map .str)).py.depth (D.lst (ys.map .str)).py.depth ≤ 1000 := by
    refine ⟨plains_strs xs, plains_strs ys, ?_⟩
    have := depth_strs xs
    simp only [D.py, pys_strs, PyData.depth]
    omega
  simp only [neW, neQw, eqGw]
  rw [if_pos g]
  simp only [D.py, pys_strs, PyData.eqv, eqvAll_strs, Option.map_some]
theorem free_asc {N : Nat} (hN : 1 ≤ N) : ∀ (f : Nat) (t : T) (bd : List Str), t.h ≤ f → t.Wk N → ∀ s ∈ t.free bd, Asc s 40
  | 0, t, _, h, _, _, _ => by have := t.h_pos; omega
  | f + 1, t, bd, h, ok, s, hs => by
    rw [free_eq] at hs
    rcases List.mem_append.mp hs with hs | hs
    · cases t with
      | name y =>
        simp only [ownN] at hs
        split at hs
        · cases hs
        · rw [List.mem_singleton.mp hs]; exact ok
      | _ => cases hs
    · simp only [restN, List.mem_flatten, List.mem_map] at hs
      obtain ⟨l, ⟨q, hq, rfl⟩, hs⟩ := hs
      obtain ⟨a, b, c⟩ := (T.parts_wk hN ok).2 q hq
      exact free_asc hN f q.1 _ (by omega) b s hs
theorem asc_sOk {s : Str} {n : Nat} (h : Asc s n) : sOk s := fun c hc => by have := h.1 c hc; omega
/-! free names, sorted, each once -/
def frN (t : T) : List Str := sortS ((t.free []).foldl ddK [])
theorem frN_mem (t : T) (s : Str) : s ∈ frN t ↔ s ∈ t.free [] := by
  rw [frN, (sortS_perm _).mem_iff, dd_mem]
  simp
theorem frN_nodup (t : T) : (frN t).Nodup := (sortS_perm _).nodup_iff.mpr (dd_nodup _ _ List.nodup_nil)
theorem frN_len (t : T) : (frN t).length ≤ t.z := by
  have h1 := dd_len (t.free []) []
  have h2 := t.free_len []
  rw [frN, (sortS_perm _).length_eq]
  simp only [List.length_nil] at h1
  omega
theorem frN_put {x : Str} {c : T} (hc : c.free [] = []) (t : T) : frN (T.put x c t) = (frN t).filter fun s => decide (s ≠ x) := by
  refine sorted_unique ?_ (sortS_sorted _) ((sortS_sorted _).sublist (List.filter_sublist ..))
  refine (List.perm_ext_iff_of_nodup (frN_nodup _) ((frN_nodup t).sublist (List.filter_sublist ..))).mpr fun s => ?_
  rw [frN_mem, free_put hc t.h t [] (Nat.le_refl _) List.not_mem_nil, List.mem_filter, List.mem_filter, frN_mem]
theorem frN_tw {t u : T} (h : Tw [] [] t u) : frN u = frN t := by
  have e1 := fr_nl u.h u [] (Nat.le_refl _)
  have e2 := fr_nl u.h t [] (by rw [h.h]; exact Nat.le_refl _)
  rw [h.nl u.h, e2] at e1
  rw [frN, frN, e1]
theorem tw_put {x : Str} {c t u : T} (hc : c.free [] = []) (h : Tw [] [] t u) (g : Nat) (hg : t.h + c.h ≤ g) : nl g (T.put x c u) [] = nl g (T.put x c t) [] := by
  rw [nl_put hc g u [] (by rw [h.h]; exact hg) List.not_mem_nil, nl_put hc g t [] hg List.not_mem_nil, h.nl g]
end M

namespace M
open PySem PySem.Spec PyProof.Rows L2
/-! ### what is never come to -/
def fNever : FE := fun _ => none
def sNever : FS := fun _ => none
section
variable {X : Cx} {np : Nat}
theorem je_never {e : Expr} : JE X np e (fun _ _ _ => False) fNever := ⟨⟨fun _ _ _ _ _ _ h => h.elim⟩, fun _ _ _ _ _ _ _ _ _ _ h => by cases h⟩
theorem js_never {s : Stmt} : JS X np s (fun _ _ _ => False) sNever := ⟨⟨fun _ _ _ _ _ _ h => h.elim⟩, fun _ _ _ _ _ _ _ _ _ _ h => by cases h⟩
end
/-! ### objects that stay: attributes -/
abbrev inrs (kvs : List (Str × V)) : List (Key × V) := kvs.map fun p => ((.inr p.1 : Key), p.2)
theorem look_fld {K : PySem.W.Frag} {F : Hp} {f : Str} : ∀ {kvs : List (Str × V)} {es : List (Key × D)}, Rpk K F (inrs kvs) es → (lookK (.inr f) es = none ∧ kvs.lookup f = none) ∨ ∃ v d, lookK (.inr f) es = some d ∧ kvs.lookup f = some v ∧ Rp K F v d
  | [], [], _ => .inl ⟨rfl, rfl⟩
  | (g, v) :: kvs, (k, d) :: es, h => by
    rw [inrs, List.map_cons] at h
    cases h with
    | cons r t =>
      rw [List.lookup_cons, lookK]
      by_cases z : f = g
      · subst z
        simp only [beq_self_eq_true, if_true]
        exact .inr ⟨v, d, rfl, rfl, r⟩
      · have z1 : (f == g) = false := beq_eq_false_iff_ne.mpr z
        have z2 : ¬ (Sum.inr g : Key) = .inr f := fun e => z (by cases e; rfl)
        simp only [z1, z2, if_false]
        exact look_fld t
  | [], _ :: _, h => nomatch h
  | _ :: _, [], h => nomatch h
/-- what is asked of the class c for its attribute f -/
def ClsF (K : PySem.W.Frag) (c f : Str) : Prop := ∀ C, PySem.W.nsIn K mainGlobals c = some (some (.ref C)) → Cls K C ∧ NoAttr K C f
def fFld (c f : Str) (ka : FK) : FE := fun e => (ka e).bind fun p => (p.2 p.1).bind fun d => match d with
  | .ob c' es => if c' = c then (lookK (.inr f) es).bind fun d' => some (p.1, d') else none
  | _ => none
theorem ob_at {K : PySem.W.Frag} {F H : Hp} {v : V} {c : Str} {es : List (Key × D)} (sf : Same F H) (r : RpO K F H v (.ob c es)) : ∃ a C dx kvs, v = .ref a ∧ PySem.W.nsIn K mainGlobals c = some (some (.ref C)) ∧ H a = some (.ins C dx kvs) ∧ Rpk K F (inrs kvs) es := by
  cases r with
  | rp r =>
    cases r with
    | ob n s r => exact ⟨_, _, _, _, rfl, n, sf _ _ s, r⟩
section
variable {X : Cx} {np : Nat}
theorem je_fld {K : PySem.W.Frag} {c f : Str} {o : Expr} {pos : Pos} {ta : TE} {ka : FK} (hc : ClsF K c f) (h : JK X np o ta ka) (hb : attributeBase o f X.env (eval o X.env) = eval o X.env := by rfl) (hK : X.K = K := by rfl) :
    JE X np (.Attribute o f pos) (tFld K ta f) (fFld c f ka) := by
  subst hK
  refine ⟨pe_fld h.pe hb, fun B F e σ H Q hn I e' d hf q => ?_⟩
  obtain ⟨⟨e1, ra⟩, h1, hf⟩ := bnd hf
  obtain ⟨x, h3, hf⟩ := bnd hf
  refine h.de B F e σ H _ hn I e1 ra h1 fun F1 v1 H1 s1 I1 l1 => ?_
  have r1 := l1 F1 e1 H1 x (Same.refl _) I1 h3
  obtain ⟨c', es, rfl⟩ : ∃ c' es, x = D.ob c' es := by cases x <;> first | exact ⟨_, _, rfl⟩ | cases hf
  have hg : (if c' = c then (lookK (.inr f) es).bind fun d' => some (e1, d') else none) = some (e', d) := hf
  clear hf
  by_cases ec : c' = c
  · rw [if_pos ec] at hg
    subst ec
    obtain ⟨d', h4, hg⟩ := bnd hg
    cases hg
    obtain ⟨a, C, dx, kvs, rfl, n, ea, rk⟩ := ob_at I1.sf r1
    obtain ⟨k1, k2⟩ := hc C n
    rcases look_fld (f := f) rk with ⟨z, _⟩ | ⟨v, d2, z1, z2, z3⟩
    · rw [z] at h4; cases h4
    · rw [z1] at h4; cases h4
      exact ⟨a, C, dx, kvs, v, rfl, ea, k1, k2, z2, q F1 v H1 s1 I1 z3⟩
  · rw [if_neg ec] at hg; cases hg
/-! ### methods -/
theorem pe_methT {k : Nat} {C f : Addr} {fd : FuncData} {ps : List Str} {sp : Sp} {E : XK} {m : Str} {pos apos : Pos} {e o : Expr} {es : List Expr} {ta : TE} {t : TA} {pl : Sem Bool} (he : PE X o ta) (c : Cls X.K C) (hm : Meth X.K C m f) (F : FnT X.prog X.w X.K X.mg X.base k f fd ps sp) (hr : RoomT k X.A) (hb : Binds X.K fd ps []) (hx : Passes CX0 X E) (ha : PA X (e :: es) t)
    (hst : starEach (e :: es) X.env = (false, eval e X.env) :: starEach es X.env := by rfl) (hpl : (backTo pos (starEach es X.env)).any (·.1) = false := by rfl)
    (ht : eval (.Call (.Attribute o m apos) (e :: es) [] pos) X.env = (do
      let ov ← eval o X.env
      standAt apos.atName
      let (f, first) ← holding [ov] (getMethod ov m pl)
      callWith pos f first (backTo pos (starEach (e :: es) X.env)) (backToKw pos (keywordEach [] X.env))) := by rfl) :
    PE X (.Call (.Attribute o m apos) (e :: es) [] pos) (tMeth C m sp [] E ta t) := by
  refine ⟨fun pins s σ H Q I h => ?_⟩
  refine PySem.W.methodCall_KW (pl := pl) (thn (he.run pins s σ H _ I h) fun u s1 ⟨x, H1, I1, rx, a, dx, fs, ex, ea, l, q⟩ => ?_) ht
  subst ex
  obtain rfl : u = Value.ref a := rx
  refine getmeth_ok I1 ea c hm l ?_
  refine PySem.W.callWith_K (first := [.ref a]) (h₀ := X.base) I.ok.mod.kin hm.kp (thn (ha.run pos pins s1 σ H1 _ I1 q) fun us s2 ⟨vs, H2, I2, r, q2⟩ => ⟨I2.kIn, ?_⟩) hst hpl
  exact run_fnT (us := .ref a :: us) (vs := .ref a :: vs) F hr hb .nil hx I2 (.cons rfl r) q2
theorem pe_methT0 {k : Nat} {C f : Addr} {fd : FuncData} {ps : List Str} {sp : Sp} {E : XK} {m : Str} {pos apos : Pos} {o : Expr} {ta : TE} {pl : Sem Bool} (he : PE X o ta) (c : Cls X.K C) (hm : Meth X.K C m f) (F : FnT X.prog X.w X.K X.mg X.base k f fd ps sp) (hr : RoomT k X.A) (hb : Binds X.K fd ps []) (hx : Passes CX0 X E)
    (ht : eval (.Call (.Attribute o m apos) [] [] pos) X.env = (do
      let ov ← eval o X.env
      standAt apos.atName
      let (f, first) ← holding [ov] (getMethod ov m pl)
      callWith pos f first (backTo pos (starEach [] X.env)) (backToKw pos (keywordEach [] X.env))) := by rfl) :
    PE X (.Call (.Attribute o m apos) [] [] pos) (tMeth C m sp [] E ta tNil) := by
  refine ⟨fun pins s σ H Q I h => ?_⟩
  refine PySem.W.methodCall_KW (pl := pl) (thn (he.run pins s σ H _ I h) fun u s1 ⟨x, H1, I1, rx, a, dx, fs, ex, ea, l, q⟩ => ?_) ht
  subst ex
  obtain rfl : u = Value.ref a := rx
  refine getmeth_ok I1 ea c hm l ?_
  exact PySem.W.callWith_K0 (first := [.ref a]) I1.kIn hm.kp (run_fnT (us := [.ref a]) (vs := [.ref a]) F hr hb .nil hx I1 (.cons rfl .nil) q)
/-- the method m of the class c, the parameter self among the n -/
def MethOk (P : Program) (w : World) (K : PySem.W.Frag) (mg : Str → Option Value) (base : Heap) (c m : Str) (ps : List Str) (k n : Nat) (mir : FC) : Prop :=
  ∃ (C f : Addr) (fd : FuncData), PySem.W.nsIn K mainGlobals c = some (some (.ref C)) ∧ Cls K C ∧ Meth K C m f ∧ FnT P w K mg base k f fd ps (spM K n mir) ∧ BindsA fd ps ∧ (∀ es r, mir es = some r → es.length = n)
theorem MethOk.level {P : Program} {w : World} {K : PySem.W.Frag} {mg : Str → Option Value} {base : Heap} {c m : Str} {ps : List Str} {k k' n : Nat} {mir : FC} (h : MethOk P w K mg base c m ps k n mir) (hk : k ≤ k') : MethOk P w K mg base c m ps k' n mir := by
  obtain ⟨C, f, fd, h1, h2, h3, h4, h5, h6⟩ := h
  exact ⟨C, f, fd, h1, h2, h3, h4.mono hk, h5, h6⟩
def fMeth (c m : Str) (mir : FC) (ko : FK) (k : FA) : FE := fun e => (ko e).bind fun p => (p.2 p.1).bind fun d => match d with
  | .ob c' es => if c' = c ∧ lookK (.inr m) es = none then (k p.1).bind fun q => (fCall2 mir q.1 (.im d :: q.2)).bind fun r => r.2.see.bind fun d' => some (r.1, d') else none
  | _ => none
theorem de_meth {K : PySem.W.Frag} {np n : Nat} {c m : Str} {C : Addr} {mir : FC} {ta : TE} {ko : FK} {t : TA} {fa : FA} {E : XK} (hC : PySem.W.nsIn K mainGlobals c = some (some (.ref C))) (ho : DK K np ta ko) (h : DA K np t fa) (hlen : ∀ es r, mir es = some r → es.length = n) :
    DE K np (tMeth C m (spM K n mir) [] E ta t) (fMeth c m mir ko fa) := by
  intro B F e σ H Q hn I e' d hf q
  obtain ⟨⟨e1, ra⟩, h1, hf⟩ := bnd hf
  obtain ⟨x, h3, hf⟩ := bnd hf
  refine ho B F e σ H _ hn I e1 ra h1 fun F1 v1 H1 s1 I1 l1 => ?_
  have r1 := l1 F1 e1 H1 x (Same.refl _) I1 h3
  obtain ⟨c', es, rfl⟩ : ∃ c' es, x = D.ob c' es := by cases x <;> first | exact ⟨_, _, rfl⟩ | cases hf
  have hk : (if c' = c ∧ lookK (.inr m) es = none then (fa e1).bind fun q => (fCall2 mir q.1 (.im (.ob c' es) :: q.2)).bind fun r => r.2.see.bind fun d' => some (r.1, d') else none) = some (e', d) := hf
  by_cases ec : c' = c ∧ lookK (.inr m) es = none
  · rw [if_pos ec] at hk
    obtain ⟨ec, el⟩ := ec
    subst ec
    obtain ⟨⟨e2, as⟩, h4, hk2⟩ := bnd hk
    obtain ⟨⟨e3, s3⟩, h5, hk3⟩ := bnd hk2
    obtain ⟨d', h6, hk4⟩ := bnd hk3
    cases hk4
    obtain ⟨a, C', dx, kvs, rfl, n', ea, rk⟩ := ob_at I1.sf r1
    rw [hC] at n'; cases n'
    have ro : Rp K F1 (.ref a) (.ob c' es) := by cases r1 with | rp r => exact r
    refine ⟨a, dx, kvs, rfl, ea, ?_, h B F1 e1 σ H1 _ hn I1 e2 as h4 fun F2 vs H2 s2 I2 r2 => ?_⟩
    · rcases look_fld (f := m) rk with ⟨_, z⟩ | ⟨v, d2, z1, _⟩
      · exact z
      · rw [z1] at el; cases el
    rw [List.append_nil]
    unfold fCall2 at h5
    split at h5
    · rename_i hnd
      obtain ⟨es2, h7, h5⟩ := bnd h5
      obtain ⟨⟨es', d2⟩, h8, h5⟩ := bnd h5
      cases h5
      refine call_core2 (fun {es r} h => hlen es r h) I2 (.cons (.im (ro.mono s2)) r2) hnd h7 h8 fun F' v H' sm I' rv ne nc => ?_
      cases rv with
      | im r => cases h6; exact q F' v H' ((s1.trans s2).trans sm) I' r
      | ow o f g b =>
        obtain ⟨F3, s3, I3, r3⟩ := I'.freezeNew o f g b h6 (ne _ rfl o.own) (nc _ rfl o.own)
        exact q F3 _ H' (((s1.trans s2).trans sm).trans s3) I3 r3
    · cases h5
  · rw [if_neg ec] at hk; cases hk
def tMethX (K : PySem.W.Frag) (c m : Str) (sp : Sp) (ta : TE) (t : TA) : TE := fun σ H Q => ∃ C, PySem.W.nsIn K mainGlobals c = some (some (.ref C)) ∧ tMeth C m sp [] E0 ta t σ H Q
theorem jmeth {K : PySem.W.Frag} {n k : Nat} {c m : Str} {ps : List Str} {mir : FC} {pos apos : Pos} {e o : Expr} {es : List Expr} {ta : TE} {ko : FK} {t : TA} {fa : FA} {pl : Sem Bool} (G : MethOk X.prog X.w K X.mg X.base c m ps k n mir)
    (hr : RoomT k X.A) (ho : JK X np o ta ko) (ha : JA X np (e :: es) t fa)
    (hst : starEach (e :: es) X.env = (false, eval e X.env) :: starEach es X.env := by rfl) (hpl : (backTo pos (starEach es X.env)).any (·.1) = false := by rfl)
    (ht : eval (.Call (.Attribute o m apos) (e :: es) [] pos) X.env = (do
      let ov ← eval o X.env
      standAt apos.atName
      let (f, first) ← holding [ov] (getMethod ov m pl)
      callWith pos f first (backTo pos (starEach (e :: es) X.env)) (backToKw pos (keywordEach [] X.env))) := by rfl) (hK : X.K = K := by rfl) :
    JE X np (.Call (.Attribute o m apos) (e :: es) [] pos) (tMethX K c m (spM K n mir) ta t) (fMeth c m mir ko fa) := by
  subst hK
  obtain ⟨C, f, fd, h1, h2, h3, h4, h5, h6⟩ := G
  have p := pe_methT (pl := pl) (E := E0) ho.pe h2 h3 h4 hr h5.b pass0 ha.pa hst hpl ht
  refine ⟨⟨fun pins s σ H Q I h => ?_⟩, fun B F e σ H Q hn I e' d hf q => ?_⟩
  · obtain ⟨C', n', h⟩ := h
    rw [h1] at n'; cases n'
    exact p.run pins s σ H Q I h
  · exact ⟨C, h1, de_meth h1 ho.de ha.de h6 B F e σ H Q hn I e' d hf q⟩
theorem jmeth0 {K : PySem.W.Frag} {n k : Nat} {c m : Str} {ps : List Str} {mir : FC} {pos apos : Pos} {o : Expr} {ta : TE} {ko : FK} {pl : Sem Bool} (G : MethOk X.prog X.w K X.mg X.base c m ps k n mir)
    (hr : RoomT k X.A) (ho : JK X np o ta ko)
    (ht : eval (.Call (.Attribute o m apos) [] [] pos) X.env = (do
      let ov ← eval o X.env
      standAt apos.atName
      let (f, first) ← holding [ov] (getMethod ov m pl)
      callWith pos f first (backTo pos (starEach [] X.env)) (backToKw pos (keywordEach [] X.env))) := by rfl) (hK : X.K = K := by rfl) :
    JE X np (.Call (.Attribute o m apos) [] [] pos) (tMethX K c m (spM K n mir) ta tNil) (fMeth c m mir ko aNil) := by
  subst hK
  obtain ⟨C, f, fd, h1, h2, h3, h4, h5, h6⟩ := G
  have p := pe_methT0 (pl := pl) (E := E0) ho.pe h2 h3 h4 hr h5.b pass0 ht
  refine ⟨⟨fun pins s σ H Q I h => ?_⟩, fun B F e σ H Q hn I e' d hf q => ?_⟩
  · obtain ⟨C', n', h⟩ := h
    rw [h1] at n'; cases n'
    exact p.run pins s σ H Q I h
  · exact ⟨C, h1, de_meth h1 ho.de (ja_nil (X := X)).de h6 B F e σ H Q hn I e' d hf q⟩
end
/-! ### where a method stands -/
def MSrc (K : PySem.W.Frag) (c m : Str) (st : Stmt) (ps : List Str) : Prop := ∃ (C f : Addr) (fd : FuncData) (q : Str), PySem.W.nsIn K mainGlobals c = some (some (.ref C)) ∧ Cls K C ∧ Meth K C m f ∧ Fun K m q st f fd ∧ BindsA fd ps
section
variable {P : Program} {w : World} {K : PySem.W.Frag} {mg : Str → Option Value} {base : Heap}
theorem msrc_mk {c m q : Str} {st : Stmt} {ps : List Str} {C f : Addr} {oc : Value} {od an : Option Addr} {osl : Array (Option Value)} {kV doc pm cdv ct : Value} (a : PySem.W.nsIn K mainGlobals c = some (some (.ref C))) (cl : Cls K C)
    (at_ : PySem.W.findIn K (.ref C) m = some (some (.ref f))) (i : PySem.W.isFn K (.ref f) = true)
    (l : K.lookup f = some ⟨oc, od, .func (PySem.W.fnOf m q (defArgs st) (defBody st) (defScope st) .none kV doc pm an cdv ct), osl⟩) (cd : PySem.W.codeIn K cdv q = true) (k : PySem.W.keepIn K (.ref f) = true)
    (hb : ∀ (kV doc pm : Value) (an : Option Addr) (cdv ct : Value) (us : List Value), us.length = ps.length → bindArgs (PySem.W.fnOf m q (defArgs st) (defBody st) (defScope st) .none kV doc pm an cdv ct) ⟨us, []⟩ = pure (ps.zip us)) : MSrc K c m st ps :=
  ⟨C, f, _, q, a, cl, ⟨at_, i, k⟩, fun_mk (st := st) l cd k, fun s us hl => .of_eq (hb _ _ _ _ _ _ us hl)⟩
theorem msrc_ok {c m : Str} {st : Stmt} {ps N : List Str} {k n np : Nat} {t : TS} {fb : FS} {mir : FC} (S : MSrc K c m st ps) (sc : FnScope N ps (defScope st)) (hn : ps.length = n) (hN : n ≤ N.length)
    (hb : ∀ (q : Str) (f : Addr) (cdv : Value) (A : Around) (outer : List PySem.Env) (s : Shared) (H : Hp) (E : XK), RoomT k (A.deeper (envOfC q (defScope st) s.heap.objs.size f cdv)) → JSs (cxOf CX0 P w K mg base N q (defScope st) f cdv A outer s H E).nox np (defBody st) t fb)
    (hm : mir = callF N.length n np fb) : MethOk P w K mg base c m ps (k + 1) n mir := by
  subst hm
  obtain ⟨C, f, fd, q, h1, h2, h3, F, b⟩ := S
  exact ⟨C, f, fd, h1, h2, h3, okM F sc hn hN (hb q f), b, fun es r h => callF_len h⟩
theorem msrc_none {c m : Str} {st : Stmt} {ps : List Str} {n : Nat} {mir : FC} (S : MSrc K c m st ps) (hm : ∀ es, mir es = none) : MethOk P w K mg base c m ps 0 n mir := by
  obtain ⟨C, f, fd, q, h1, h2, h3, F, b⟩ := S
  exact ⟨C, f, fd, h1, h2, h3, fnOk_none hm, b, fun es r h => by rw [hm es] at h; exact nomatch h⟩
end
end M

namespace M
open PySem PySem.Spec PyProof.Rows L2
/-! ### objects that stay: made -/
def pE (k : Key) (v : D) : List (Key × D) → List (Key × D)
  | [] => [(k, v)]
  | (g, x) :: r => if g = k then (g, v) :: r else (g, x) :: pE k v r
theorem put_rpn {K : PySem.W.Frag} {F : Hp} {f : Str} {v : V} {d : D} (r : Rp K F v d) : ∀ {kvs : List (Str × V)} {es : List (Key × D)}, Rpk K F (inrs kvs) es → Rpk K F (inrs (L2.putF f v kvs)) (pE (.inr f) d es)
  | [], [], _ => .cons r .nil
  | (g, x) :: kvs, (k, y) :: es, h => by
    rw [inrs, List.map_cons] at h
    cases h with
    | cons r0 t =>
      rw [L2.putF, pE]
      by_cases z : g = f
      · subst z
        rw [if_pos rfl, if_pos rfl]
        exact .cons r t
      · have z2 : ¬ (Sum.inr g : Key) = .inr f := fun e => z (by cases e; rfl)
        rw [if_neg z, if_neg z2]
        exact .cons r0 (put_rpn r t)
  | [], _ :: _, h => nomatch h
  | _ :: _, [], h => nomatch h
theorem IV.guardX {K : PySem.W.Frag} {B : Bs} {F : Hp} {e : Sls} {σ : L2.St} {H : Hp} (I : IV K B F e σ H) {p : Addr} {o : HO} (hp : H p = some o) (hf : F p = none) (ho : ∀ (j : Nat) (s : Sl), e[j]? = some s → s.own = false) (hob : ∀ (j : Nat) (s : Sl), e[j]? = some s → ∀ c fs, s ≠ Sl.ob c fs) : IV K { B with G := upd B.G p o } F e σ H := by
  refine ⟨I.sf, fun b u q => ?_, I.g1, fun b => ?_, I.g3, I.len, fun i s v h1 h2 => ?_, I.ap, I.an, .nil hob⟩
  · by_cases z : b = p
    · subst z
      have q : upd B.G b o b = some u := q
      rw [upd_same] at q; rw [hp]; exact q
    · have q : upd B.G p o b = some u := q
      rw [upd_ne z] at q; exact I.sg b u q
  · by_cases z : b = p
    · subst z; exact .inl (hf.trans (I.g1.free hf).symm)
    · rcases I.g2 b with h | ⟨h1, h2, h3⟩
      · exact .inl h
      · exact .inr ⟨h1, h2, by show upd B.G p o b = none; rw [upd_ne z]; exact h3⟩
  · have r := I.sl i s v h1 h2
    cases r with
    | un => exact .un
    | im r => exact .im r
    | ow r g1 g2 g3 => have := ho i s h1; rw [r.own] at this; cases this
    | ob => exact .ob
def fIn : List (Str × FE) → Sls → List (Key × D) → Option (Sls × List (Key × D))
  | [], e, es => some (e, es)
  | (f, fe) :: r, e, es => (fe e).bind fun p => fIn r p.1 (pE (.inr f) p.2 es)
structure JIn (X : Cx) (c : Str) (ss : List Stmt) (t : TS) (fs : List (Str × FE)) : Prop where
  ps : PSs X ss t
  de : ∀ (C a dx : Addr) (B : Bs) (F : Hp) (e : Sls) (σ : L2.St) (H : Hp) (E : Ends) (kvs : List (Str × V)) (es : List (Key × D)), PySem.W.nsIn X.K mainGlobals c = some (some (.ref C)) → B.np = 0 → IV X.K { B with G := upd B.G a (.ins C dx kvs) } F e σ H → σ[0]? = some (some (.ref a)) → B.F a = none → Rpk X.K F (inrs kvs) es →
    kvs.length + fs.length < 1000 → ∀ (e' : Sls) (es' : List (Key × D)), fIn fs e es = some (e', es') → (∀ (F' H' : Hp) (kvs' : List (Str × V)), Same F F' → IV X.K { B with G := upd B.G a (.ins C dx kvs') } F' e' σ H' → Rpk X.K F' (inrs kvs') es' → E.nx σ H') → t E σ H
theorem length_putF (f : Str) (v : V) : ∀ kvs : List (Str × V), (L2.putF f v kvs).length ≤ kvs.length + 1
  | [] => by simp [L2.putF]
  | (g, x) :: r => by
    have := length_putF f v r
    rw [L2.putF]; split <;> simp only [List.length_cons] <;> omega
section
variable {X : Cx} {c : Str}
theorem ji_fld {f x : Str} {p tpos pos : Pos} {ex : Expr} {te : TE} {fe : FE} (hc : ClsF X.K c f) (hv : PE X (.Name x p) (tVar 0)) (h : JE X 0 ex te fe) (hs : swapsWith ex (some (.Attribute (.Name x p) f tpos)) pos.line X.env = pure false := by rfl) :
    PS X (.Assign [.Attribute (.Name x p) f tpos] ex pos) (sFld X.K (tVar 0) te f) ∧
    ∀ (C a dx : Addr) (B : Bs) (F : Hp) (e : Sls) (σ : L2.St) (H : Hp) (E : Ends) (kvs : List (Str × V)) (es : List (Key × D)), PySem.W.nsIn X.K mainGlobals c = some (some (.ref C)) → B.np = 0 → IV X.K { B with G := upd B.G a (.ins C dx kvs) } F e σ H → σ[0]? = some (some (.ref a)) → B.F a = none → Rpk X.K F (inrs kvs) es →
      kvs.length < 1000 → ∀ (e' : Sls) (d : D), fe e = some (e', d) → (∀ (F' H' : Hp) (v : V), Same F F' → IV X.K { B with G := upd B.G a (.ins C dx (L2.putF f v kvs)) } F' e' σ H' → Rpk X.K F' (inrs (L2.putF f v kvs)) (pE (.inr f) d es) → E.nx σ H') → sFld X.K (tVar 0) te f E σ H := by
  refine ⟨ps_fld hv h.pe hs, fun C a dx B F e σ H E kvs es n hn I ha hB rk hl e' d hf q => ?_⟩
  obtain ⟨k1, k2⟩ := hc C n
  refine h.de { B with G := upd B.G a (.ins C dx kvs) } F e σ H _ hn I e' d hf fun F1 v1 H1 s1 I1 r1 => ?_
  have ea : H1 a = some (.ins C dx kvs) := I1.sg a _ (show upd B.G a _ a = some _ from upd_same)
  exact ⟨.ref a, ha, a, C, dx, kvs, rfl, ea, k1, k2, hl, q F1 _ v1 s1 (IV.grow hB I1) (put_rpn r1 (rk.mono s1))⟩
theorem ji_one {f x : Str} {p tpos pos : Pos} {ex : Expr} {te : TE} {fe : FE} (hc : ClsF X.K c f) (hv : PE X (.Name x p) (tVar 0)) (h : JE X 0 ex te fe) (hs : swapsWith ex (some (.Attribute (.Name x p) f tpos)) pos.line X.env = pure false := by rfl) :
    JIn X c [.Assign [.Attribute (.Name x p) f tpos] ex pos] (sFld X.K (tVar 0) te f) [(f, fe)] := by
  obtain ⟨p1, p2⟩ := ji_fld hc hv h hs
  refine ⟨pss_one p1, fun C a dx B F e σ H E kvs es n hn I ha hB rk hl e' es' hf q => ?_⟩
  obtain ⟨⟨e1, d⟩, h1, hf⟩ := bnd hf
  cases hf
  refine p2 C a dx B F e σ H E kvs es n hn I ha hB rk (by simp only [List.length_cons, List.length_nil] at hl; omega) e1 d h1 fun F' H' v s I' r => q F' H' _ s I' r
theorem ji_cons {f x : Str} {p tpos pos : Pos} {ex : Expr} {te : TE} {fe : FE} {ss : List Stmt} {t : TS} {fs : List (Str × FE)} (hc : ClsF X.K c f) (hv : PE X (.Name x p) (tVar 0)) (h : JE X 0 ex te fe) (h2 : JIn X c ss t fs) (hs : swapsWith ex (some (.Attribute (.Name x p) f tpos)) pos.line X.env = pure false := by rfl) :
    JIn X c (.Assign [.Attribute (.Name x p) f tpos] ex pos :: ss) (tSeq (sFld X.K (tVar 0) te f) t) ((f, fe) :: fs) := by
  obtain ⟨p1, p2⟩ := ji_fld hc hv h hs
  refine ⟨pss_cons p1 h2.ps, fun C a dx B F e σ H E kvs es n hn I ha hB rk hl e' es' hf q => ?_⟩
  obtain ⟨⟨e1, d⟩, h1, hf⟩ := bnd hf
  rw [List.length_cons] at hl
  refine p2 C a dx B F e σ H { E with nx := t E } kvs es n hn I ha hB rk (by omega) e1 d h1 fun F' H' v s I' r => ?_
  have := length_putF f v kvs
  exact h2.de C a dx B F' e1 σ H' E _ _ n hn I' ha hB r (by omega) e' es' hf fun F2 H2 kvs2 s2 I2 r2 => q F2 H2 kvs2 (s.trans s2) I2 r2
end
def unIms (ds : List D) : Sls := .un :: ds.map .im
def gIn (NL n : Nat) (fs : List (Str × FE)) (ds : List D) : Option (List (Key × D)) := if ds.length + 1 = n then (fIn fs (startS NL n 0 (unIms ds)) []).bind fun p => if n ≤ p.1.length then some p.2 else none else none
def spI (K : PySem.W.Frag) (c : Str) (n : Nat) (g : List D → Option (List (Key × D))) : Sp := fun vs H Q _ => ∃ (a C dx : Addr) (us : List V) (F G : Hp) (ds : List D) (es : List (Key × D)), vs = .ref a :: us ∧ vs.length = n ∧ PySem.W.nsIn K mainGlobals c = some (some (.ref C)) ∧ H a = some (.ins C dx []) ∧ F a = none ∧ G a = none ∧
  g ds = some es ∧ IV K ⟨F, H, G, vs.map some, vs.length, 0⟩ F (unIms ds) (vs.map some) H ∧ ∀ (F' H' : Hp) (kvs : List (Str × V)), IV K ⟨F, H, G, vs.map some, vs.length, 0⟩ F' (unIms ds) (vs.map some) H' → H' a = some (.ins C dx kvs) → F' a = none → Rpk K F' (inrs kvs) es → Q .non H'
theorem own_start {ds : List D} {NL n : Nat} : ∀ (j : Nat) (s : Sl), (startS NL n 0 (unIms ds))[j]? = some s → s.own = false := fun j s h => by
  unfold startS at h
  rw [List.take_zero, List.nil_append, List.drop_zero] at h
  have hm := List.mem_of_getElem? h
  rcases List.mem_append.mp hm with hm | hm
  · obtain ⟨x, hx, rfl⟩ := List.mem_map.mp hm
    exact demote_own x
  · rw [List.eq_of_mem_replicate hm]; rfl
theorem ob_start {ds : List D} {NL n : Nat} : ∀ (j : Nat) (s : Sl), (startS NL n 0 (unIms ds))[j]? = some s → ∀ c fs, s ≠ Sl.ob c fs := fun j s h c fs z => by
  unfold startS at h
  rw [List.take_zero, List.nil_append, List.drop_zero] at h
  have hm := List.mem_of_getElem? h
  rcases List.mem_append.mp hm with hm | hm
  · obtain ⟨x, hx, e⟩ := List.mem_map.mp hm
    rw [z] at e
    exact demote_ob e
  · rw [List.eq_of_mem_replicate hm] at z; cases z
theorem dem_unIms (ds : List D) : (unIms ds).map demote = unIms ds := by
  rw [unIms, List.map_cons, List.map_map]
  rfl
section
variable {P : Program} {w : World} {K : PySem.W.Frag} {mg : Str → Option Value} {base : Heap}
theorem initT {c qual m : Str} {st : Stmt} {f : Addr} {fd : FuncData} {N ps : List Str} {k n : Nat} {t : TS} {fs : List (Str × FE)} (F : Fun K m qual st f fd) (S : FnScope N ps (defScope st)) (hn : ps.length = n) (hN : n ≤ N.length) (hfs : fs.length < 1000)
    (hb : ∀ (cdv : Value) (A : Around) (outer : List PySem.Env) (s : Shared) (H : Hp) (E : XK), RoomT k (A.deeper (envOfC qual (defScope st) s.heap.objs.size f cdv)) → JIn (cxOf CX0 P w K mg base N qual (defScope st) f cdv A outer s H E).nox c (defBody st) t fs) :
    FnT P w K mg base (k + 1) f fd ps (spI K c n (gIn N.length n fs)) := by
  refine funT_ok F S (fun vs H Q E h => by obtain ⟨a, C, dx, us, F, G, ds, es, h1, h2, _⟩ := h; rw [h2, hn]) fun cdv A outer s H vs Q E hr h => ?_
  obtain ⟨a, C, dx, us, F0, G, ds, es, h1, h2, h3, h4, h5, h6, h7, I, q⟩ := h
  have J := hb cdv A outer s H E hr
  refine ⟨t, J.ps, ?_⟩
  unfold gIn at h7
  split at h7
  · rename_i hl
    obtain ⟨⟨e', es'⟩, h8, h7⟩ := bnd h7
    split at h7
    · rename_i hle
      cases h7
      have hl2 : (unIms ds).length = n := by rw [unIms, List.length_cons, List.length_map]; exact hl
      have I0 := iv_start (N := N) (np := 0) I hl2 (Nat.zero_le _)
      have I1 := I0.guardX h4 h5 own_start ob_start
      have hσ : (L2.start N vs)[0]? = some (some (.ref a)) := by rw [h1]; rfl
      refine J.de C a dx ⟨F0, H, G, vs.map some, 0, 0⟩ F0 _ _ H _ [] [] h3 rfl I1 hσ h5 .nil (by simp only [List.length_nil]; omega) e' _ h8 fun F' H' kvs' sm I' r => ?_
      obtain ⟨I2, g1, g2, g3, g4⟩ := I'.unguard2 (B := ⟨F0, H, G, vs.map some, 0, 0⟩) h6 h5
      have I3 := iv_back (N := N) I hl2 (Nat.zero_le _) hle I2
      rw [backS, List.take_zero, List.nil_append, List.drop_zero, dem_unIms] at I3
      exact q F' H' kvs' I3 g1 g2 r
    · cases h7
  · cases h7
end
theorem RoomT.make {k : Nat} {A : Around} (r : RoomT (k + 1) A) (C : Addr) (us : List Value) (kw : List (Str × Value)) : RoomT k (A.under (.builtin "type.__call__" ⟨.ref C :: us, kw⟩)) :=
  ⟨r.hd, by have := r.dp; rw [make_depth]; omega, by have := r.un; rw [make_units]; omega⟩
/-- C(..) -/
def MkOk (P : Program) (w : World) (K : PySem.W.Frag) (mg : Str → Option Value) (base : Heap) (c : Str) (ps : List Str) (k n : Nat) (g : List D → Option (List (Key × D))) : Prop :=
  ∃ (C f : Addr) (fd : FuncData), PySem.W.nsIn K mainGlobals c = some (some (.ref C)) ∧ mg c = some (.ref C) ∧ Mk K C f ∧ FnT P w K mg base k f fd ps (spI K c n g) ∧ BindsA fd ps
section
variable {X : Cx}
theorem run_makeT {k : Nat} {C f : Addr} {fd : FuncData} {ps : List Str} {sp : Sp} {E : XK} {pins : List (Addr × Obj)} {s : Shared} {σ : L2.St} {H : Hp} {Q : VK} {us : List Value} {vs : List V} (M : Mk X.K C f) (F : FnT X.prog X.w X.K X.mg X.base k f fd ps sp) (hr : RoomT (k + 1) X.A) (hb : BindsA fd ps)
    (hx : Passes CX0 X E) (I : Inv X pins σ H s) (r : Vals vs us)
    (h : ∀ x dx, H x = none → H dx = none → dx ≠ x → sp (.ref x :: (vs ++ [])) (upd (upd H dx (.own x)) x (.ins C dx [])) (fun v H2 => v = .non ∧ Q (.ref x) H2) E) :
    wpAny (model X.prog X.w) X.A (call (.ref C) us) (EP X pins σ Q) X.xe s := by
  have hq := h (s.heap.objs.size + 1) s.heap.objs.size (I.hok.fresh (Nat.le_succ _)) (I.hok.fresh (Nat.le_refl _)) (Nat.ne_of_lt (Nat.lt_succ_self _))
  rw [List.append_nil] at hq
  have I2 := Inv.made (C := C) I
  have r2 : Vals (V.ref (s.heap.objs.size + 1) :: vs) (Value.ref (s.heap.objs.size + 1) :: us) := .cons rfl r
  have hl : (Value.ref (s.heap.objs.size + 1) :: us).length = ps.length := by
    have e := r2.length
    rw [F.len _ _ _ _ hq] at e
    exact e.symm
  refine wpAny_call (make_map (f := f) I.kIn M.makes M.init (beq_iff_eq.mp M.fn) (codeAny_mono (F.run _ X.stack _ _ ⟨Value.ref (s.heap.objs.size + 1) :: us, []⟩ (Value.ref (s.heap.objs.size + 1) :: us) _ _ E (hr.make C us [])
    (I2.env0.make C us []) (hb _ (Value.ref (s.heap.objs.size + 1) :: us) hl) r2 hq) fun r s' hq' => ?_))
  cases r with
  | error e => exact hx pins σ _ _ e s' I2 hq'
  | ok fl =>
    cases fl with
    | ret u =>
      obtain ⟨v, H', I3, rv, ev, q3⟩ := I2.after hq'
      subst ev
      exact ⟨rv, ⟨V.ref (s.heap.objs.size + 1), H', I3, rfl, q3⟩⟩
    | next => exact False.elim hq'
    | brk => exact False.elim hq'
    | cont => exact False.elim hq'
def tMakeX (K : PySem.W.Frag) (c : Str) (sp : Sp) (t : TA) : TE := fun σ H Q => ∃ C, PySem.W.nsIn K mainGlobals c = some (some (.ref C)) ∧ tMake C sp [] E0 t σ H Q
def fMake (c : Str) (g : List D → Option (List (Key × D))) (fs : FEs) : FE := fun e => (fs e).bind fun p => (g p.2).bind fun es => some (p.1, .ob c es)
theorem de_make {K : PySem.W.Frag} {np n m : Nat} {c : Str} {g : List D → Option (List (Key × D))} {t : TA} {fs : FEs} {C : Addr} {E : XK} (hC : PySem.W.nsIn K mainGlobals c = some (some (.ref C))) (hm : m = n + 1) (h : DEs K np n t fs) : DE K np (tMake C (spI K c m g) [] E t) (fMake c g fs) := by
  intro B F e σ H Q hn I e' d hf q
  obtain ⟨⟨e1, ds⟩, h1, hf⟩ := bnd hf
  obtain ⟨es, h2, hf⟩ := bnd hf
  cases hf
  refine h B F e σ H _ hn I e1 ds h1 fun F1 vs H1 s1 I1 r1 l1 => fun x dx hx hdx hne => ?_
  obtain ⟨x1, x2, x3, x4⟩ := I1.free hx
  obtain ⟨d1, d2, d3, d4⟩ := I1.free hdx
  rw [List.append_nil]
  have hH : ∀ b u, H1 b = some u → (upd (upd H1 dx (.own x)) x (.ins C dx [])) b = some u := fun b u z => by
    rw [upd_ne (ne_of_none z hx), upd_ne (ne_of_none z hdx)]; exact z
  have hHx : (upd (upd H1 dx (.own x)) x (.ins C dx [])) x = some (.ins C dx []) := upd_same
  have hH0 : ∀ b, (upd (upd H1 dx (.own x)) x (.ins C dx [])) b = none → H1 b = none := fun b z => by
    cases e0 : H1 b with
    | none => rfl
    | some u => rw [hH b u e0] at z; cases z
  generalize upd (upd H1 dx (.own x)) x (.ins C dx []) = H' at hH hHx hH0
  refine ⟨x, C, dx, vs, F1, (fun b => if b = x then none else H' b), ds, es, rfl, by rw [List.length_cons, l1, hm], hC, hHx, x1, by simp, h2, ?_, fun F' H2 kvs I' e2 f2 rk => ⟨rfl, ?_⟩⟩
  · refine ⟨fun b u z => hH b u (I1.sf b u z), fun b u z => ?_, Same.refl _, fun b => .inl rfl, fun b z => z, ?_, fun i s v z1 z2 => ?_, fun i j s s' hij z1 z2 o1 o2 => ?_, fun i v hi hv => hv, .nil fun j s z1 c fs z => ?_⟩
    · have z : (if b = x then none else H' b) = some u := z
      split at z
      · cases z
      · exact z
    · rw [unIms, List.length_cons, List.length_map, List.length_map, List.length_cons, r1.length]
    · cases i with
      | zero => simp [unIms] at z1; subst z1; exact .un
      | succ i =>
        rw [unIms, List.getElem?_cons_succ, List.getElem?_map] at z1
        rw [List.map_cons, List.getElem?_cons_succ, List.getElem?_map] at z2
        cases e3 : ds[i]? with
        | none => rw [e3] at z1; cases z1
        | some dd =>
          rw [e3] at z1; cases z1
          obtain ⟨y, y1, y2⟩ := r1.getD e3
          rw [y1] at z2; cases z2
          exact .im y2
    · cases i with
      | zero => simp [unIms] at z1; subst z1; cases o1
      | succ i =>
        rw [unIms, List.getElem?_cons_succ, List.getElem?_map] at z1
        cases e3 : ds[i]? with
        | none => rw [e3] at z1; cases z1
        | some dd => rw [e3] at z1; cases z1; cases o1
    · subst z
      have hm := List.mem_of_getElem? z1
      rw [unIms] at hm
      rcases List.mem_cons.mp hm with hm | hm
      · cases hm
      · obtain ⟨x, hx, e⟩ := List.mem_map.mp hm
        cases e
  · have keep : ∀ b u, H1 b = some u → H2 b = some u := fun b u z => I'.sg b u (show (if b = x then none else H' b) = some u by rw [if_neg (ne_of_none z hx)]; exact hH b u z)
    have sm : Same F1 F' := I'.g1
    have sm2 : Same F' (upd F' x (.ins C dx kvs)) := same_upd f2
    refine q (upd F' x (.ins C dx kvs)) (.ref x) H2 (s1.trans (sm.trans sm2)) ⟨fun b u z => ?_, fun b u z => keep b u (I1.sg b u z), I1.g1.trans (sm.trans sm2), fun b => ?_, fun b z => I1.g3 b (hH0 b (I'.g3 b z)), I1.len, fun i s v z1 z2 => ?_, I1.ap, I1.an, I1.ob.stay (sm.trans sm2) fun b hb => ?_⟩ (.ob hC upd_same (rk.mono sm2))
    · by_cases y : b = x
      · subst y; rw [upd_same] at z; rw [e2]; exact z
      · rw [upd_ne y] at z; exact I'.sf b u z
    · by_cases y : b = x
      · subst y; exact .inr ⟨x3, x4, x2⟩
      · rw [upd_ne y]
        rcases I'.g2 b with z | ⟨z1, z2, z3⟩
        · rw [z]; exact I1.g2 b
        · obtain ⟨y1, y2, y3, y4⟩ := I1.free (hH0 b z2)
          exact .inr ⟨y3, y4, y2⟩
    · have r := I1.sl i s v z1 z2
      cases r with
      | un => exact .un
      | im r => exact .im (r.mono (sm.trans sm2))
      | ow r g1 g2 g3 =>
        rename_i a
        have ax : a ≠ x := fun y => by rw [y] at r; exact r.some hx
        have ha : H2 a = H1 a := by
          cases e3 : H1 a with
          | none => exact absurd e3 r.some
          | some u => exact keep a u e3
        refine .ow (r.mono (sm.trans sm2) ha) ?_ g2 g3
        rw [upd_ne ax]
        rcases I'.g2 a with z | ⟨_, z, _⟩
        · exact z.trans g1
        · exact absurd (hH0 a z) r.some
      | ob => exact .ob
    · have hb1 := I1.ob.there hb
      have bx : b ≠ x := fun y => hb1 (by rw [y]; exact hx)
      refine ⟨?_, ?_⟩
      · cases e3 : H1 b with
        | none => exact absurd e3 hb1
        | some u => exact keep b u e3
      · rw [upd_ne bx]
        rcases I'.g2 b with z | ⟨_, z, _⟩
        · exact z.trans (I1.ob.free hb).1
        · exact absurd (hH0 b z) hb1
theorem jmake {K : PySem.W.Frag} {np n m k : Nat} {c : Str} {ps : List Str} {g : List D → Option (List (Key × D))} {p pos : Pos} {e : Expr} {es : List Expr} {t : TA} {fs : FEs} (G : MkOk X.prog X.w K X.mg X.base c ps k m g)
    (hr : RoomT (k + 1) X.A) (hg : Gl X c) (ha : JEs X np (e :: es) n t fs) (hm : m = n + 1 := by rfl) (hdb : (c == ("__debug__" : Str)) = false := by decide) (he : starEach (e :: es) X.env = (false, eval e X.env) :: starEach es X.env := by rfl) (hpl : (backTo pos (starEach es X.env)).any (·.1) = false := by rfl) (hK : X.K = K := by rfl) :
    JE X np (.Call (.Name c p) (e :: es) [] pos) (tMakeX K c (spI K c m g) t) (fMake c g fs) := by
  subst hK
  obtain ⟨C, f, fd, h1, h2, h3, h4, h5⟩ := G
  refine ⟨⟨fun pins s σ H Q I h => ?_⟩, fun B F e σ H Q hn I e' d hf q => ?_⟩
  · obtain ⟨C', n', h⟩ := h
    rw [h1] at n'; cases n'
    refine wpAny_Call_Name_kw (ld_glob I hg h2 ?_ hdb)
    refine PySem.W.callWith_K (h₀ := X.base) I.ok.mod.kin h3.kp (thn (ha.pa.run pos pins s σ H _ I h) fun us s1 ⟨vs, H1, I1, r, q⟩ => ⟨I1.kIn, ?_⟩) he hpl
    exact run_makeT h3 h4 hr h5 pass0 I1 r q
  · exact ⟨C, h1, de_make h1 hm ha.de B F e σ H Q hn I e' d hf q⟩
theorem MkOk.level {P : Program} {w : World} {K : PySem.W.Frag} {mg : Str → Option Value} {base : Heap} {c : Str} {ps : List Str} {k k' n : Nat} {g : List D → Option (List (Key × D))} (h : MkOk P w K mg base c ps k n g) (hk : k ≤ k') : MkOk P w K mg base c ps k' n g := by
  obtain ⟨C, f, fd, h1, h2, h3, h4, h5⟩ := h
  exact ⟨C, f, fd, h1, h2, h3, h4.mono hk, h5⟩
end
def ISrc (K : PySem.W.Frag) (mg : Str → Option Value) (c : Str) (st : Stmt) (ps : List Str) : Prop := ∃ (C f : Addr) (fd : FuncData) (m q : Str), PySem.W.nsIn K mainGlobals c = some (some (.ref C)) ∧ mg c = some (.ref C) ∧ Mk K C f ∧ Fun K m q st f fd ∧ BindsA fd ps
theorem isrc_mk {h : Heap} {K : PySem.W.Frag} {mg : Str → Option Value} {c q : Str} {st : Stmt} {ps : List Str} {C f : Addr} {oc : Value} {od an : Option Addr} {osl : Array (Option Value)} {kV doc pm cdv ct : Value} (X : K.In h) (G : h.Ns mainGlobals mg) (a : PySem.W.nsIn K mainGlobals c = some (some (.ref C)))
    (mk : PySem.W.makesIn K C = true) (at_ : PySem.W.findIn K (.ref C) "__init__" = some (some (.ref f))) (i : PySem.W.isFn K (.ref f) = true) (kc : PySem.W.keepIn K (.ref C) = true)
    (l : K.lookup f = some ⟨oc, od, .func (PySem.W.fnOf "__init__" q (defArgs st) (defBody st) (defScope st) .none kV doc pm an cdv ct), osl⟩) (cd : PySem.W.codeIn K cdv q = true) (k : PySem.W.keepIn K (.ref f) = true)
    (hb : ∀ (kV doc pm : Value) (an : Option Addr) (cdv ct : Value) (us : List Value), us.length = ps.length → bindArgs (PySem.W.fnOf "__init__" q (defArgs st) (defBody st) (defScope st) .none kV doc pm an cdv ct) ⟨us, []⟩ = pure (ps.zip us)) : ISrc K mg c st ps :=
  ⟨C, f, _, "__init__", q, a, PySem.W.mg_of X G a, ⟨mk, at_, i, kc⟩, fun_mk (st := st) l cd k, fun s us hl => .of_eq (hb _ _ _ _ _ _ us hl)⟩
theorem isrc_ok {P : Program} {w : World} {K : PySem.W.Frag} {mg : Str → Option Value} {base : Heap} {c : Str} {st : Stmt} {ps N : List Str} {k n : Nat} {t : TS} {fs : List (Str × FE)} {g : List D → Option (List (Key × D))} (S : ISrc K mg c st ps) (sc : FnScope N ps (defScope st)) (hn : ps.length = n) (hN : n ≤ N.length) (hfs : fs.length < 1000)
    (hb : ∀ (q : Str) (f : Addr) (cdv : Value) (A : Around) (outer : List PySem.Env) (s : Shared) (H : Hp) (E : XK), RoomT k (A.deeper (envOfC q (defScope st) s.heap.objs.size f cdv)) → JIn (cxOf CX0 P w K mg base N q (defScope st) f cdv A outer s H E).nox c (defBody st) t fs)
    (hg : g = gIn N.length n fs) : MkOk P w K mg base c ps (k + 1) n g := by
  subst hg
  obtain ⟨C, f, fd, m, q, h1, h2, h3, F, b⟩ := S
  exact ⟨C, f, fd, h1, h2, h3, initT F sc hn hN hfs (hb q f), b⟩
end M

namespace M
open PySem PySem.Spec PyProof.Rows L2
/-! ### xs.extend(ys), ys any list -/
open PySem.AutoSeq1 in
theorem meets_extend (l : Addr) (items : Array Value) (n : Nat) (b : Addr) (items2 : Array Value) (n2 : Nat) (sl2 : Array (Option Value)) (hc0 : ¬(!items.isEmpty && Builtin.List.listTooLong (items.size + items2.size)) = true) (hc1 : items.size ≤ sizeLine) (hs2 : items.size + items2.size ≤ sizeLine + 1) :
    Meets (Builtin.«list.extend» ⟨[.ref l, .ref b], []⟩) (fun _ R s => s.heap.get? l = some { cls := .type "list", dict := none, data := .seq items n, slots := #[] } ∧ s.heap.get? b = some { cls := .type "list", dict := none, data := .seq items2 n2, slots := sl2 } ∧ R (.ok (.ret Value.none)) { s with heap := s.heap.update l (Obj.mapSeq fun x => x ++ items2), toks := s.toks }) :=
  .of_wp fun prog w A R s h => by
    obtain ⟨hp, g, d, tk, os⟩ := s; obtain ⟨hl, hb, h⟩ := h; have f1 := AutoSeq1.idx_int; have f2 := AutoSeq1.sub_tuple_tuple; have f3 := AutoSeq1.sub_list_list; have f4 := AutoSeq1.sub_tuple_list; have f5 := AutoSeq1.sub_list_tuple;
    have hz' : (items ++ items2).size ≤ sizeLine + 1 := by rw [Array.size_append]; exact hs2
    wp_walk using (wpAny_updateSeq hl rfl (hz := hc1) (_hz' := hz')), wpAny_loadPart' hl, wpAny_loadPart' hb; exact ⟨_, rfl, h⟩
def rExtendL (K : PySem.W.Frag) : V → List V → Hp → VK → Prop := fun x vs H Q => ∃ l b xs zs, x = .ref l ∧ vs = [.ref b] ∧ H l = some (.lst xs) ∧ SqL K H b zs ∧ xs.length + zs.length ≤ sizeLine ∧ Q .non (upd H l (.lst (xs ++ zs)))
section
variable {X : Cx} {np : Nat}
theorem mt_extendL : MtR X "list.extend" (rExtendL X.K) := by
  intro pins s σ H x vs v us Q I rx rv h
  obtain ⟨l, b, xs, zs, rfl, rfl, hH, hB, hz, q⟩ := h
  cases rx
  obtain ⟨u, rfl, ru⟩ := rv.one
  cases ru
  obtain ⟨z, its, n, r, hl, e⟩ := I.lstM hH
  obtain ⟨its2, r2, pl, hz2⟩ := I.list hB
  obtain ⟨o2, n2, e2, c2, d2, k2⟩ := pl
  obtain ⟨cl, di, da, sl⟩ := o2
  simp only at c2 d2 k2
  subst c2 d2 k2
  have hl2 := r2.length
  have hsz : its.toArray.size + its2.toArray.size ≤ sizeLine := by rw [List.size_toArray, List.size_toArray]; omega
  have hlong : ¬ (!its.toArray.isEmpty && Builtin.List.listTooLong (its.toArray.size + its2.toArray.size)) = true := by
    rw [notLongL hsz, Bool.and_false]
    exact Bool.false_ne_true
  refine call_meets PySem.F.slot_list_extend ⟨_, e, rfl⟩ PySem.F.entry_list_extend (PySem.F.args_list_extend_2 _ _)
    (meets_extend l its.toArray n b its2.toArray n2 sl hlong (by rw [List.size_toArray]; omega) (by omega)) ⟨e, e2, ?_⟩
  refine ⟨.non, _, I.lset (its' := its ++ its2) hH e (by simp) (r.append r2) ?_, rfl, q⟩
  rw [List.length_append]
  omega
def gExtend : Sl → List D → Option (Sl × D)
  | .lst ds, [.lst es] => if ds.length + es.length ≤ sizeLine then some (.lst (ds ++ es), .non) else none
  | _, _ => none
theorem ow_extend {K : PySem.W.Frag} : OwM K (rExtendL K) gExtend := by
  intro F H a s s' xs ds d Q sf o r hf q
  unfold gExtend at hf
  split at hf
  · split at hf
    · rename_i hz
      cases hf
      obtain ⟨x, rfl, rx⟩ : ∃ x, xs = [x] ∧ Rp K F x (.lst _) := by cases r with | cons r t => cases t; exact ⟨_, rfl, r⟩
      cases o with
      | lst h1 h2 =>
        cases rx with
        | @lst b ys _ rd rk =>
          refine ⟨a, b, _, ys, rfl, rfl, h1, sf.seq rd, by rw [h2.length, rk.length]; exact hz, ?_⟩
          exact q _ _ (.lst upd_same (h2.append rk)) .non
    · cases hf
  · cases hf
theorem jextend {K : PySem.W.Frag} {i : Nat} {x : Str} {p apos cpos : Pos} {ex : Expr} {te : TE} {fe : FE} (hv : PE X (.Name x p) (tVar i)) (h : JE X np ex te fe)
    (hs : starEach [ex] X.env = (false, eval ex X.env) :: starEach [] X.env := by rfl) (hbase : attributeBase (.Name x p) "extend" X.env (eval (.Name x p) X.env) = eval (.Name x p) X.env := by rfl)
    (hfew : ((backTo cpos (starEach (ex :: []) X.env)).all (fun x => !x.1) && (backToKw cpos (keywordEach [] X.env)).all (fun x => x.1.isSome)
      && decide ((ex :: []).length + ([] : List Keyword).length + (if ([] : List Keyword).isEmpty then 0 else 1) < 30)) = true := by rfl)
    (hline : (apos.endLine == cpos.line) = true := by rfl) (hplain : (backTo cpos (starEach [] X.env)).any (·.1) = false := by rfl) (hK : X.K = K := by rfl) :
    JE X np (.Call (.Attribute (.Name x p) "extend" apos) [ex] [] cpos) (tBM K "list" (rExtendL K) (tVar i) (tCons te tNil)) (fBm "list" i gExtend (fCons fe fNil)) := by
  subst hK
  exact ⟨pe_bm PySem.F.plainAttrs_list PySem.F.slot_list_extend PySem.F.type_list_extend mt_extendL hv (pa_cons h.pe pa_nil hs) hbase hfew hline hs hplain, de_bm ow_extend (jes_cons h jes_nil hs).de⟩
end
end M

namespace M
open PySem PySem.Spec PyProof.Rows L2
/-! ### list(text), tuple(text) -/
def chV (z : Str) : List V := z.cps.toList.map fun c => V.str ⟨#[c]⟩
theorem vals_get : ∀ {xs : List V} {us : List Value}, xs.length = us.length → (∀ (j : Nat) (x : V) (u : Value), xs[j]? = some x → us[j]? = some u → RelV x u) → Vals xs us
  | [], [], _, _ => .nil
  | x :: xs, u :: us, hl, h => .cons (h 0 x u rfl rfl) (vals_get (by simpa using hl) fun j x u h1 h2 => h (j + 1) x u (by simpa using h1) (by simpa using h2))
  | [], _ :: _, hl, _ => by simp at hl
  | _ :: _, [], hl, _ => by simp at hl
theorem ch_vals {z : Str} {acc : Array Value} (h : ItemsOf (SignAt z) acc z.cps.size) : Vals (chV z) acc.toList := by
  refine vals_get ?_ fun j x u h1 h2 => ?_
  · rw [chV, List.length_map, Array.length_toList, Array.length_toList, h.1]
  · obtain ⟨c, t, h3, rfl⟩ := h.2 j u (by rw [← Array.getElem?_toList]; exact h2)
    rw [chV, List.getElem?_map, Array.getElem?_toList, h3] at h1
    cases h1
    exact ⟨t, rfl⟩
theorem ch_rps {K : PySem.W.Frag} {F : Hp} {z : Str} (h : sOk z) : Rps K F (chV z) (chars z) := by
  have : ∀ cs : List Nat, (∀ c ∈ cs, c < 1114112) → Rps K F (cs.map fun c => V.str ⟨#[c]⟩) (cs.map fun c => D.str ⟨#[c]⟩) := by
    intro cs
    induction cs with
    | nil => intro _; exact .nil
    | cons c cs ih =>
      intro hc
      exact .cons (.str _ (fun x hx => by simp at hx; subst hx; exact hc x (List.mem_cons_self ..))) (ih fun x hx => hc x (List.mem_cons_of_mem _ hx))
  exact this _ h
def rListS : List V → Hp → VK → Prop := fun xs H Q => ∃ z, xs = [.str z] ∧ z.length ≤ sizeLine ∧ ∀ l, H l = none → Q (.ref l) (upd H l (.lst (chV z)))
def rTupS : List V → Hp → VK → Prop := fun xs H Q => ∃ z, xs = [.str z] ∧ z.length ≤ sizeLine ∧ ∀ l, H l = none → Q (.ref l) (upd H l (.tup (chV z)))
section
variable {X : Cx} {K : PySem.W.Frag}
theorem chV_len (z : Str) : (chV z).length = z.length := by rw [chV, List.length_map, Array.length_toList]; rfl
theorem call_listS (hh : X.A.handled = none) : CallR X (.type "list") rListS := by
  intro pins s σ H xs us Q I r h
  obtain ⟨z, rfl, hz, q⟩ := h
  obtain ⟨u, rfl, t, rfl⟩ := vals1 r
  refine call_list_str hh z t (fun h' tk acc' c' kp e it => ?_) hz
  exact ⟨.ref s.heap.objs.size, _, I.laid (t' := tk) kp (Nat.le_refl _) (show ObjOk X.prog X.w _ h' _ (.lst (chV z)) from ⟨by rw [chV_len]; exact hz, acc'.toList, c', ch_vals it, by rw [Array.toArray_toList]; exact e⟩), rfl, q _ (I.hok.fresh (Nat.le_refl _))⟩
theorem call_tupS (hh : X.A.handled = none) : CallR X (.type "tuple") rTupS := by
  intro pins s σ H xs us Q I r h
  obtain ⟨z, rfl, hz, q⟩ := h
  obtain ⟨u, rfl, t, rfl⟩ := vals1 r
  refine call_tuple_str hh z t (fun h' tk acc kp it => ?_) hz
  have I1 : Inv X pins σ H { s with heap := h', toks := tk } := I.kept (t' := tk) kp
  have I2 : Inv X pins σ (upd H h'.objs.size (.tup (chV z))) { s with heap := h'.push { cls := .type "tuple", data := .seq acc }, toks := tk } :=
    I1.laid (t' := tk) (fun b o e => Heap.get?_push_of_some _ e) (Nat.le_refl _) (show ObjOk X.prog X.w _ _ _ (.tup (chV z)) from ⟨by rw [chV_len]; exact hz, acc.toList, ch_vals it, by rw [Array.toArray_toList]; exact IsTup.new _ _⟩)
  exact ⟨.ref h'.objs.size, _, I2, rfl, q _ (I1.hok.fresh (Nat.le_refl _))⟩
def tupX : List D → Option D
  | [.str z] => if z.length ≤ sizeLine then some (.tup (chars z)) else none
  | ds => tupD ds
def lstX : List D → Option D
  | [.str z] => if z.length ≤ sizeLine then some (.lst (chars z)) else none
  | ds => lstD ds
def rTupX (K : PySem.W.Frag) : List V → Hp → VK → Prop := fun xs H Q => rTupS xs H Q ∨ ∃ p ys, xs = [.ref p] ∧ ((SqL K H p ys ∧ ∀ l, H l = none → Q (.ref l) (upd H l (.tup ys))) ∨ (SqT K H p ys ∧ Q (.ref p) H))
def rLstX (K : PySem.W.Frag) : List V → Hp → VK → Prop := fun xs H Q => rListS xs H Q ∨ ∃ p ys, xs = [.ref p] ∧ (SqL K H p ys ∨ SqT K H p ys) ∧ ∀ l, H l = none → Q (.ref l) (upd H l (.lst ys))
theorem otupX (hh : X.A.handled = none) (hK : X.K = K := by rfl) : CallR X (.type "tuple") (rTupX K) := by subst hK; exact CallR.or (call_tupS hh) call_tuple_of
theorem olstX (hh : X.A.handled = none) (hK : X.K = K := by rfl) : CallR X (.type "list") (rLstX K) := by subst hK; exact CallR.or (call_listS hh) call_list_of
theorem cm_tupX : CallM K (rTupX K) tupX := by
  intro B F e σ H xs ds d Q I r hf q
  unfold tupX at hf
  split at hf
  · rename_i z
    split at hf
    · rename_i hz
      cases hf
      obtain ⟨x, rfl, rx⟩ := r.one
      obtain ⟨ex, ok⟩ := rx.str
      subst ex
      refine .inl ⟨z, rfl, hz, fun p hp => ?_⟩
      have sm := same_upd (o := .tup (chV z)) (I.free hp).1
      exact q _ _ _ sm (I.laid hp) (.tup (.inl (.inl upd_same)) ((ch_rps ok).mono sm))
    · cases hf
  · exact .inr (cm_tup B F e σ H xs ds d Q I r hf q)
theorem cm_lstX : CallM K (rLstX K) lstX := by
  intro B F e σ H xs ds d Q I r hf q
  unfold lstX at hf
  split at hf
  · rename_i z
    split at hf
    · rename_i hz
      cases hf
      obtain ⟨x, rfl, rx⟩ := r.one
      obtain ⟨ex, ok⟩ := rx.str
      subst ex
      refine .inl ⟨z, rfl, hz, fun p hp => ?_⟩
      have sm := same_upd (o := .lst (chV z)) (I.free hp).1
      exact q _ _ _ sm (I.laid hp) (.lst (.inl (.inl upd_same)) ((ch_rps ok).mono sm))
    · cases hf
  · exact .inr (cm_lst B F e σ H xs ds d Q I r hf q)
theorem d_tupXL (xs : List D) : tupX [.lst xs] = some (.tup xs) := rfl
theorem d_tupXT (xs : List D) : tupX [.tup xs] = some (.tup xs) := rfl
theorem d_tupXS (z : Str) : tupX [.str z] = if z.length ≤ sizeLine then some (.tup (chars z)) else none := rfl
theorem d_lstXL (xs : List D) : lstX [.lst xs] = some (.lst xs) := rfl
theorem d_lstXT (xs : List D) : lstX [.tup xs] = some (.lst xs) := rfl
theorem d_lstXS (z : Str) : lstX [.str z] = if z.length ≤ sizeLine then some (.lst (chars z)) else none := rfl
theorem g_extend (ds es : List D) : gExtend (.lst ds) [.lst es] = if ds.length + es.length ≤ sizeLine then some (.lst (ds ++ es), .non) else none := rfl
theorem c_fFld (c f : Str) (ka : FK) (s : Sl) (e : Sls) : fFld c f ka (s :: e) = (ka (s :: e)).bind fun p => (p.2 p.1).bind fun d => match d with
  | .ob c' es => if c' = c then (lookK (.inr f) es).bind fun d' => some (p.1, d') else none
  | _ => none := rfl
theorem c_fMeth (c m : Str) (mir : FC) (ko : FK) (k : FA) (s : Sl) (e : Sls) : fMeth c m mir ko k (s :: e) = (ko (s :: e)).bind fun p => (p.2 p.1).bind fun d => match d with
  | .ob c' es => if c' = c ∧ lookK (.inr m) es = none then (k p.1).bind fun q => (fCall2 mir q.1 (.im d :: q.2)).bind fun r => r.2.see.bind fun d' => some (r.1, d') else none
  | _ => none := rfl
theorem c_fMake (c : Str) (g : List D → Option (List (Key × D))) (fs : FEs) (s : Sl) (e : Sls) : fMake c g fs (s :: e) = (fs (s :: e)).bind fun p => (g p.2).bind fun es => some (p.1, .ob c es) := rfl
end
end M

namespace M
open PySem PySem.Spec PyProof.Rows L2
section
variable {X : Cx} {c : Str}
theorem jin_one {K : PySem.W.Frag} {f x : Str} {p tpos pos : Pos} {ex : Expr} {te : TE} {fe : FE} (hc : ClsF K c f) (hv : PE X (.Name x p) (tVar 0)) (h : JE X 0 ex te fe) (hs : swapsWith ex (some (.Attribute (.Name x p) f tpos)) pos.line X.env = pure false := by rfl) (hK : X.K = K := by rfl) :
    JIn X c [.Assign [.Attribute (.Name x p) f tpos] ex pos] (sFld K (tVar 0) te f) [(f, fe)] := by
  subst hK
  exact ji_one hc hv h hs
theorem jin_cons {K : PySem.W.Frag} {f x : Str} {p tpos pos : Pos} {ex : Expr} {te : TE} {fe : FE} {ss : List Stmt} {t : TS} {fs : List (Str × FE)} (hc : ClsF K c f) (hv : PE X (.Name x p) (tVar 0)) (h : JE X 0 ex te fe) (h2 : JIn X c ss t fs) (hs : swapsWith ex (some (.Attribute (.Name x p) f tpos)) pos.line X.env = pure false := by rfl) (hK : X.K = K := by rfl) :
    JIn X c (.Assign [.Attribute (.Name x p) f tpos] ex pos :: ss) (tSeq (sFld K (tVar 0) te f) t) ((f, fe) :: fs) := by
  subst hK
  exact ji_cons hc hv h h2 hs
end
end M

namespace M
open PySem PySem.Spec PyProof.Rows L2
mutual
def T.Nf : T → Prop
  | .num _ => True
  | .name _ => True
  | .make _ => True
  | .app a b => a.Nf ∧ b.Nf
  | .op _ a b => a.Nf ∧ b.Nf
  | .fn _ _ => False
  | .lt ps b => (plI ps).length ≤ 9 ∧ ps.Nf ∧ b.Nf
  | .cs a ws => a.Nf ∧ (wlI ws).length ≤ 9 ∧ ws.Nf
def PL.Nf : PL → Prop
  | .nil => True
  | .cons _ t r => t.Nf ∧ r.Nf
def WL.Nf : WL → Prop
  | .nil => True
  | .cons _ _ t r => t.Nf ∧ r.Nf
end
theorem pl_nf : ∀ {ps : PL}, ps.Nf → ∀ p ∈ plI ps, p.2.Nf ∧ p.2.h ≤ ps.h
  | .nil, _, p, h => nomatch h
  | .cons x t r, ok, p, h => by
    rcases List.mem_cons.mp h with rfl | h
    · exact ⟨ok.1, by rw [PL.h]; exact Nat.le_max_left _ _⟩
    · obtain ⟨a, b⟩ := pl_nf ok.2 p h
      exact ⟨a, by rw [PL.h]; omega⟩
theorem wl_nf : ∀ {ps : WL}, ps.Nf → ∀ p ∈ wlI ps, p.2.2.Nf ∧ p.2.2.h ≤ ps.h
  | .nil, _, p, h => nomatch h
  | .cons x xs t r, ok, p, h => by
    rcases List.mem_cons.mp h with rfl | h
    · exact ⟨ok.1, by rw [WL.h]; exact Nat.le_max_left _ _⟩
    · obtain ⟨a, b⟩ := wl_nf ok.2 p h
      exact ⟨a, by rw [WL.h]; omega⟩
end M

namespace M
open PySem PySem.Spec PyProof.Rows L2

/-! ### lending: own dicts handed on to be read, and kept -/
def notLst : D → Bool
  | .lst _ => false
  | _ => true
def Sl.shal : Sl → Bool
  | .un => false
  | .im d => d.plain
  | .lst ds => D.plains ds
  | .dic es => es.all fun p => p.2.plain
  | .ob _ _ => false
def lent (m : FC) (k : FKs) : Sls → Option (Sls × Sl) := fun e => (k e).bind fun p => (p.2 p.1).bind fun ds => if ds.all notLst = true then (m (ds.map Sl.im)).bind fun q => if q.2.shal = true then some (p.1, q.2) else none else none
def fLend (m : FC) (k : FKs) : FE := fun e => (lent m k e).bind fun p => match p.2 with
  | .im d => some (p.1, d)
  | _ => none
def oLend (m : FC) (k : FKs) : Sls → Option (Sls × Sl) := fun e => (lent m k e).bind fun p => if p.2.own = true then some p else none

def isK (u : Option HO) : Prop := ∃ kvs, u = some (.dK kvs)
/-- rd of what is no dict goes over -/
theorem rd_over {F' F2 : Hp} {a : Addr} {u : HO} (h : ∀ b o, F' b = some o → (∀ kvs, o ≠ .dK kvs) → F2 b = some o) (hu : ∀ kvs, u ≠ .dK kvs) (r : Rd F' a u) : Rd F2 a u := by
  rcases r with r | ⟨o, r⟩
  · exact .inl (h _ _ r hu)
  · exact .inr ⟨o, h _ _ r fun _ z => nomatch z⟩
mutual
theorem Rp.over {K : PySem.W.Frag} {F' F2 : Hp} (h : ∀ b o, F' b = some o → (∀ kvs, o ≠ .dK kvs) → F2 b = some o) : ∀ {v : V} {d : D}, d.plain = true → Rp K F' v d → Rp K F2 v d
  | _, .non, _, .non => .non
  | _, .bl _, _, .bl b => .bl b
  | _, .int _, _, .int i => .int i
  | _, .str _, _, .str x h => .str x h
  | _, .ty _, hp, _ => by cases hp
  | _, .fn _, hp, _ => by cases hp
  | _, .lst _, hp, .lst s r => .lst (by
      rcases s with s | s
      · exact .inl (rd_over h (fun _ z => nomatch z) s)
      · exact .inr s) (Rps.over h hp r)
  | _, .tup _, hp, .tup s r => .tup (by
      rcases s with s | s
      · exact .inl (rd_over h (fun _ z => nomatch z) s)
      · exact .inr s) (Rps.over h hp r)
  | _, .dic _, hp, _ => by cases hp
  | _, .ob _ _, hp, _ => by cases hp
theorem Rps.over {K : PySem.W.Frag} {F' F2 : Hp} (h : ∀ b o, F' b = some o → (∀ kvs, o ≠ .dK kvs) → F2 b = some o) : ∀ {v : List V} {d : List D}, D.plains d = true → Rps K F' v d → Rps K F2 v d
  | _, _, _, .nil => .nil
  | _, _, hp, .cons a b => by
    simp only [D.plains, Bool.and_eq_true] at hp
    exact .cons (Rp.over h hp.1 a) (Rps.over h hp.2 b)
end
theorem Rpk.over {K : PySem.W.Frag} {F' F2 : Hp} (h : ∀ b o, F' b = some o → (∀ kvs, o ≠ .dK kvs) → F2 b = some o) : ∀ {v : List (Key × V)} {d : List (Key × D)}, (d.all fun p => p.2.plain) = true → Rpk K F' v d → Rpk K F2 v d
  | _, _, _, .nil => .nil
  | _, _, hp, .cons a b => by
    simp only [List.all_cons, Bool.and_eq_true] at hp
    exact .cons (Rp.over h hp.1 a) (Rpk.over h hp.2 b)
section
variable {K : PySem.W.Frag} {B : Bs} {F H : Hp} {e : Sls} {σ : L2.St}
open Classical in
noncomputable def lendF (F H : Hp) (vs : List V) : Hp := fun b => if .ref b ∈ vs ∧ isK (H b) then H b else F b
theorem lendF_sub {vs : List V} (sf : Same F H) : Same F (lendF F H vs) := fun b u q => by
  unfold lendF
  split
  · exact sf b u q
  · exact q
theorem lendF_in {vs : List V} (sf : Same F H) : Same (lendF F H vs) H := fun b u q => by
  unfold lendF at q
  split at q
  · exact q
  · exact sf b u q
theorem lend_rps (sf : Same F H) {ws : List V} : ∀ {vs : List V} {ds : List D}, (∀ v ∈ vs, v ∈ ws) → RpOs K F H vs ds → ds.all notLst = true → ∀ (j : Nat) (d : D) (v : V), ds[j]? = some d → vs[j]? = some v → Rp K (lendF F H ws) v d
  | _, _, _, .nil, _, j, d, v, h, _ => by simp at h
  | v :: vs, d :: ds, hm, .cons r t, hn, 0, _, _, h1, h2 => by
    simp only [List.all_cons, Bool.and_eq_true] at hn
    simp at h1 h2
    subst h1; subst h2
    cases r with
    | rp r => exact r.mono (lendF_sub sf)
    | lst _ _ => cases hn.1
    | @dic a kvs es h1 h2 =>
      refine .dic (.inl ?_) (h2.mono (lendF_sub sf))
      unfold lendF
      rw [if_pos ⟨hm _ (List.mem_cons_self ..), kvs, h1⟩]
      exact h1
  | v :: vs, d :: ds, hm, .cons r t, hn, j + 1, d', v', h1, h2 => by
    simp only [List.all_cons, Bool.and_eq_true] at hn
    exact lend_rps sf (fun v hv => hm v (List.mem_cons_of_mem _ hv)) t hn.2 j d' v' (by simpa using h1) (by simpa using h2)
theorem RpOs.len : ∀ {vs : List V} {ds : List D}, RpOs K F H vs ds → vs.length = ds.length
  | _, _, .nil => rfl
  | _, _, .cons _ t => congrArg (· + 1) (RpOs.len t)
theorem lent_core {n : Nat} {m : FC} {E : XK} (hlen : ∀ {es r}, m es = some r → es.length = n) {Q : VK} {vs : List V} {ds : List D} {es' : Sls} {d' : Sl} (I : IV K B F e σ H) (r : RpOs K F H vs ds) (hn : ds.all notLst = true)
    (h3 : m (ds.map Sl.im) = some (es', d')) (hs : d'.shal = true)
    (q : ∀ (F' : Hp) (v : V) (H' : Hp), Same F F' → IV K B F' e σ H' → ResR K B F' H' v d' → (∀ a, v = .ref a → d'.own = true → ∀ (j : Nat) (s' : Sl), e[j]? = some s' → s'.own = true → σ[j]? ≠ some (some (.ref a))) → (∀ a, v = .ref a → d'.own = true → ¬ IsCell H' e σ a) → Q v H') : spM K n m vs H Q E := by
  have lv : vs.length = (ds.map Sl.im).length := by rw [List.length_map, r.len]
  refine ⟨lv.trans (hlen h3), lendF F H vs, H, ds.map Sl.im, es', d', ⟨lendF_in I.sf, Same.refl _, Same.refl _, fun b => .inl rfl, fun b z => z, by rw [List.length_map, List.length_map, r.len], fun j s w q1 q2 => ?_, fun i j s t hij q1 q2 o1 o2 => ?_, fun i v _ hv => hv, .nil fun j s q1 c fs z => ?_⟩, h3, fun F' v H' I' rv rc0 => ?_⟩
  · obtain ⟨v, rfl, q3⟩ := of_len_some q2
    rw [List.getElem?_map] at q1
    obtain ⟨d, e1, e2⟩ := Option.map_eq_some_iff.mp q1
    subst e2
    exact .im (lend_rps I.sf (fun v hv => hv) r hn j d v e1 q3)
  · rw [List.getElem?_map] at q1
    obtain ⟨d, e1, e2⟩ := Option.map_eq_some_iff.mp q1
    subst e2
    cases o1
  · rw [List.getElem?_map] at q1
    obtain ⟨d, e1, e2⟩ := Option.map_eq_some_iff.mp q1
    subst e2
    cases z
  · clear rc0
    have sm : Same (lendF F H vs) F' := I'.g1
    have hh : Same H H' := I'.sg
    classical
    let F2 : Hp := fun b => if H b = none then F' b else F b
    have sub : Same F F2 := fun b u z => by
      show (if H b = none then F' b else F b) = some u
      rw [if_neg (by rw [I.sf b u z]; exact fun y => nomatch y)]
      exact z
    have ov : ∀ b o, F' b = some o → (∀ kvs, o ≠ .dK kvs) → F2 b = some o := fun b o z nk => by
      show (if H b = none then F' b else F b) = some o
      split
      · exact z
      · rename_i hb
        rcases I'.g2 b with y | ⟨_, y, _⟩
        · have y' : F' b = lendF F H vs b := y
          unfold lendF at y'
          split at y'
          · rename_i hk
            obtain ⟨_, kvs, hk⟩ := hk
            rw [y', hk] at z
            cases z
            exact absurd rfl (nk kvs)
          · rw [← y']; exact z
        · exact absurd y hb
    have atn : ∀ b, H b = none → F2 b = F' b := fun b hb => if_pos hb
    have ats : ∀ b, H b ≠ none → F2 b = F b := fun b hb => if_neg hb
    have I2 : IV K B F2 e σ H' := by
      refine ⟨fun b u z => ?_, I.sg.trans hh, I.g1.trans sub, fun b => ?_, fun b z => ?_, I.len, fun i s w q1 q2 => ?_, I.ap, I.an, I.ob.stay sub fun b hb => ?_⟩
      · by_cases hb : H b = none
        · rw [atn b hb] at z; exact I'.sf b u z
        · rw [ats b hb] at z; exact hh b u (I.sf b u z)
      · by_cases hb : H b = none
        · obtain ⟨f1, f2, f3, f4⟩ := I.free (p := b) hb
          exact .inr ⟨f3, f4, f2⟩
        · rw [ats b hb]; exact I.g2 b
      · refine I.g3 b ?_
        cases hb : H b with
        | none => rfl
        | some u => rw [hh b u hb] at z; cases z
      · have y := I.sl i s w q1 q2
        cases y with
        | un => exact .un
        | im y => exact .im (y.mono sub)
        | ow o f1 f2 f3 =>
          rename_i a
          have ha : H' a = H a := by
            cases ho : H a with
            | none => exact absurd ho o.some
            | some u => exact hh a u ho
          exact .ow (o.mono sub ha) (by rw [ats a o.some]; exact f1) f2 f3
        | ob => exact .ob
      · have h1 := I.ob.there hb
        refine ⟨?_, by rw [ats b h1]; exact (I.ob.free hb).1⟩
        cases ho : H b with
        | none => exact absurd ho h1
        | some u => exact hh b u ho
    refine q F2 v H' sub I2 ?_ ?_ ?_
    · cases rv with
      | im y => exact .im (Rp.over ov hs y)
      | ow o f g b =>
        rename_i a
        have hb : H a = none := b
        obtain ⟨f1, f2, f3, f4⟩ := I.free (p := a) hb
        refine .ow ?_ ((atn a hb).trans f) f2 f4
        cases o with
        | lst h1 h2 => exact .lst h1 (Rps.over ov hs h2)
        | dic h1 h2 => exact .dic h1 (Rpk.over ov hs h2)
    · intro a ev ho j s' q1 o1 q2
      obtain ⟨a', e', o', _⟩ := (I.sl j s' _ q1 q2).of_own o1
      cases e'
      cases rv with
      | im _ => cases ho
      | ow o f g b =>
        cases ev
        exact o'.some b
    · rintro a ev ho ⟨i, s, g1, g2⟩
      cases rv with
      | im _ => cases ho
      | ow o f g b =>
        cases ev
        refine I.ob.there ⟨i, s, g1, g2.mono fun a' c fs e1 e2 => ?_⟩ b
        subst e1
        cases ho2 : H a' with
        | none => exact absurd ho2 (I.ob.there (I.ob.top g1 e2))
        | some u => exact hh a' u ho2
theorem de_lend {np n : Nat} {m : FC} {t : TA} {k : FKs} {E : XK} (h : DKs K np t k) (hlen : ∀ {es r}, m es = some r → es.length = n) : DE K np (tCall (spM K n m) [] E t) (fLend m k) := by
  intro B F e σ H Q hn I e' d hf q
  obtain ⟨⟨e1, s⟩, h1, hf⟩ := bnd hf
  obtain ⟨⟨e2, rd⟩, h2, h1⟩ := bnd h1
  obtain ⟨ds, h3, h1⟩ := bnd h1
  split at h1
  · rename_i hnl
    obtain ⟨⟨es', d'⟩, h4, h1⟩ := bnd h1
    split at h1
    · rename_i hs
      cases h1
      refine h B F e σ H _ hn I e2 rd h2 fun F1 vs H1 s1 I1 r1 => ?_
      rw [List.append_nil]
      refine lent_core hlen I1 (r1 F1 e2 H1 ds (Same.refl _) I1 h3) hnl h4 hs fun F' v H' s' I' r ne nc => ?_
      cases d' with
      | im d0 =>
        cases hf
        cases r with
        | im r => exact q F' v H' (s1.trans s') I' r
        | ow o _ _ _ => cases o
      | un => cases hf
      | lst _ => cases hf
      | dic _ => cases hf
      | ob _ _ => cases hf
    · cases h1
  · cases h1
theorem dow_lend {np n : Nat} {m : FC} {t : TA} {k : FKs} {E : XK} (h : DKs K np t k) (hlen : ∀ {es r}, m es = some r → es.length = n) : DOw K np (tCall (spM K n m) [] E t) (oLend m k) := by
  intro B F e σ H Q hn I e' d hf q
  obtain ⟨⟨e1, s⟩, h1, hf⟩ := bnd hf
  simp only at hf
  split at hf
  · rename_i ho
    cases hf
    obtain ⟨⟨e2, rd⟩, h2, h1⟩ := bnd h1
    obtain ⟨ds, h3, h1⟩ := bnd h1
    split at h1
    · rename_i hnl
      obtain ⟨⟨es', d'⟩, h4, h1⟩ := bnd h1
      split at h1
      · rename_i hs
        cases h1
        refine h B F e σ H _ hn I e2 rd h2 fun F1 vs H1 s1 I1 r1 => ?_
        rw [List.append_nil]
        refine lent_core hlen I1 (r1 F1 e2 H1 ds (Same.refl _) I1 h3) hnl h4 hs fun F' v H' s' I' r ne nc => ?_
        cases r with
        | im _ => cases ho
        | ow o f g b => exact q F' _ H' (s1.trans s') I' o f g b (ne _ rfl ho) (nc _ rfl ho)
      · cases h1
    · cases h1
  · cases hf
end
section
variable {X : Cx} {np : Nat}
theorem jlend {K : PySem.W.Frag} {n k : Nat} {x : Str} {p pos : Pos} {ex : Expr} {es : List Expr} {ps : List Str} {m : FC} {t : TA} {ks : FKs} (G : DefOk X.prog X.w K X.mg X.base x ps k n m)
    (hr : RoomT k X.A) (hg : Gl X x) (ha : JKs X np (ex :: es) t ks) (hdb : (x == ("__debug__" : Str)) = false := by decide)
    (he : starEach (ex :: es) X.env = (false, eval ex X.env) :: starEach es X.env := by rfl) (hpl : (backTo pos (starEach es X.env)).any (·.1) = false := by rfl) (hK : X.K = K := by rfl) :
    JE X np (.Call (.Name x p) (ex :: es) [] pos) (tCall (spM K n m) [] E0 t) (fLend m ks) := by
  subst hK
  obtain ⟨f, fd, G, b, kp, e, l, kw⟩ := G
  exact ⟨pe_callT G hr hg e kp b.b .nil pass0 ha.pa hdb he hpl, de_lend ha.de fun {es r} h => l es r h⟩
theorem jlendO {K : PySem.W.Frag} {n k : Nat} {x : Str} {p pos : Pos} {ex : Expr} {es : List Expr} {ps : List Str} {m : FC} {t : TA} {ks : FKs} (G : DefOk X.prog X.w K X.mg X.base x ps k n m)
    (hr : RoomT k X.A) (hg : Gl X x) (ha : JKs X np (ex :: es) t ks) (hdb : (x == ("__debug__" : Str)) = false := by decide)
    (he : starEach (ex :: es) X.env = (false, eval ex X.env) :: starEach es X.env := by rfl) (hpl : (backTo pos (starEach es X.env)).any (·.1) = false := by rfl) (hK : X.K = K := by rfl) :
    JOw X np (.Call (.Name x p) (ex :: es) [] pos) (tCall (spM K n m) [] E0 t) (oLend m ks) := by
  subst hK
  obtain ⟨f, fd, G, b, kp, e, l, kw⟩ := G
  exact ⟨pe_callT G hr hg e kp b.b .nil pass0 ha.pa hdb he hpl, dow_lend ha.de fun {es r} h => l es r h⟩

/-! ### an own thing goes over to another name -/
def oMove (np i : Nat) : Sls → Option (Sls × Sl) := fun e => match e[i]? with
  | some s => if s.own = true ∧ np ≤ i then some (e.set i .un, s) else none
  | none => none
theorem jow_move (i : Nat) {x : Str} {p : Pos} (h : PE X (.Name x p) (tVar i)) : JOw X np (.Name x p) (tVar i) (oMove np i) := by
  refine ⟨h, fun B F e σ H Q hn I e' s hf q => ?_⟩
  unfold oMove at hf
  split at hf
  · rename_i s0 h0
    split at hf
    · rename_i ho
      cases hf
      obtain ⟨v0, hv0, r0⟩ := I.slot h0
      obtain ⟨a, ev, o, f1, f2, f3⟩ := r0.of_own ho.1
      subst ev
      refine ⟨.ref a, hv0, q F a H (Same.refl F) (I.forget i) o f1 f2 (f3 (by simp; omega)) (fun j s' g1 g2 g3 => ?_) fun ⟨k, s2, g4, g5⟩ => ?_⟩
      by_cases hij : i = j
      · subst hij
        rw [List.getElem?_set] at g1
        simp only [if_true] at g1
        split at g1
        · cases g1; cases g2
        · cases g1
      · rw [List.getElem?_set_ne hij] at g1
        exact I.ap i j s s' hij h0 g1 ho.1 g2 (by rw [hv0, g3])
      · by_cases hik : i = k
        · subst hik
          rw [List.getElem?_set] at g4
          simp only [if_true] at g4
          split at g4
          · cases g4
            obtain ⟨c, fs, z⟩ := g5.ob
            cases z
          · cases g4
        · rw [List.getElem?_set_ne hik] at g4
          exact I.ob.aw k i s2 s a g4 h0 g5 ho.1 hv0
    · cases hf
  · cases hf

/-! ### d.clear() -/
def gDClear : Sl → List D → Option (Sl × D)
  | .dic _, [] => some (.dic [], .non)
  | _, _ => none
theorem ow_dclear {K : PySem.W.Frag} : OwM K rDClear gDClear := by
  intro F H a s s' xs ds d Q sf o r hf q
  unfold gDClear at hf
  split at hf
  · cases hf
    cases r
    cases o with
    | dic h1 h2 => exact ⟨a, _, rfl, rfl, h1, q _ _ (.dic upd_same .nil) .non⟩
  · cases hf
theorem jdclear {K : PySem.W.Frag} {i : Nat} {x : Str} {p apos cpos : Pos} (hv : PE X (.Name x p) (tVar i)) (hbase : attributeBase (.Name x p) "clear" X.env (eval (.Name x p) X.env) = eval (.Name x p) X.env := by rfl) (hline : (apos.endLine == cpos.line) = true := by rfl) (hK : X.K = K := by rfl) :
    JE X np (.Call (.Attribute (.Name x p) "clear" apos) [] [] cpos) (tBM0 K "dict" rDClear (tVar i)) (fBm "dict" i gDClear fNil) := by
  subst hK
  exact ⟨pe_dclear hv hbase hline, de_bm0 ow_dclear⟩

/-! ### is None -/
def isD : D → D → Option D
  | .non, .non => some (.bl true)
  | _, .non => some (.bl false)
  | _, _ => none
def rIsN : R2 := fun x y H Q => y = .non ∧ Q (.bl (decide (x = .non))) H
theorem om_isN {K : PySem.W.Frag} : OpM K rIsN isD := by
  intro B F e σ H x y dx dy d Q I rx ry hf q
  unfold isD at hf
  split at hf
  · cases hf
    refine ⟨ry.non, ?_⟩
    rw [rx.non]
    exact q F _ H (Same.refl F) I (.bl _)
  · rename_i hne
    cases hf
    refine ⟨ry.non, ?_⟩
    have : x ≠ .non := fun z => by
      subst z
      cases rx with
      | rp r => cases r; exact hne rfl
    rw [decide_eq_false this]
    exact q F _ H (Same.refl F) I (.bl _)
  · cases hf
theorem oisN {X : Cx} : OpR X (compareOp .Is) rIsN := op_isN

/-! ### in of data -/
def inQW (x y : D) : Option Bool := match y with
  | .lst ys => if x.plain = true ∧ D.plains ys = true ∧ x.py.depth ≤ 190 then some ((D.pys ys).any fun y => PyData.eqv y x.py) else none
  | _ => none
def notInW (x y : D) : Option D := (inQW x y).map fun b => .bl (!b)
def rNotInW (K : PySem.W.Frag) : R2 := fun x y H Q => ∃ F dx ds, Same F H ∧ RpO K F H x dx ∧ RpO K F H y (.lst ds) ∧ dx.plain = true ∧ D.plains ds = true ∧ dx.py.depth ≤ 190 ∧ Q (.bl (!((D.pys ds).any fun y => PyData.eqv y dx.py))) H
theorem op_notInW (hu : X.A.units + 200 < cLine) : OpR X (compareOp .NotIn) (rNotInW X.K) := by
  intro pins s σ H x y v u Q I rx ry h
  obtain ⟨F, dx, ds, sf, h1, h2, p1, p2, hz, q⟩ := h
  obtain ⟨⟨as, q1⟩, l1⟩ := rpo_reads I sf p1 h1 rx
  obtain ⟨⟨bs, q2⟩, l2⟩ := rpo_reads I sf (d := .lst ds) p2 h2 ry
  exact SeqAt.notIn_list_reads (xs := D.pys ds) q2 q1 l2 l1 (by omega) ⟨.bl _, H, I, rfl, q⟩
theorem om_notInW {K : PySem.W.Frag} : OpM K (rNotInW K) notInW := by
  intro B F e σ H x y dx dy d Q I rx ry hf q
  obtain ⟨b, h1, h2⟩ := Option.map_eq_some_iff.mp hf
  subst h2
  unfold inQW at h1
  split at h1
  · split at h1
    · rename_i hz
      cases h1
      exact ⟨F, dx, _, I.sf, rx, ry, hz.1, hz.2.1, hz.2.2, q F _ H (Same.refl F) I (.bl _)⟩
    · cases h1
  · cases h1
theorem onotInW {K : PySem.W.Frag} (hu : X.A.units + 200 < cLine) (hK : X.K = K := by rfl) : OpR X (compareOp .NotIn) (rNotInW K) := by subst hK; exact op_notInW hu
end
end M

namespace M
open PySem PySem.Spec PyProof.Rows L2

/-! ### an own object changes -/
section
variable {K : PySem.W.Frag} {B : Bs} {F : Hp} {e : Sls} {σ : L2.St} {H : Hp}
theorem IV.obTurn (I : IV K B F e σ H) {i : Nat} {c : Str} {fs fs' : List (Str × Fd)} {a x : Addr} {o : HO} (h : e[i]? = some (.ob c fs)) (hv : σ[i]? = some (some (.ref a))) (hx : Cell H (some (some (V.ref a))) (.ob c fs) x)
    (ok : ObOk K F (upd H x o) a c fs')
    (hc : ∀ b, Cell (upd H x o) (some (some (V.ref a))) (.ob c fs') b → Cell H (some (some (V.ref a))) (.ob c fs) b ∨ (F b = none ∧ B.G b = none ∧ ¬ IsCell H e σ b ∧ ∀ (j : Nat) (s : Sl), e[j]? = some s → s.own = true → σ[j]? ≠ some (some (.ref b)))) :
    IV K B F (e.set i (.ob c fs')) σ (upd H x o) := by
  have hx' : Cell H σ[i]? (.ob c fs) x := by rw [hv]; exact hx
  obtain ⟨fx, gx⟩ := I.ob.fr i _ x h hx'
  have hl : i < e.length := (List.getElem?_eq_some_iff.mp h).1
  have se : ∀ {j : Nat} {s : Sl}, (e.set i (.ob c fs'))[j]? = some s → (j = i ∧ s = .ob c fs') ∨ (j ≠ i ∧ e[j]? = some s) := fun {j s} q => by
    by_cases z : i = j
    · subst z
      rw [List.getElem?_set_self hl] at q; cases q; exact .inl ⟨rfl, rfl⟩
    · rw [List.getElem?_set_ne z] at q; exact .inr ⟨fun y => z y.symm, q⟩
  have old : ∀ {k : Nat} {t : Sl} {b : Addr}, k ≠ i → e[k]? = some t → Cell (upd H x o) σ[k]? t b → Cell H σ[k]? t b := fun {k t b} hk g1 g2 => g2.mono fun a' c' fs2 e1 e2 => by
    refine upd_ne fun z => ?_
    subst e1
    exact I.ob.ap k i _ _ x hk g1 h ⟨c', fs2, a', rfl, e2, .inl z.symm⟩ hx'
  have neC : ∀ {k : Nat} {t : Sl} {b : Addr}, k ≠ i → e[k]? = some t → Cell H σ[k]? t b → b ≠ x := fun {k t b} hk g1 g2 z => by
    subst z; exact I.ob.ap k i _ _ b hk g1 h g2 hx'
  refine ⟨fun b u q => ?_, fun b u q => ?_, I.g1, I.g2, fun b q => ?_, by rw [List.length_set]; exact I.len, fun j s v h1 h2 => ?_, fun j k s t hjk h1 h2 o1 o2 => ?_, I.an,
    ⟨fun j c' fs2 h1 => ?_, fun j s b h1 h2 => ?_, fun j k s t b hjk h1 h2 h3 h4 => ?_, fun j c' fs2 a' h1 h2 => ?_, fun j k s t b h1 h2 h3 h4 h5 => ?_⟩⟩
  · rw [upd_ne (ne_of_none q fx)]; exact I.sf b u q
  · rw [upd_ne (ne_of_none q gx)]; exact I.sg b u q
  · by_cases z : b = x
    · subst z; rw [upd_same] at q; cases q
    · rw [upd_ne z] at q; exact I.g3 b q
  · rcases se h1 with ⟨rfl, rfl⟩ | ⟨hj, g⟩
    · exact .ob
    · have r := I.sl j s v g h2
      cases r with
      | un => exact .un
      | im r => exact .im r
      | ow r g1 g2 g3 =>
        rename_i b
        have nb : b ≠ x := fun z => by
          subst z; exact I.ob.aw i j _ s b h g hx' r.own h2
        exact .ow (r.mono (Same.refl F) (upd_ne nb)) g1 g2 g3
      | ob => exact .ob
  · rcases se h1 with ⟨rfl, rfl⟩ | ⟨hj, g⟩
    · cases o1
    · rcases se h2 with ⟨rfl, rfl⟩ | ⟨hk, g'⟩
      · cases o2
      · exact I.ap j k s t hjk g g' o1 o2
  · rcases se h1 with ⟨rfl, e1⟩ | ⟨hj, g⟩
    · cases e1
      exact ⟨a, hv, ok⟩
    · obtain ⟨a', e1, C, dx, kvs, n, ha, r, nd⟩ := I.ob.ok j c' fs2 g
      refine ⟨a', e1, C, dx, kvs, n, ?_, r.go (Same.refl F) fun m b hb => upd_ne (neC hj g ⟨c', fs2, a', rfl, e1, .inr ⟨C, dx, kvs, m, ha, hb⟩⟩), nd⟩
      rw [upd_ne (neC hj g ⟨c', fs2, a', rfl, e1, .inl rfl⟩)]; exact ha
  · rcases se h1 with ⟨rfl, rfl⟩ | ⟨hj, g⟩
    · rw [hv] at h2
      rcases hc b h2 with z | ⟨z1, z2, _⟩
      · exact I.ob.fr j _ b h (by rw [hv]; exact z)
      · exact ⟨z1, z2⟩
    · exact I.ob.fr j s b g (old hj g h2)
  · have mix : ∀ {j k : Nat} {t : Sl} {b : Addr}, j = i → k ≠ i → e[k]? = some t → Cell (upd H x o) σ[j]? (.ob c fs') b → Cell (upd H x o) σ[k]? t b → False := fun {j k t b} hj hk g g1 g2 => by
      subst hj
      have g2' := old hk g g2
      rw [hv] at g1
      rcases hc b g1 with z | ⟨_, _, z, _⟩
      · exact I.ob.ap j k _ t b (Ne.symm hk) h g (by rw [hv]; exact z) g2'
      · exact z ⟨k, t, g, g2'⟩
    rcases se h1 with ⟨hj, rfl⟩ | ⟨hj, g⟩
    · rcases se h2 with ⟨hk, rfl⟩ | ⟨hk, g'⟩
      · exact absurd (hj.trans hk.symm) hjk
      · exact mix hj hk g' h3 h4
    · rcases se h2 with ⟨hk, rfl⟩ | ⟨hk, g'⟩
      · exact mix hk hj g h4 h3
      · exact I.ob.ap j k s t b hjk g g' (old hj g h3) (old hk g' h4)
  · rcases se h1 with ⟨rfl, e1⟩ | ⟨hj, g⟩
    · exact I.ob.tp j c fs a' h h2
    · exact I.ob.tp j c' fs2 a' g h2
  · rcases se h2 with ⟨rfl, rfl⟩ | ⟨hk, g'⟩
    · cases h4
    · rcases se h1 with ⟨rfl, rfl⟩ | ⟨hj, g⟩
      · rw [hv] at h3
        rcases hc b h3 with z | ⟨_, _, _, z⟩
        · exact I.ob.aw j k _ t b h g' (by rw [hv]; exact z) h4 h5
        · exact z k t g' h4 h5
      · exact I.ob.aw j k s t b g g' (old hj g h3) h4 h5

/-! ### fields -/
def pF (f : Str) (d : Fd) : List (Str × Fd) → List (Str × Fd)
  | [] => [(f, d)]
  | (g, x) :: r => if g = f then (g, d) :: r else (g, x) :: pF f d r
def lF (f : Str) : List (Str × Fd) → Option Fd
  | [] => none
  | (g, x) :: r => if g = f then some x else lF f r
def iF (f : Str) : List (Str × Fd) → Nat
  | [] => 0
  | (g, x) :: r => if g = f then 0 else iF f r + 1
theorem FdsR.look {f : Str} {kvs : List (Str × V)} {fs : List (Str × Fd)} (h : FdsR K F H kvs fs) : (lF f fs = none ∧ kvs.lookup f = none) ∨ ∃ v d, lF f fs = some d ∧ kvs.lookup f = some v ∧ FdR K F H v d ∧ kvs[iF f fs]? = some (f, v) ∧ fs[iF f fs]? = some (f, d) := by
  induction h with
  | nil => exact .inl ⟨rfl, rfl⟩
  | @cons x v d kvs fs r t ih =>
    rw [List.lookup_cons, lF, iF]
    by_cases z : x = f
    · subst z
      simp only [beq_self_eq_true, if_true]
      exact .inr ⟨v, d, rfl, rfl, r, rfl, rfl⟩
    · have z1 : (f == x) = false := beq_eq_false_iff_ne.mpr fun y => z y.symm
      simp only [z1, if_neg z]
      rcases ih with ih | ⟨v', d', h1, h2, h3, h4, h5⟩
      · exact .inl ih
      · exact .inr ⟨v', d', h1, h2, h3, h4, h5⟩
theorem FdsR.kind {kvs : List (Str × V)} {fs : List (Str × Fd)} (h : FdsR K F H kvs fs) : ∀ {j : Nat} {b : Addr}, Nest kvs fs j b → (∃ xs, H b = some (.lst xs)) ∨ ∃ ks, H b = some (.dK ks) := by
  induction h with
  | nil => rintro j b ⟨x, y, fd, h1, _⟩; simp at h1
  | cons r t ih =>
    rintro j b ⟨x, y, fd, h1, h2, h3⟩
    cases j with
    | zero =>
      simp at h1 h2
      obtain ⟨rfl, rfl⟩ := h1
      obtain ⟨rfl, rfl⟩ := h2
      cases r with
      | im _ => cases h3
      | lst z _ => exact .inl ⟨_, z⟩
      | dic z _ => exact .inr ⟨_, z⟩
    | succ j => exact ih ⟨x, y, fd, by simpa using h1, by simpa using h2, h3⟩
theorem FdsR.no_ins {kvs : List (Str × V)} {fs : List (Str × Fd)} (h : FdsR K F H kvs fs) {j : Nat} {b C dx : Addr} {ks : List (Str × V)} (hn : Nest kvs fs j b) (hb : H b = some (.ins C dx ks)) : False := by
  rcases h.kind hn with ⟨xs, z⟩ | ⟨xs, z⟩ <;> (rw [hb] at z; cases z)
theorem FdsR.length {kvs : List (Str × V)} {fs : List (Str × Fd)} (h : FdsR K F H kvs fs) : kvs.length = fs.length := by
  induction h with
  | nil => rfl
  | cons _ _ ih => rw [List.length_cons, List.length_cons, ih]
theorem FdsR.put {f : Str} {v : V} {d : Fd} {kvs : List (Str × V)} {fs : List (Str × Fd)} (h : FdsR K F H kvs fs) (r : FdR K F H v d) : FdsR K F H (L2.putF f v kvs) (pF f d fs) := by
  induction h with
  | nil => exact .cons r .nil
  | @cons x v0 d0 kvs fs r0 t ih =>
    rw [L2.putF, pF]
    by_cases z : x = f
    · rw [if_pos z, if_pos z]; exact .cons r t
    · rw [if_neg z, if_neg z]; exact .cons r0 ih
/-- the own things of the fields, one of them stored anew -/
theorem FdsR.nest {f : Str} {v : V} {d : Fd} {kvs : List (Str × V)} {fs : List (Str × Fd)} (h : FdsR K F H kvs fs) : ∀ {j : Nat} {b : Addr}, Nest (L2.putF f v kvs) (pF f d fs) j b → (j = iF f fs ∧ v = .ref b ∧ d.own = true) ∨ (j ≠ iF f fs ∧ Nest kvs fs j b) := by
  induction h with
  | nil =>
    rintro j b ⟨x, y, fd, h1, h2, h3⟩
    cases j with
    | zero => simp [L2.putF, pF] at h1 h2; obtain ⟨_, rfl⟩ := h1; obtain ⟨_, rfl⟩ := h2; exact .inl ⟨rfl, rfl, h3⟩
    | succ j => simp [L2.putF] at h1
  | @cons x v0 d0 kvs fs r0 t ih =>
    rintro j b ⟨x1, y1, fd, h1, h2, h3⟩
    rw [L2.putF] at h1
    rw [pF] at h2
    rw [iF]
    by_cases z : x = f
    · rw [if_pos z] at h1 h2 ⊢
      cases j with
      | zero =>
        simp at h1 h2
        obtain ⟨_, rfl⟩ := h1; obtain ⟨_, rfl⟩ := h2
        exact .inl ⟨rfl, rfl, h3⟩
      | succ j => exact .inr ⟨by omega, x1, y1, fd, by simpa using h1, by simpa using h2, h3⟩
    · rw [if_neg z] at h1 h2 ⊢
      cases j with
      | zero => exact .inr ⟨by omega, x1, y1, fd, by simpa using h1, by simpa using h2, h3⟩
      | succ j =>
        rcases ih ⟨x1, y1, fd, by simpa using h1, by simpa using h2, h3⟩ with ⟨g1, g2⟩ | ⟨g1, x2, y2, fd2, g2, g3, g4⟩
        · exact .inl ⟨by omega, g2⟩
        · exact .inr ⟨by omega, x2, y2, fd2, by simpa using g2, by simpa using g3, g4⟩
theorem nest_put_nd {f : Str} {v : V} {d : Fd} {kvs : List (Str × V)} {fs : List (Str × Fd)} (h : FdsR K F H kvs fs) (nd : ∀ j k b, Nest kvs fs j b → Nest kvs fs k b → j = k) (hd : ∀ b, v = .ref b → d.own = true → ∀ j, j ≠ iF f fs → ¬ Nest kvs fs j b) :
    ∀ j k b, Nest (L2.putF f v kvs) (pF f d fs) j b → Nest (L2.putF f v kvs) (pF f d fs) k b → j = k := fun j k b h1 h2 => by
  rcases h.nest h1 with ⟨a1, a2, a3⟩ | ⟨a1, a2⟩
  · rcases h.nest h2 with ⟨b1, b2, b3⟩ | ⟨b1, b2⟩
    · rw [a1, b1]
    · exact absurd b2 (hd b a2 a3 k b1)
  · rcases h.nest h2 with ⟨b1, b2, b3⟩ | ⟨b1, b2⟩
    · exact absurd a2 (hd b b2 b3 j a1)
    · exact nd j k b a2 b2
/-- a field is data that stay -/
theorem IV.obSet (I : IV K B F e σ H) {i : Nat} {c f : Str} {fs : List (Str × Fd)} {a C dx : Addr} {kvs : List (Str × V)} {v : V} {d : D} (h : e[i]? = some (.ob c fs)) (hv : σ[i]? = some (some (.ref a))) (ha : H a = some (.ins C dx kvs)) (r : Rp K F v d) :
    IV K B F (e.set i (.ob c (pF f (.im d) fs))) σ (upd H a (.ins C dx (L2.putF f v kvs))) := by
  obtain ⟨a', e1, C', dx', kvs', n, ha', rf, nd⟩ := I.ob.ok i c fs h
  rw [hv] at e1; cases e1
  rw [ha] at ha'; cases ha'
  have rf2 : FdsR K F (upd H a (.ins C dx (L2.putF f v kvs))) kvs fs := rf.go (Same.refl F) fun j b hb => upd_ne fun z => by
    subst z
    exact rf.no_ins hb ha
  refine I.obTurn h hv ⟨c, fs, a, rfl, rfl, .inl rfl⟩ ⟨C, dx, _, n, upd_same, rf2.put (.im r), nest_put_nd rf nd fun _ _ z => nomatch z⟩ ?_
  rintro b ⟨c', fs2, a2, e1, e2, g⟩
  cases e1; cases e2
  refine .inl ⟨c, fs, a, rfl, rfl, ?_⟩
  rcases g with g | ⟨C2, dx2, kvs2, j, g1, g2⟩
  · exact .inl g
  · rw [upd_same] at g1; cases g1
    rcases rf.nest g2 with ⟨_, _, z⟩ | ⟨_, z⟩
    · cases z
    · exact .inr ⟨C, dx, kvs, j, ha, z⟩
def Sl.fd : Sl → Fd
  | .lst ds => .lst ds
  | .dic es => .dic es
  | .im d => .im d
  | _ => .im .non
theorem Ow.fdr {b : Addr} {s : Sl} (o : Ow K F H b s) : FdR K F H (.ref b) s.fd ∧ s.fd.own = true := by
  cases o with
  | lst h r => exact ⟨.lst h r, rfl⟩
  | dic h r => exact ⟨.dic h r, rfl⟩
/-- a field is a list, a dict of its own, made anew -/
theorem IV.obSetO (I : IV K B F e σ H) {i : Nat} {c f : Str} {fs : List (Str × Fd)} {a b C dx : Addr} {kvs : List (Str × V)} {s : Sl} (h : e[i]? = some (.ob c fs)) (hv : σ[i]? = some (some (.ref a))) (ha : H a = some (.ins C dx kvs)) (o : Ow K F H b s) (f1 : F b = none) (f2 : B.G b = none)
    (ne : ∀ (j : Nat) (s' : Sl), e[j]? = some s' → s'.own = true → σ[j]? ≠ some (some (.ref b))) (nc : ¬ IsCell H e σ b) :
    IV K B F (e.set i (.ob c (pF f s.fd fs))) σ (upd H a (.ins C dx (L2.putF f (.ref b) kvs))) := by
  obtain ⟨a', e1, C', dx', kvs', n, ha', rf, nd⟩ := I.ob.ok i c fs h
  rw [hv] at e1; cases e1
  rw [ha] at ha'; cases ha'
  have hba : b ≠ a := fun z => by
    subst z
    cases o with
    | lst z _ => rw [ha] at z; cases z
    | dic z _ => rw [ha] at z; cases z
  have o2 : Ow K F (upd H a (.ins C dx (L2.putF f (.ref b) kvs))) b s := o.mono (Same.refl F) (upd_ne hba)
  have rf2 : FdsR K F (upd H a (.ins C dx (L2.putF f (.ref b) kvs))) kvs fs := rf.go (Same.refl F) fun j b hb => upd_ne fun z => by
    subst z
    exact rf.no_ins hb ha
  have nn : ∀ j, ¬ Nest kvs fs j b := fun j hj => nc ⟨i, _, h, c, fs, a, rfl, hv, .inr ⟨C, dx, kvs, j, ha, hj⟩⟩
  refine I.obTurn h hv ⟨c, fs, a, rfl, rfl, .inl rfl⟩ ⟨C, dx, _, n, upd_same, rf2.put o2.fdr.1, nest_put_nd rf nd fun b' z _ j _ hj => ?_⟩ ?_
  · cases z; exact nn j hj
  rintro b' ⟨c', fs2, a2, e1, e2, g⟩
  cases e1; cases e2
  rcases g with g | ⟨C2, dx2, kvs2, j, g1, g2⟩
  · exact .inl ⟨c, fs, a, rfl, rfl, .inl g⟩
  · rw [upd_same] at g1; cases g1
    rcases rf.nest g2 with ⟨_, z, _⟩ | ⟨_, z⟩
    · cases z
      exact .inr ⟨f1, f2, nc, ne⟩
    · exact .inl ⟨c, fs, a, rfl, rfl, .inr ⟨C, dx, kvs, j, ha, z⟩⟩
theorem FdsR.set {f : Str} {d : Fd} {kvs : List (Str × V)} {fs : List (Str × Fd)} (h : FdsR K F H kvs fs) {v : V} (hl : kvs.lookup f = some v) (r : FdR K F H v d) : FdsR K F H kvs (pF f d fs) := by
  induction h with
  | nil => cases hl
  | @cons x v0 d0 kvs fs r0 t ih =>
    rw [pF]
    rw [List.lookup_cons] at hl
    by_cases z : x = f
    · subst z
      rw [if_pos rfl]
      simp only [beq_self_eq_true] at hl
      cases hl
      exact .cons r t
    · rw [if_neg z]
      have z1 : (f == x) = false := beq_eq_false_iff_ne.mpr fun y => z y.symm
      simp only [z1] at hl
      exact .cons r0 (ih hl)
theorem nest_set {f : Str} {d d0 : Fd} {fs : List (Str × Fd)} {kvs : List (Str × V)} (hl : lF f fs = some d0) (ho : d0.own = true) : ∀ {j : Nat} {b : Addr}, Nest kvs (pF f d fs) j b → Nest kvs fs j b := by
  intro j b ⟨x, y, fd, h1, h2, h3⟩
  have key : ∀ (fs : List (Str × Fd)) (j : Nat) (y : Str) (fd : Fd), lF f fs = some d0 → (pF f d fs)[j]? = some (y, fd) → fd.own = true → ∃ y' fd', fs[j]? = some (y', fd') ∧ fd'.own = true := by
    intro fs
    induction fs with
    | nil => intro j y fd h; cases h
    | cons p r ih =>
      obtain ⟨g, x0⟩ := p
      intro j y fd h h2 h3
      rw [lF] at h
      rw [pF] at h2
      by_cases z : g = f
      · rw [if_pos z] at h h2
        cases h
        cases j with
        | zero => exact ⟨g, d0, rfl, ho⟩
        | succ j => exact ⟨y, fd, by simpa using h2, h3⟩
      · rw [if_neg z] at h h2
        cases j with
        | zero => exact ⟨y, fd, by simpa using h2, h3⟩
        | succ j =>
          obtain ⟨y', fd', g1, g2⟩ := ih j y fd h (by simpa using h2) h3
          exact ⟨y', fd', by simpa using g1, g2⟩
  obtain ⟨y', fd', g1, g2⟩ := key fs j y fd hl h2 h3
  exact ⟨x, y', fd', h1, g1, g2⟩
/-- a field's own list, dict changes -/
theorem IV.obIn (I : IV K B F e σ H) {i : Nat} {c f : Str} {fs : List (Str × Fd)} {a b C dx : Addr} {kvs : List (Str × V)} {d0 : Fd} {s : Sl} {o : HO} (h : e[i]? = some (.ob c fs)) (hv : σ[i]? = some (some (.ref a))) (ha : H a = some (.ins C dx kvs)) (hl : lF f fs = some d0) (ho : d0.own = true)
    (hb : kvs.lookup f = some (.ref b)) (o2 : Ow K F (upd H b o) b s) : IV K B F (e.set i (.ob c (pF f s.fd fs))) σ (upd H b o) := by
  obtain ⟨a', e1, C', dx', kvs', n, ha', rf, nd⟩ := I.ob.ok i c fs h
  rw [hv] at e1; cases e1
  rw [ha] at ha'; cases ha'
  obtain ⟨v1, d1, l1, l2, l3, l4, l5⟩ : ∃ v d, lF f fs = some d ∧ kvs.lookup f = some v ∧ FdR K F H v d ∧ kvs[iF f fs]? = some (f, v) ∧ fs[iF f fs]? = some (f, d) := by
    rcases rf.look (f := f) with ⟨z, _⟩ | z
    · rw [hl] at z; cases z
    · exact z
  rw [hl] at l1; cases l1
  rw [hb] at l2; cases l2
  have nb : Nest kvs fs (iF f fs) b := ⟨f, f, d0, l4, l5, ho⟩
  have hba : a ≠ b := fun z => by subst z; exact rf.no_ins nb ha
  have ha2 : upd H b o a = some (.ins C dx kvs) := by rw [upd_ne hba]; exact ha
  have rf2 : FdsR K F (upd H b o) kvs (pF f s.fd fs) := by
    -- all other own things lie elsewhere
    have gen : ∀ (kvs : List (Str × V)) (fs : List (Str × Fd)), FdsR K F H kvs fs → kvs.lookup f = some (.ref b) → (∀ j b', j ≠ iF f fs → Nest kvs fs j b' → b' ≠ b) → FdsR K F (upd H b o) kvs (pF f s.fd fs) := by
      intro kvs fs r
      induction r with
      | nil => intro z; cases z
      | @cons x v0 d0 kvs fs r0 t ih =>
        intro hl2 hn
        rw [pF]
        rw [List.lookup_cons] at hl2
        by_cases z : x = f
        · subst z
          rw [if_pos rfl]
          simp only [beq_self_eq_true] at hl2
          cases hl2
          refine .cons o2.fdr.1 (t.go (Same.refl F) fun j b' ⟨x1, y1, fd, g1, g2, g3⟩ => upd_ne (hn (j + 1) b' ?_ ⟨x1, y1, fd, by simpa using g1, by simpa using g2, g3⟩))
          rw [iF, if_pos rfl]; omega
        · rw [if_neg z]
          have z1 : (f == x) = false := beq_eq_false_iff_ne.mpr fun y => z y.symm
          simp only [z1] at hl2
          refine .cons ?_ (ih hl2 fun j b' hj ⟨x1, y1, fd, g1, g2, g3⟩ => hn (j + 1) b' (by rw [iF, if_neg z]; omega) ⟨x1, y1, fd, by simpa using g1, by simpa using g2, g3⟩)
          have h0 : ∀ b', Nest ((x, v0) :: kvs) ((x, d0) :: fs) 0 b' → upd H b o b' = H b' := fun b' hb' => upd_ne (hn 0 b' (by rw [iF, if_neg z]; omega) hb')
          cases r0 with
          | im r => exact .im r
          | lst z2 r => exact .lst (by rw [h0 _ ⟨_, _, _, rfl, rfl, rfl⟩]; exact z2) r
          | dic z2 r => exact .dic (by rw [h0 _ ⟨_, _, _, rfl, rfl, rfl⟩]; exact z2) r
    exact gen kvs fs rf hb fun j b' hj hn z => by subst z; exact hj (nd j _ b' hn nb)
  refine I.obTurn h hv ⟨c, fs, a, rfl, rfl, .inr ⟨C, dx, kvs, _, ha, nb⟩⟩ ⟨C, dx, kvs, n, ha2, rf2, fun j k b' h1 h2 => nd j k b' (nest_set hl ho h1) (nest_set hl ho h2)⟩ ?_
  rintro b' ⟨c', fs2, a2, e1, e2, g⟩
  cases e1; cases e2
  refine .inl ⟨c, fs, a, rfl, rfl, ?_⟩
  rcases g with g | ⟨C2, dx2, kvs2, j, g1, g2⟩
  · exact .inl g
  · rw [ha2] at g1; cases g1
    exact .inr ⟨C, dx, kvs, j, ha, nest_set hl ho g2⟩
/-- what is worked out without touching own things -/
theorem IV.pure (I : IV K B F e σ H) : IV K ⟨F, H, H, B.A, B.np, B.k⟩ F (e.map demote) σ H := by
  have sl : ∀ {i : Nat} {s : Sl}, (e.map demote)[i]? = some s → ∃ s0, e[i]? = some s0 ∧ s = demote s0 := fun {i s} h => by
    rw [List.getElem?_map] at h
    obtain ⟨s0, h1, h2⟩ := Option.map_eq_some_iff.mp h
    exact ⟨s0, h1, h2.symm⟩
  refine ⟨I.sf, Same.refl _, Same.refl _, fun b => .inl rfl, fun b z => z, by rw [List.length_map]; exact I.len, fun i s v h1 h2 => ?_, fun i j s t _ h1 _ o1 _ => ?_, I.an, .nil fun i s h1 c fs z => ?_⟩
  · obtain ⟨s0, h0, rfl⟩ := sl h1
    have r := I.sl i s0 v h0 h2
    cases r with
    | un => exact .un
    | im r => exact .im r
    | ow o _ _ _ =>
      unfold demote
      rw [if_pos (Sl.hand_own o.own)]
      exact .un
    | ob => exact .un
  · obtain ⟨s0, h0, rfl⟩ := sl h1
    rw [demote_own] at o1; cases o1
  · obtain ⟨s0, h0, rfl⟩ := sl h1
    exact demote_ob z
theorem IV.unpure (I : IV K B F e σ H) {F' : Hp} {e1 : Sls} {H' : Hp} (I' : IV K ⟨F, H, H, B.A, B.np, B.k⟩ F' e1 σ H') : Same F F' ∧ Same H H' ∧ IV K B F' e σ H' := by
  have sm : Same F F' := I'.g1
  have hh : Same H H' := I'.sg
  have fe : ∀ b, H b ≠ none → F' b = F b := fun b hb => by
    rcases I'.g2 b with z | ⟨_, z, _⟩
    · exact z
    · exact absurd z hb
  have he : ∀ b, H b ≠ none → H' b = H b := fun b hb => by
    cases ho : H b with
    | none => exact absurd ho hb
    | some u => exact hh b u ho
  refine ⟨sm, hh, I'.sf, I.sg.trans hh, I.g1.trans sm, fun b => ?_, fun b z => ?_, I.len, fun i s v h1 h2 => ?_, I.ap, I.an, I.ob.stay sm fun b hb => ?_⟩
  · by_cases hb : H b = none
    · obtain ⟨f1, f2, f3, f4⟩ := I.free (p := b) hb
      exact .inr ⟨f3, f4, f2⟩
    · rw [fe b hb]; exact I.g2 b
  · refine I.g3 b ?_
    cases ho : H b with
    | none => rfl
    | some u => rw [hh b u ho] at z; cases z
  · have r := I.sl i s v h1 h2
    cases r with
    | un => exact .un
    | im r => exact .im (r.mono sm)
    | ow o g1 g2 g3 => exact .ow (o.mono sm (he _ o.some)) (by rw [fe _ o.some]; exact g1) g2 g3
    | ob => exact .ob
  · have h1 := I.ob.there hb
    exact ⟨he b h1, by rw [fe b h1]; exact (I.ob.free hb).1⟩
end
end M

namespace M
open PySem PySem.Spec PyProof.Rows L2

/-! ### own objects: fields read -/
section
variable {K : PySem.W.Frag} {B : Bs} {F : Hp} {e : Sls} {σ : L2.St} {H : Hp}
theorem IV.field (I : IV K B F e σ H) {i : Nat} {c f : Str} {fs : List (Str × Fd)} {d : Fd} (h : e[i]? = some (.ob c fs)) (hl : lF f fs = some d) :
    ∃ a C dx kvs v, σ[i]? = some (some (.ref a)) ∧ PySem.W.nsIn K mainGlobals c = some (some (.ref C)) ∧ H a = some (.ins C dx kvs) ∧ kvs.lookup f = some v ∧ FdR K F H v d ∧ kvs.length = fs.length := by
  obtain ⟨a, hv, C, dx, kvs, n, ha, rf, _⟩ := I.ob.ok i c fs h
  rcases rf.look (f := f) with ⟨z, _⟩ | ⟨v, d', l1, l2, l3, _⟩
  · rw [hl] at z; cases z
  · rw [hl] at l1; cases l1
    exact ⟨a, C, dx, kvs, v, hv, n, ha, l2, l3, rf.length⟩
def Fd.see : Fd → D
  | .im d => d
  | .lst ds => .lst ds
  | .dic es => .dic es
theorem FdR.rpo {v : V} {d : Fd} (h : FdR K F H v d) : RpO K F H v d.see := by
  cases h with
  | im r => exact .rp r
  | lst h r => exact .lst h r
  | dic h r => exact .dic h r
theorem RpO.grow {F' H' : Hp} (sf : Same F F') (sh : Same H H') {v : V} {d : D} (h : RpO K F H v d) : RpO K F' H' v d := by
  cases h with
  | rp r => exact .rp (r.mono sf)
  | lst h r => exact .lst (sh _ _ h) (r.mono sf)
  | dic h r => exact .dic (sh _ _ h) (r.mono sf)
end
def obAt (c : Str) (i : Nat) (e : Sls) : Option (List (Str × Fd)) := match e[i]? with
  | some (.ob c' fs) => if c' = c then some fs else none
  | _ => none
theorem obAt_some {c : Str} {i : Nat} {e : Sls} {fs : List (Str × Fd)} (h : obAt c i e = some fs) : e[i]? = some (.ob c fs) := by
  unfold obAt at h
  split at h
  · rename_i c' fs' he
    split at h
    · rename_i hc; cases h; subst hc; exact he
    · cases h
  · cases h
/-- self.f, data that stay -/
def fFldO (c f : Str) (i : Nat) : FE := fun e => (obAt c i e).bind fun fs => match lF f fs with
  | some (.im d) => some (e, d)
  | _ => none
/-- what is read just now -/
abbrev FL := Sls → Option (Sls × D)
def DL (K : PySem.W.Frag) (np : Nat) (t : TE) (f : FL) : Prop :=
  ∀ (B : Bs) (F : Hp) (e : Sls) (σ : L2.St) (H : Hp) (Q : VK), B.np = np → IV K B F e σ H → ∀ (e' : Sls) (d : D), f e = some (e', d) →
    (∀ (F' : Hp) (v : V) (H' : Hp), Same F F' → IV K B F' e' σ H' → RpO K F' H' v d → Q v H') → t σ H Q
structure JL (X : Cx) (np : Nat) (e : Expr) (t : TE) (f : FL) : Prop where
  pe : PE X e t
  de : DL X.K np t f
def lFld (c f : Str) (i : Nat) : FL := fun e => (obAt c i e).bind fun fs => (lF f fs).bind fun d => some (e, d.see)
def fPure (fe : FE) : FE := fun e => (fe (e.map demote)).bind fun p => some (e, p.2)
/-- an operator, its left side an own thing read just now, its right side without own things -/
def fOpC (g : D → D → Option D) (l : FL) (fe : FE) : FE := fun e => (l e).bind fun p => (fe (p.1.map demote)).bind fun q => (g p.2 q.2).bind fun d => some (p.1, d)
/-- .. its right side an own thing read just now -/
def fOpL (g : D → D → Option D) (fe : FE) (l : FL) : FE := fun e => (fe e).bind fun p => (l p.1).bind fun q => (g p.2 q.2).bind fun d => some (q.1, d)
def fCBL (g : List D → Option D) (l : FL) : FE := fun e => (l e).bind fun p => (g [p.2]).bind fun d => some (p.1, d)
theorem de_pure {K : PySem.W.Frag} {np : Nat} {t : TE} {fe : FE} {B : Bs} {F : Hp} {e : Sls} {σ : L2.St} {H : Hp} {Q : VK} (h : DE K np t fe) (hn : B.np = np) (I : IV K B F e σ H) {e1 : Sls} {d : D} (hf : fe (e.map demote) = some (e1, d))
    (q : ∀ (F' : Hp) (v : V) (H' : Hp), Same F F' → Same H H' → IV K B F' e σ H' → Rp K F' v d → Q v H') : t σ H Q := by
  refine h ⟨F, H, H, B.A, B.np, B.k⟩ F _ σ H Q hn I.pure e1 d hf fun F' v H' s' I' r => ?_
  obtain ⟨s1, s2, I2⟩ := I.unpure I'
  exact q F' v H' s1 s2 I2 r
section
variable {X : Cx} {np : Nat} {K : PySem.W.Frag}
theorem je_fldO {c f x : Str} {i : Nat} {p pos : Pos} (hc : ClsF K c f) (h : PE X (.Name x p) (tVar i)) (hb : attributeBase (.Name x p) f X.env (eval (.Name x p) X.env) = eval (.Name x p) X.env := by rfl) (hK : X.K = K := by rfl) :
    JE X np (.Attribute (.Name x p) f pos) (tFld K (tVar i) f) (fFldO c f i) := by
  subst hK
  refine ⟨pe_fld h hb, fun B F e σ H Q hn I e' d hf q => ?_⟩
  obtain ⟨fs, h1, hf⟩ := bnd hf
  have h1 := obAt_some h1
  split at hf
  · rename_i d' h2
    cases hf
    obtain ⟨a, C, dx, kvs, v, hv, n, ha, hl, r, _⟩ := I.field h1 h2
    obtain ⟨k1, k2⟩ := hc C n
    cases r with
    | im r => exact ⟨.ref a, hv, a, C, dx, kvs, v, rfl, ha, k1, k2, hl, q F v H (Same.refl F) I r⟩
  · cases hf
theorem jl_fld {c f x : Str} {i : Nat} {p pos : Pos} (hc : ClsF K c f) (h : PE X (.Name x p) (tVar i)) (hb : attributeBase (.Name x p) f X.env (eval (.Name x p) X.env) = eval (.Name x p) X.env := by rfl) (hK : X.K = K := by rfl) :
    JL X np (.Attribute (.Name x p) f pos) (tFld K (tVar i) f) (lFld c f i) := by
  subst hK
  refine ⟨pe_fld h hb, fun B F e σ H Q hn I e' d hf q => ?_⟩
  obtain ⟨fs, h1, hf⟩ := bnd hf
  obtain ⟨d', h2, hf⟩ := bnd hf
  cases hf
  obtain ⟨a, C, dx, kvs, v, hv, n, ha, hl, r, _⟩ := I.field (obAt_some h1) h2
  obtain ⟨k1, k2⟩ := hc C n
  exact ⟨.ref a, hv, a, C, dx, kvs, v, rfl, ha, k1, k2, hl, q F v H (Same.refl F) I r.rpo⟩
variable {a b : Expr} {ta tb : TE} {fe : FE} {l : FL} {pos : Pos}
theorem de_opC {K : PySem.W.Frag} {r : R2} {g : D → D → Option D} (hm : OpM K r g) (ha : DL K np ta l) (hb : DE K np tb fe) : DE K np (tOp r ta tb) (fOpC g l fe) := by
  intro B F e σ H Q hn I e' d hf q
  obtain ⟨⟨e1, d1⟩, h1, hf⟩ := bnd hf
  obtain ⟨⟨e2, d2⟩, h2, hf⟩ := bnd hf
  obtain ⟨d3, h3, hf⟩ := bnd hf
  cases hf
  refine ha B F e σ H _ hn I e1 d1 h1 fun F1 v1 H1 s1 I1 r1 => ?_
  refine de_pure hb hn I1 h2 fun F2 v2 H2 s2 t2 I2 r2 => ?_
  exact hm B F2 e1 σ H2 v1 v2 d1 d2 d Q I2 (r1.grow s2 t2) (.rp r2) h3 fun F3 v3 H3 s3 I3 r3 => q F3 v3 H3 (s1.trans (s2.trans s3)) I3 r3
theorem de_opL {K : PySem.W.Frag} {r : R2} {g : D → D → Option D} (hm : OpM K r g) (ha : DE K np ta fe) (hb : DL K np tb l) : DE K np (tOp r ta tb) (fOpL g fe l) := by
  intro B F e σ H Q hn I e' d hf q
  obtain ⟨⟨e1, d1⟩, h1, hf⟩ := bnd hf
  obtain ⟨⟨e2, d2⟩, h2, hf⟩ := bnd hf
  obtain ⟨d3, h3, hf⟩ := bnd hf
  cases hf
  refine ha B F e σ H _ hn I e1 d1 h1 fun F1 v1 H1 s1 I1 r1 => ?_
  refine hb B F1 e1 σ H1 _ hn I1 e2 d2 h2 fun F2 v2 H2 s2 I2 r2 => ?_
  exact hm B F2 e2 σ H2 v1 v2 d1 d2 d Q I2 (.rp (r1.mono s2)) r2 h3 fun F3 v3 H3 s3 I3 r3 => q F3 v3 H3 (s1.trans (s2.trans s3)) I3 r3
section
variable {r : R2} {g : D → D → Option D}
theorem jcmpC {op : CmpOp} (ho : OpR X (compareOp op) r) (hm : OpM X.K r g) (ha : JL X np a ta l) (hb : JE X np b tb fe) (hk : behindInMarks op b = false) : JE X np (.Compare a [op] [b] pos) (tOp r ta tb) (fOpC g l fe) := ⟨pe_cmpR ho ha.pe hb.pe hk, de_opC hm ha.de hb.de⟩
theorem jcmpL {op : CmpOp} (ho : OpR X (compareOp op) r) (hm : OpM X.K r g) (ha : JE X np a ta fe) (hb : JL X np b tb l) (hk : behindInMarks op b = false) : JE X np (.Compare a [op] [b] pos) (tOp r ta tb) (fOpL g fe l) := ⟨pe_cmpR ho ha.pe hb.pe hk, de_opL hm ha.de hb.de⟩
theorem jtcC {op : CmpOp} (ho : OpR X (compareOp op) r) (hm : OpM X.K r g) (ha : JL X np a ta l) (hb : JE X np b tb fe) (hk : behindInMarks op b = false) : JT X np (.Compare a [op] [b] pos) (tTest (tOp r ta tb)) (fTest (fOpC g l fe)) := ⟨pt_cmpR ho ha.pe hb.pe hk, dt_test (de_opC hm ha.de hb.de)⟩
theorem jtcL {op : CmpOp} (ho : OpR X (compareOp op) r) (hm : OpM X.K r g) (ha : JE X np a ta fe) (hb : JL X np b tb l) (hk : behindInMarks op b = false) : JT X np (.Compare a [op] [b] pos) (tTest (tOp r ta tb)) (fTest (fOpL g fe l)) := ⟨pt_cmpR ho ha.pe hb.pe hk, dt_test (de_opL hm ha.de hb.de)⟩
theorem jixC (ho : IxR X r) (hm : OpM X.K r g) (ha : JL X np a ta l) (hb : JE X np b tb fe) (hs : PlainIx b) : JE X np (.Subscript a b pos) (tOp r ta tb) (fOpC g l fe) := ⟨pe_ix ho ha.pe hb.pe hs, de_opC hm ha.de hb.de⟩
end
theorem jcbL {x : Str} {p : Pos} {id : String} {r : List V → Hp → VK → Prop} {g : List D → Option D} (hc : CallR X (.builtin id) r) (hm : CallM X.K r g) (hg : Gl X x) (hx : X.mg x = none) (hv : bootBuiltins x = some (.builtin id)) (ha : JL X np a ta l)
    (hs : starEach [a] X.env = (false, eval a X.env) :: starEach [] X.env := by rfl) (hnm : x ≠ ("__name__" : Str) := by decide) (hdb : (x == ("__debug__" : Str)) = false := by decide) (hpl : (backTo pos (starEach [] X.env)).any (·.1) = false := by rfl) : JE X np (.Call (.Name x p) [a] [] pos) (tCB r (tCons ta tNil)) (fCBL g l) := by
  refine ⟨pe_callB hc hg hx hv (pa_cons ha.pe pa_nil hs) hnm hdb hs hpl, fun B F e σ H Q hn I e' d hf q => ?_⟩
  obtain ⟨⟨e1, d1⟩, h1, hf⟩ := bnd hf
  obtain ⟨d2, h2, hf⟩ := bnd hf
  cases hf
  refine ha.de B F e σ H _ hn I e1 d1 h1 fun F1 v1 H1 s1 I1 r1 => ?_
  exact hm B F1 e1 σ H1 [v1] [d1] d Q I1 (.cons r1 .nil) h2 fun F3 v3 H3 s3 I3 r3 => q F3 v3 H3 (s1.trans s3) I3 r3

/-! ### fields set -/
def obSet (c f : Str) (i : Nat) (d : Fd) (e : Sls) : Option Sls := (obAt c i e).bind fun fs => if fs.length < 900 then some (e.set i (.ob c (pF f d fs))) else none
/-- self.f = e, data that stay -/
def sFldSet (c f : Str) (i : Nat) (fe : FE) : FS := fun e => (fe e).bind fun p => (obSet c f i (.im p.2) p.1).bind fun e2 => some (e2, .nx)
/-- self.f = e, made anew and the object's own -/
def sFldNew (c f : Str) (i : Nat) (fo : Sls → Option (Sls × Sl)) : FS := fun e => (fo e).bind fun p => if p.2.own = true then (obSet c f i p.2.fd p.1).bind fun e2 => some (e2, .nx) else none
theorem obSet_some {c f : Str} {i : Nat} {d : Fd} {e e2 : Sls} (h : obSet c f i d e = some e2) : ∃ fs, e[i]? = some (.ob c fs) ∧ fs.length < 900 ∧ e2 = e.set i (.ob c (pF f d fs)) := by
  obtain ⟨fs, h1, h⟩ := bnd h
  split at h
  · rename_i hz
    cases h
    exact ⟨fs, obAt_some h1, hz, rfl⟩
  · cases h
section
variable {x f c : Str} {i : Nat} {p tpos : Pos} {ex : Expr} {te : TE}
theorem js_fldset (hc : ClsF K c f) (hv : PE X (.Name x p) (tVar i)) (h : JE X np ex te fe) (hs : swapsWith ex (some (.Attribute (.Name x p) f tpos)) pos.line X.env = pure false := by rfl) (hK : X.K = K := by rfl) :
    JS X np (.Assign [.Attribute (.Name x p) f tpos] ex pos) (sFld K (tVar i) te f) (sFldSet c f i fe) := by
  subst hK
  refine ⟨ps_fld hv h.pe hs, fun B F e σ H E hn I e' fl hf q => ?_⟩
  obtain ⟨⟨e1, d⟩, h1, hf⟩ := bnd hf
  obtain ⟨e2, h2, hf⟩ := bnd hf
  cases hf
  obtain ⟨fs, h3, h4, h5⟩ := obSet_some h2
  simp only at h3 h5
  refine h.de B F e σ H _ hn I e1 d h1 fun F1 v1 H1 s1 I1 r1 => ?_
  obtain ⟨a, hv, C, dx, kvs, n, ha, rf, _⟩ := I1.ob.ok i c fs h3
  obtain ⟨k1, k2⟩ := hc C n
  refine ⟨.ref a, hv, a, C, dx, kvs, rfl, ha, k1, k2, by rw [rf.length]; omega, ?_⟩
  subst h5
  exact q F1 σ _ s1 (I1.obSet h3 hv ha r1)
theorem js_fldnew {fo : Sls → Option (Sls × Sl)} (hc : ClsF K c f) (hv : PE X (.Name x p) (tVar i)) (h : JOw X np ex te fo) (hs : swapsWith ex (some (.Attribute (.Name x p) f tpos)) pos.line X.env = pure false := by rfl) (hK : X.K = K := by rfl) :
    JS X np (.Assign [.Attribute (.Name x p) f tpos] ex pos) (sFld K (tVar i) te f) (sFldNew c f i fo) := by
  subst hK
  refine ⟨ps_fld hv h.pe hs, fun B F e σ H E hn I e' fl hf q => ?_⟩
  obtain ⟨⟨e1, s⟩, h1, hf⟩ := bnd hf
  simp only at hf
  split at hf
  · rename_i ho
    obtain ⟨e2, h2, hf⟩ := bnd hf
    cases hf
    obtain ⟨fs, h3, h4, h5⟩ := obSet_some h2
    refine h.de B F e σ H _ hn I e1 s h1 fun F1 b H1 s1 I1 o f1 f2 f3 ne nc => ?_
    obtain ⟨a, hv, C, dx, kvs, n, ha, rf, _⟩ := I1.ob.ok i c fs h3
    obtain ⟨k1, k2⟩ := hc C n
    refine ⟨.ref a, hv, a, C, dx, kvs, rfl, ha, k1, k2, by rw [rf.length]; omega, ?_⟩
    subst h5
    exact q F1 σ _ s1 (I1.obSetO h3 hv ha o f1 f2 ne nc)
  · cases hf
/-- self.f += k -/
def sFldAugC (c f : Str) (i : Nat) (k : Int) : FS := fun e => (obAt c i e).bind fun fs => match lF f fs with
  | some (.im (.int j)) => (obSet c f i (.im (.int (j + k))) e).bind fun e2 => some (e2, .nx)
  | _ => none
theorem js_fldaug {k : Int} {kd : Nat} {kpos : Pos} (hc : ClsF K c f) (hv : PE X (.Name x p) (tVar i)) (hK : X.K = K := by rfl) :
    JS X np (.AugAssign (.Attribute (.Name x p) f tpos) .Add (.Constant (.int k) kd kpos) pos) (sFldAug K (tVar i) (tC (.int k)) L2.rAdd f) (sFldAugC c f i k) := by
  subst hK
  refine ⟨ps_fldaug hv pe_int in_add, fun B F e σ H E hn I e' fl hf q => ?_⟩
  obtain ⟨fs, h1, hf⟩ := bnd hf
  have h1 := obAt_some h1
  split at hf
  · rename_i j h2
    obtain ⟨e2, h3, hf⟩ := bnd hf
    cases hf
    obtain ⟨fs', h4, h5, h6⟩ := obSet_some h3
    rw [h1] at h4; cases h4
    obtain ⟨a, C, dx, kvs, v, hv, n, ha, hl, r, le⟩ := I.field h1 h2
    obtain ⟨k1, k2⟩ := hc C n
    cases r with
    | im r =>
      cases r
      refine ⟨.ref a, hv, a, C, dx, kvs, _, rfl, ha, k1, k2, hl, ?_⟩
      refine ⟨j, k, rfl, rfl, dx, kvs, ha, by rw [le]; omega, ?_⟩
      subst h6
      exact q F σ _ (Same.refl F) (I.obSet h1 hv ha (.int _))
  · cases hf
end
end
end M

namespace M
open PySem PySem.Spec PyProof.Rows L2

/-! ### own objects: a field's own list, dict -/
def fOw : Fd → Sl
  | .im _ => .un
  | .lst ds => .lst ds
  | .dic es => .dic es
theorem fOw_fd {d : Fd} (h : d.own = true) : (fOw d).own = true := by cases d <;> first | rfl | cases h
theorem FdR.ow {K : PySem.W.Frag} {F H : Hp} {v : V} {d : Fd} (h : FdR K F H v d) (ho : d.own = true) : ∃ b, v = .ref b ∧ Ow K F H b (fOw d) := by
  cases h with
  | im _ => cases ho
  | lst h r => exact ⟨_, rfl, .lst h r⟩
  | dic h r => exact ⟨_, rfl, .dic h r⟩
/-- self.f.m(args), the arguments without own things -/
def fBmF (T : String) (c f : Str) (i : Nat) (g : Sl → List D → Option (Sl × D)) (fs : FEs) : FE := fun e => (obAt c i e).bind fun os => match lF f os with
  | some d => if (fOw d).tyn = T ∧ d.own = true then (fs (e.map demote)).bind fun p => (g (fOw d) p.2).bind fun q => if q.1.own = true then some (e.set i (.ob c (pF f q.1.fd os)), q.2) else none else none
  | none => none
theorem de_pures {K : PySem.W.Frag} {np n : Nat} {t : TA} {fs : FEs} {B : Bs} {F : Hp} {e : Sls} {σ : L2.St} {H : Hp} {Q : List V → Hp → Prop} (h : DEs K np n t fs) (hn : B.np = np) (I : IV K B F e σ H) {e1 : Sls} {ds : List D} (hf : fs (e.map demote) = some (e1, ds))
    (q : ∀ (F' : Hp) (vs : List V) (H' : Hp), Same F F' → Same H H' → IV K B F' e σ H' → Rps K F' vs ds → vs.length = n → Q vs H') : t σ H Q := by
  refine h ⟨F, H, H, B.A, B.np, B.k⟩ F _ σ H Q hn I.pure e1 ds hf fun F' vs H' s' I' r l => ?_
  obtain ⟨s1, s2, I2⟩ := I.unpure I'
  exact q F' vs H' s1 s2 I2 r l
theorem fdo {s : Sl} (h : s.own = true) : fOw s.fd = s := by cases s <;> first | rfl | cases h
theorem de_bmF {K : PySem.W.Frag} {np n : Nat} {T : String} {c f : Str} {i : Nat} {r : V → List V → Hp → VK → Prop} {g : Sl → List D → Option (Sl × D)} {t : TA} {fs : FEs} (hc : ClsF K c f) (hm : OwM K r g) (h : DEs K np n t fs) : DE K np (tBM K T r (tFld K (tVar i) f) t) (fBmF T c f i g fs) := by
  intro B F e σ H Q hn I e' d hf q
  obtain ⟨os, h1, hf⟩ := bnd hf
  have h1 := obAt_some h1
  cases h2 : lF f os with
  | none => rw [h2] at hf; cases hf
  | some d0 =>
    have hg : (if (fOw d0).tyn = T ∧ d0.own = true then (fs (e.map demote)).bind fun p => (g (fOw d0) p.2).bind fun q => if q.1.own = true then some (e.set i (.ob c (pF f q.1.fd os)), q.2) else none else none) = some (e', d) := by
      rw [h2] at hf; exact hf
    by_cases ho : (fOw d0).tyn = T ∧ d0.own = true
    · rw [if_pos ho] at hg
      obtain ⟨hT, ho⟩ := ho
      subst hT
      obtain ⟨⟨e1, ds⟩, h3, hg2⟩ := bnd hg
      obtain ⟨⟨s', d'⟩, h4, hg3⟩ := bnd hg2
      simp only at hg3
      by_cases hs' : s'.own = true
      · rw [if_pos hs'] at hg3
        cases hg3
        obtain ⟨a, C, dx, kvs, v, hv, nC, ha, hl, rf, _⟩ := I.field h1 h2
        obtain ⟨b, rfl, ob⟩ := rf.ow ho
        obtain ⟨k1, k2⟩ := hc C nC
        refine ⟨.ref a, hv, a, C, dx, kvs, _, rfl, ha, k1, k2, hl, tyV_own ob, ?_⟩
        refine de_pures h hn I h3 fun F1 vs H1 s1 t1 I1 r1 _ => ?_
        have ha1 : H1 a = some (.ins C dx kvs) := t1 _ _ ha
        have ob1 : Ow K F1 H1 b (fOw d0) := ob.mono s1 (by
          cases hb : H b with
          | none => exact absurd hb ob.some
          | some u => rw [t1 _ _ hb])
        refine hm F1 H1 b (fOw d0) s' vs ds _ Q I1.sf ob1 r1 h4 fun o v ow rv => ?_
        exact q F1 v _ s1 (I1.obIn h1 hv ha1 h2 ho hl ow) rv
      · rw [if_neg hs'] at hg3; cases hg3
    · rw [if_neg ho] at hg; cases hg
/-- self.f[k] = v, the key without own things -/
def sDPutF (c f : Str) (i : Nat) (fe ge : FE) : FS := fun e => (fe e).bind fun p => (obAt c i p.1).bind fun os => match lF f os with
  | some (.dic es) => (ge (p.1.map demote)).bind fun q => q.2.key.bind fun k => if es.length < sizeLine then some (p.1.set i (.ob c (pF f (.dic (putG es k p.2)) os)), .nx) else none
  | _ => none
theorem ow_rApp {K : PySem.W.Frag} : OwM K rAppend (fun s ds => match s, ds with
    | .lst xs, [d] => if xs.length < sizeLine then some (.lst (xs ++ [d]), .non) else none
    | _, _ => none) := by
  intro F H a s s' xs ds d Q sf o r hf q
  simp only at hf
  split at hf
  · split at hf
    · rename_i hz
      cases hf
      obtain ⟨x, rfl, rx⟩ : ∃ x, xs = [x] ∧ Rp K F x _ := by cases r with | cons r t => cases t; exact ⟨_, rfl, r⟩
      cases o with
      | lst h1 h2 =>
        exact ⟨a, _, x, rfl, rfl, h1, by rw [h2.length]; exact hz, q _ _ (.lst upd_same (h2.append (.cons rx .nil))) .non⟩
    · cases hf
  · cases hf
def gAppend : Sl → List D → Option (Sl × D) := fun s ds => match s, ds with
    | .lst xs, [d] => if xs.length < sizeLine then some (.lst (xs ++ [d]), .non) else none
    | _, _ => none
section
variable {X : Cx} {np : Nat} {K : PySem.W.Frag} {c f x : Str} {i : Nat} {p tpos apos cpos pos : Pos} {ex ix : Expr} {te ti : TE} {fe fi : FE}
theorem jdputF (hc : ClsF K c f) (hu : X.A.units + 200 < cLine) (h : JE X np ex te fe) (hv : PE X (.Name x p) (tVar i)) (hi : JE X np ix ti fi) (hb : attributeBase (.Name x p) f X.env (eval (.Name x p) X.env) = eval (.Name x p) X.env := by rfl)
    (hs : swapsWith ex (some (.Subscript (.Attribute (.Name x p) f apos) ix tpos)) pos.line X.env = pure false := by rfl) (hK : X.K = K := by rfl) :
    JS X np (.Assign [.Subscript (.Attribute (.Name x p) f apos) ix tpos] ex pos) (L2.sDPut (tFld K (tVar i) f) ti te) (sDPutF c f i fe fi) := by
  subst hK
  refine ⟨ps_dput (by omega) (pe_fld hv hb) hi.pe h.pe hs, fun B F e σ H E hn I e' fl hf q => ?_⟩
  obtain ⟨⟨e1, d⟩, h1, hf⟩ := bnd hf
  obtain ⟨os, h2, hf⟩ := bnd hf
  have h2 := obAt_some h2
  simp only at hf
  split at hf
  · rename_i es h3
    obtain ⟨⟨e2, kd⟩, h4, hf⟩ := bnd hf
    obtain ⟨k, h5, hf⟩ := bnd hf
    split at hf
    · rename_i hsz
      cases hf
      refine h.de B F e σ H _ hn I e1 d h1 fun F1 v1 H1 s1 I1 r1 => ?_
      obtain ⟨a, C, dx, kvs, v, hv, nC, ha, hl, rf, _⟩ := I1.field h2 h3
      cases rf with
      | @dic b ks _ hb rk =>
        obtain ⟨k1, k2⟩ := hc C nC
        refine ⟨.ref a, hv, a, C, dx, kvs, _, rfl, ha, k1, k2, hl, ?_⟩
        refine de_pure hi.de hn I1 h4 fun F2 v2 H2 s2 t2 I2 r2 => ?_
        have ek := key_rpo (H := H2) (.rp r2) h5
        subst ek
        have rk2 := rk.mono s2
        refine ⟨b, _, rfl, DPut.k (t2 _ _ hb) (by rw [rk2.length]; exact hsz), ?_⟩
        rw [putG_put]
        exact q F2 _ _ (s1.trans s2) (I2.obIn (s := .dic (putG es k d)) h2 hv (t2 _ _ ha) h3 rfl hl (.dic upd_same (put_rpk (r1.mono s2) rk2)))
    · cases hf
  · cases hf
theorem jappendF (hc : ClsF K c f) (hv : PE X (.Name x p) (tVar i)) (h : JE X np ex te fe) (hb : attributeBase (.Name x p) f X.env (eval (.Name x p) X.env) = eval (.Name x p) X.env := by rfl)
    (hs : starEach [ex] X.env = (false, eval ex X.env) :: starEach [] X.env := by rfl) (hbase : attributeBase (.Attribute (.Name x p) f tpos) "append" X.env (eval (.Attribute (.Name x p) f tpos) X.env) = eval (.Attribute (.Name x p) f tpos) X.env := by rfl)
    (hfew : ((backTo cpos (starEach (ex :: []) X.env)).all (fun x => !x.1) && (backToKw cpos (keywordEach [] X.env)).all (fun x => x.1.isSome)
      && decide ((ex :: []).length + ([] : List Keyword).length + (if ([] : List Keyword).isEmpty then 0 else 1) < 30)) = true := by rfl)
    (hline : (apos.endLine == cpos.line) = true := by rfl) (hplain : (backTo cpos (starEach [] X.env)).any (·.1) = false := by rfl) (hK : X.K = K := by rfl) :
    JE X np (.Call (.Attribute (.Attribute (.Name x p) f tpos) "append" apos) [ex] [] cpos) (tBM K "list" rAppend (tFld K (tVar i) f) (tCons te tNil)) (fBmF "list" c f i gAppend (fCons fe fNil)) := by
  subst hK
  exact ⟨pe_bm PySem.F.plainAttrs_list PySem.F.slot_list_append PySem.F.type_list_append mt_append (pe_fld hv hb) (pa_cons h.pe pa_nil hs) hbase hfew hline hs hplain, de_bmF hc ow_rApp (jes_cons h jes_nil hs).de⟩
theorem jpopF (hc : ClsF K c f) (hv : PE X (.Name x p) (tVar i)) (hb : attributeBase (.Name x p) f X.env (eval (.Name x p) X.env) = eval (.Name x p) X.env := by rfl) (hbase : attributeBase (.Attribute (.Name x p) f tpos) "pop" X.env (eval (.Attribute (.Name x p) f tpos) X.env) = eval (.Attribute (.Name x p) f tpos) X.env := by rfl)
    (hline : (apos.endLine == cpos.line) = true := by rfl) (hK : X.K = K := by rfl) :
    JE X np (.Call (.Attribute (.Attribute (.Name x p) f tpos) "pop" apos) [] [] cpos) (tBM0 K "list" rPop (tFld K (tVar i) f)) (fBmF "list" c f i gPop fNil) := by
  subst hK
  refine ⟨pe_bm0 PySem.F.plainAttrs_list PySem.F.slot_list_pop PySem.F.type_list_pop mt_pop (pe_fld hv hb) hbase hline, ?_⟩
  intro B F e σ H Q hn I e' d hf q
  exact de_bmF (t := tNil) hc ow_pop (jes_nil (X := X)).de B F e σ H Q hn I e' d hf q
end

/-! ### methods of own objects -/
def fMethO (c m : Str) (mir : FC) (i : Nat) (k : FA) : FE := fun e => (obAt c i e).bind fun fs => if lF m fs = none then (k e).bind fun q => (fCall2 mir q.1 (.ow i :: q.2)).bind fun r => r.2.see.bind fun d' => some (r.1, d') else none
theorem de_methO {K : PySem.W.Frag} {np n : Nat} {c m : Str} {C : Addr} {mir : FC} {i : Nat} {t : TA} {fa : FA} {E : XK} (hC : PySem.W.nsIn K mainGlobals c = some (some (.ref C))) (h : DA K np t fa) (hlen : ∀ es r, mir es = some r → es.length = n) :
    DE K np (tMeth C m (spM K n mir) [] E (tVar i) t) (fMethO c m mir i fa) := by
  intro B F e σ H Q hn I e' d hf q
  obtain ⟨fs, h1, hf⟩ := bnd hf
  have h1 := obAt_some h1
  split at hf
  · rename_i el
    obtain ⟨⟨e2, as⟩, h4, hf⟩ := bnd hf
    obtain ⟨⟨e3, s3⟩, h5, hf⟩ := bnd hf
    obtain ⟨d', h6, hf⟩ := bnd hf
    cases hf
    obtain ⟨a, hv, C', dx, kvs, n', ha, rf, _⟩ := I.ob.ok i c fs h1
    rw [hC] at n'; cases n'
    refine ⟨.ref a, hv, a, dx, kvs, rfl, ha, ?_, h B F e σ H _ hn I e2 as h4 fun F2 vs H2 s2 I2 r2 => ?_⟩
    · rcases rf.look (f := m) with ⟨_, z⟩ | ⟨v, d2, z1, _⟩
      · exact z
      · rw [z1] at el; cases el
    rw [List.append_nil]
    unfold fCall2 at h5
    split at h5
    · rename_i hnd
      obtain ⟨es2, h7, h5⟩ := bnd h5
      obtain ⟨⟨es', d2⟩, h8, h5⟩ := bnd h5
      cases h5
      refine call_core2 (fun {es r} h => hlen es r h) I2 (.cons (.ow hv) r2) hnd h7 h8 fun F' v H' sm I' rv ne nc => ?_
      cases rv with
      | im r => cases h6; exact q F' v H' (s2.trans sm) I' r
      | ow o f g b =>
        obtain ⟨F3, s3, I3, r3⟩ := I'.freezeNew o f g b h6 (ne _ rfl o.own) (nc _ rfl o.own)
        exact q F3 _ H' ((s2.trans sm).trans s3) I3 r3
    · cases h5
  · cases hf
section
variable {X : Cx} {np : Nat}
theorem jmethO {K : PySem.W.Frag} {n k : Nat} {c m x : Str} {i : Nat} {p : Pos} {ps : List Str} {mir : FC} {pos apos : Pos} {e : Expr} {es : List Expr} {t : TA} {fa : FA} {pl : Sem Bool} (G : MethOk X.prog X.w K X.mg X.base c m ps k n mir)
    (hr : RoomT k X.A) (ho : PE X (.Name x p) (tVar i)) (ha : JA X np (e :: es) t fa)
    (hst : starEach (e :: es) X.env = (false, eval e X.env) :: starEach es X.env := by rfl) (hpl : (backTo pos (starEach es X.env)).any (·.1) = false := by rfl)
    (ht : eval (.Call (.Attribute (.Name x p) m apos) (e :: es) [] pos) X.env = (do
      let ov ← eval (.Name x p) X.env
      standAt apos.atName
      let (f, first) ← holding [ov] (getMethod ov m pl)
      callWith pos f first (backTo pos (starEach (e :: es) X.env)) (backToKw pos (keywordEach [] X.env))) := by rfl) (hK : X.K = K := by rfl) :
    JE X np (.Call (.Attribute (.Name x p) m apos) (e :: es) [] pos) (tMethX K c m (spM K n mir) (tVar i) t) (fMethO c m mir i fa) := by
  subst hK
  obtain ⟨C, f, fd, h1, h2, h3, h4, h5, h6⟩ := G
  have p := pe_methT (pl := pl) (E := E0) ho h2 h3 h4 hr h5.b pass0 ha.pa hst hpl ht
  refine ⟨⟨fun pins s σ H Q I h => ?_⟩, fun B F e σ H Q hn I e' d hf q => ?_⟩
  · obtain ⟨C', n', h⟩ := h
    rw [h1] at n'; cases n'
    exact p.run pins s σ H Q I h
  · exact ⟨C, h1, de_methO h1 ha.de h6 B F e σ H Q hn I e' d hf q⟩
theorem jmethO0 {K : PySem.W.Frag} {n k : Nat} {c m x : Str} {i : Nat} {p : Pos} {ps : List Str} {mir : FC} {pos apos : Pos} {pl : Sem Bool} (G : MethOk X.prog X.w K X.mg X.base c m ps k n mir)
    (hr : RoomT k X.A) (ho : PE X (.Name x p) (tVar i))
    (ht : eval (.Call (.Attribute (.Name x p) m apos) [] [] pos) X.env = (do
      let ov ← eval (.Name x p) X.env
      standAt apos.atName
      let (f, first) ← holding [ov] (getMethod ov m pl)
      callWith pos f first (backTo pos (starEach [] X.env)) (backToKw pos (keywordEach [] X.env))) := by rfl) (hK : X.K = K := by rfl) :
    JE X np (.Call (.Attribute (.Name x p) m apos) [] [] pos) (tMethX K c m (spM K n mir) (tVar i) tNil) (fMethO c m mir i aNil) := by
  subst hK
  obtain ⟨C, f, fd, h1, h2, h3, h4, h5, h6⟩ := G
  have p := pe_methT0 (pl := pl) (E := E0) ho h2 h3 h4 hr h5.b pass0 ht
  refine ⟨⟨fun pins s σ H Q I h => ?_⟩, fun B F e σ H Q hn I e' d hf q => ?_⟩
  · obtain ⟨C', n', h⟩ := h
    rw [h1] at n'; cases n'
    exact p.run pins s σ H Q I h
  · exact ⟨C, h1, de_methO h1 (ja_nil (X := X)).de h6 B F e σ H Q hn I e' d hf q⟩
end
end M

namespace M
open PySem PySem.Spec PyProof.Rows L2

/-! ### own objects: made -/
section
variable {K : PySem.W.Frag} {B : Bs} {F : Hp} {e : Sls} {σ : L2.St} {H : Hp}
theorem IV.extOb (I : IV K B F e σ H) {c : Str} {a C dx : Addr} (n : PySem.W.nsIn K mainGlobals c = some (some (.ref C))) (ha : H a = some (.ins C dx [])) (fa : F a = none) (ga : B.G a = none) (ba : B.H a = none)
    (ne : ∀ (j : Nat) (s' : Sl), e[j]? = some s' → s'.own = true → σ[j]? ≠ some (some (.ref a))) (nc : ¬ IsCell H e σ a) : IV K B F (e ++ [.ob c []]) (σ ++ [some (.ref a)]) H := by
  have sp : ∀ {i : Nat} {t : Sl}, (e ++ [Sl.ob c []])[i]? = some t → (i < e.length ∧ e[i]? = some t) ∨ (i = e.length ∧ t = .ob c []) := fun {i t} h => by
    by_cases z : i < e.length
    · rw [List.getElem?_append_left z] at h; exact .inl ⟨z, h⟩
    · rw [List.getElem?_append_right (by omega)] at h
      have : i - e.length = 0 := by
        rcases Nat.eq_zero_or_pos (i - e.length) with y | y
        · exact y
        · rw [List.getElem?_eq_none (by rw [List.length_cons, List.length_nil]; omega)] at h; cases h
      rw [this] at h
      cases h
      exact .inr ⟨by omega, rfl⟩
  have sl : ∀ {i : Nat}, i < e.length → (σ ++ [some (V.ref a)])[i]? = σ[i]? := fun {i} h => List.getElem?_append_left (by rw [← I.len]; exact h)
  have sr : (σ ++ [some (V.ref a)])[e.length]? = some (some (.ref a)) := by
    rw [List.getElem?_append_right (by rw [I.len]; exact Nat.le_refl _), I.len, Nat.sub_self]; rfl
  have lastC : ∀ {b : Addr}, Cell H (some (some (V.ref a))) (.ob c []) b → b = a := fun {b} h => by
    obtain ⟨c', fs, a', e1, e2, h⟩ := h
    cases e1; cases e2
    rcases h with h | ⟨_, _, _, j, _, x, y, fd, _, h2, _⟩
    · exact h
    · simp at h2
  refine ⟨I.sf, I.sg, I.g1, I.g2, I.g3, by rw [List.length_append, List.length_append, I.len]; rfl, fun i t v h1 h2 => ?_, fun i j t u hij h1 h2 o1 o2 => ?_, fun i v hi hv => ?_,
    ⟨fun i c' fs h => ?_, fun i s b h1 h2 => ?_, fun i j s t b hij h1 h2 h3 h4 => ?_, fun i c' fs a' h1 h2 => ?_, fun i j s t b h1 h2 h3 h4 h5 => ?_⟩⟩
  · rcases sp h1 with ⟨z, h⟩ | ⟨rfl, rfl⟩
    · rw [sl z] at h2; exact I.sl i t v h h2
    · exact .ob
  · rcases sp h1 with ⟨z, h⟩ | ⟨rfl, rfl⟩
    · rcases sp h2 with ⟨z2, h'⟩ | ⟨rfl, rfl⟩
      · rw [sl z, sl z2]; exact I.ap i j t u hij h h' o1 o2
      · cases o2
    · cases o1
  · have h := I.an i v hi hv
    rw [sl (by rw [I.len]; exact (List.getElem?_eq_some_iff.mp h).1)]
    exact h
  · rcases sp h with ⟨z, h⟩ | ⟨rfl, z⟩
    · rw [sl z]; exact I.ob.ok i c' fs h
    · cases z
      exact ⟨a, sr, C, dx, [], n, ha, .nil, fun j k b ⟨x, y, fd, h1, _⟩ => by simp at h1⟩
  · rcases sp h1 with ⟨z, h⟩ | ⟨rfl, rfl⟩
    · rw [sl z] at h2; exact I.ob.fr i s b h h2
    · rw [sr] at h2
      rw [lastC h2]; exact ⟨fa, ga⟩
  · rcases sp h1 with ⟨z, h⟩ | ⟨rfl, rfl⟩
    · rw [sl z] at h3
      rcases sp h2 with ⟨z2, h'⟩ | ⟨rfl, rfl⟩
      · rw [sl z2] at h4; exact I.ob.ap i j s t b hij h h' h3 h4
      · rw [sr] at h4
        rw [lastC h4] at h3
        exact nc ⟨i, s, h, h3⟩
    · rcases sp h2 with ⟨z2, h'⟩ | ⟨rfl, rfl⟩
      · rw [sr] at h3
        rw [sl z2] at h4
        rw [lastC h3] at h4
        exact nc ⟨j, t, h', h4⟩
      · exact hij rfl
  · rcases sp h1 with ⟨z, h⟩ | ⟨rfl, z⟩
    · rw [sl z] at h2; exact I.ob.tp i c' fs a' h h2
    · rw [sr] at h2; cases h2; exact .inr ba
  · rcases sp h2 with ⟨z2, h'⟩ | ⟨rfl, rfl⟩
    · rw [sl z2] at h5
      rcases sp h1 with ⟨z, h⟩ | ⟨rfl, rfl⟩
      · rw [sl z] at h3; exact I.ob.aw i j s t b h h' h3 h4 h5
      · rw [sr] at h3
        rw [lastC h3] at h5
        exact ne j t h' h4 h5
    · cases h4
/-- the last slot's thing goes into a slot -/
theorem IV.moveLast (I0 : IV K B F e σ H) {e2 : Sls} {s : Sl} {w : Option V} {F' H' : Hp} (I : IV K B F' (e2 ++ [s]) (σ ++ [w]) H') {i : Nat} (hi : B.np ≤ i) (hl : i < e2.length) : IV K B F' (e2.set i s) (σ.set i w) H' := by
  have le : e2.length = σ.length := by
    have := I.len
    rw [List.length_append, List.length_append] at this
    simpa using this
  have hnp : B.np ≤ e2.length := Nat.le_trans hi (Nat.le_of_lt hl)
  -- where a slot of the new list stood
  have sp : ∀ {j : Nat} {t : Sl}, (e2.set i s)[j]? = some t → (e2 ++ [s])[if j = i then e2.length else j]? = some t ∧ (σ.set i w)[j]? = (σ ++ [w])[if j = i then e2.length else j]? ∧ j < e2.length := fun {j t} h => by
    have hj : j < e2.length := by
      have := (List.getElem?_eq_some_iff.mp h).1
      rw [List.length_set] at this; exact this
    by_cases z : j = i
    · subst z
      rw [if_pos rfl]
      rw [List.getElem?_set_self hl] at h
      cases h
      refine ⟨by simp, ?_, hj⟩
      rw [List.getElem?_set_self (by rw [← le]; exact hl), List.getElem?_append_right (by rw [le]; exact Nat.le_refl _), le, Nat.sub_self]
      rfl
    · rw [if_neg z]
      have z' : ¬ i = j := fun y => z y.symm
      rw [List.getElem?_set_ne z'] at h ⊢
      exact ⟨by rw [List.getElem?_append_left hj]; exact h, by rw [List.getElem?_append_left (by rw [← le]; exact hj)], hj⟩
  have inj : ∀ {j k : Nat}, j < e2.length → k < e2.length → (if j = i then e2.length else j) = (if k = i then e2.length else k) → j = k := fun {j k} h1 h2 h => by
    split at h <;> split at h <;> omega
  have anc : ∀ {j : Nat}, j < e2.length → ((if j = i then e2.length else j) < B.np - B.k ↔ j < B.np - B.k) := fun {j} h => by
    split <;> constructor <;> intro q <;> omega
  refine ⟨I.sf, I.sg, I.g1, I.g2, I.g3, by rw [List.length_set, List.length_set, le], fun j t v h1 h2 => ?_, fun j k t u hjk h1 h2 o1 o2 => ?_, fun j v hj hv => ?_,
    ⟨fun j c' fs h => ?_, fun j t b h1 h2 => ?_, fun j k t u b hjk h1 h2 h3 h4 => ?_, fun j c' fs a' h1 h2 => ?_, fun j k t u b h1 h2 h3 h4 h5 => ?_⟩⟩
  · obtain ⟨g1, g2, g3⟩ := sp h1
    rw [g2] at h2
    have r := I.sl _ t v g1 h2
    cases r with
    | un => exact .un
    | im r => exact .im r
    | ow r f1 f2 f3 => exact .ow r f1 f2 fun y => f3 (by
        have y' : ¬ j < B.np - B.k := of_decide_eq_false y
        simp only [decide_eq_false_iff_not]
        exact fun q => y' ((anc g3).mp q))
    | ob => exact .ob
  · obtain ⟨g1, g2, g3⟩ := sp h1
    obtain ⟨k1, k2, k3⟩ := sp h2
    rw [g2, k2]
    exact I.ap _ _ t u (fun z => hjk (inj g3 k3 z)) g1 k1 o1 o2
  · rw [List.getElem?_set_ne (by omega)]
    have := I.an j v hj hv
    rw [List.getElem?_append_left (by rw [← le]; omega)] at this
    exact this
  · obtain ⟨g1, g2, g3⟩ := sp h
    rw [g2]; exact I.ob.ok _ c' fs g1
  · obtain ⟨g1, g2, g3⟩ := sp h1
    rw [g2] at h2; exact I.ob.fr _ t b g1 h2
  · obtain ⟨g1, g2, g3⟩ := sp h1
    obtain ⟨k1, k2, k3⟩ := sp h2
    rw [g2] at h3; rw [k2] at h4
    exact I.ob.ap _ _ t u b (fun z => hjk (inj g3 k3 z)) g1 k1 h3 h4
  · obtain ⟨g1, g2, g3⟩ := sp h1
    rw [g2] at h2
    rcases I.ob.tp _ c' fs a' g1 h2 with z | z
    · exact .inl ((anc g3).mp z)
    · exact .inr z
  · obtain ⟨g1, g2, g3⟩ := sp h1
    obtain ⟨k1, k2, k3⟩ := sp h2
    rw [g2] at h3; rw [k2] at h5
    exact I.ob.aw _ _ t u b g1 k1 h3 h4 h5
end
def MkO (P : Program) (w : World) (K : PySem.W.Frag) (mg : Str → Option Value) (base : Heap) (c : Str) (ps : List Str) (k n : Nat) (mir : FC) : Prop :=
  ∃ (C f : Addr) (fd : FuncData), PySem.W.nsIn K mainGlobals c = some (some (.ref C)) ∧ mg c = some (.ref C) ∧ Mk K C f ∧ FnT P w K mg base k f fd ps (spM K n mir) ∧ BindsA fd ps ∧ (∀ es r, mir es = some r → es.length = n)
theorem MkO.level {P : Program} {w : World} {K : PySem.W.Frag} {mg : Str → Option Value} {base : Heap} {c : Str} {ps : List Str} {k k' n : Nat} {m : FC} (h : MkO P w K mg base c ps k n m) (hk : k ≤ k') : MkO P w K mg base c ps k' n m := by
  obtain ⟨C, f, fd, h1, h2, h3, h4, h5, h6⟩ := h
  exact ⟨C, f, fd, h1, h2, h3, h4.mono hk, h5, h6⟩
theorem isrc_okO {P : Program} {w : World} {K : PySem.W.Frag} {mg : Str → Option Value} {base : Heap} {c : Str} {st : Stmt} {ps N : List Str} {k n np : Nat} {t : TS} {fb : FS} {mir : FC} (S : ISrc K mg c st ps) (sc : FnScope N ps (defScope st)) (hn : ps.length = n) (hN : n ≤ N.length)
    (hb : ∀ (q : Str) (f : Addr) (cdv : Value) (A : Around) (outer : List PySem.Env) (s : Shared) (H : Hp) (E : XK), RoomT k (A.deeper (envOfC q (defScope st) s.heap.objs.size f cdv)) → JSs (cxOf CX0 P w K mg base N q (defScope st) f cdv A outer s H E).nox np (defBody st) t fb)
    (hm : mir = callF N.length n np fb) : MkO P w K mg base c ps (k + 1) n mir := by
  subst hm
  obtain ⟨C, f, fd, m, q, h1, h2, h3, F, b⟩ := S
  exact ⟨C, f, fd, h1, h2, h3, okM F sc hn hN (hb q f), b, fun es r h => callF_len h⟩
/-- x = C(..), an object of one's own -/
def sMakeO (c : Str) (mir : FC) (i : Nat) (fs : FEs) : FS := fun e => (fs e).bind fun p => (fCall2 mir (p.1 ++ [.ob c []]) (.ow p.1.length :: p.2.map Arg.im)).bind fun q => match q.1[p.1.length]?, q.2 with
  | some (.ob c' os), .im .non => if i < p.1.length then some (q.1.dropLast.set i (.ob c' os), .nx) else none
  | _, _ => none
theorem argRs_im {K : PySem.W.Frag} {F : Hp} {σ : L2.St} : ∀ {vs : List V} {ds : List D}, Rps K F vs ds → ArgRs K F σ vs (ds.map Arg.im)
  | _, _, .nil => .nil
  | _, _, .cons r t => .cons (.im r) (argRs_im t)
theorem js_makeO {X : Cx} {K : PySem.W.Frag} {np n m k : Nat} {c x : Str} {i : Nat} {ps : List Str} {mir : FC} {p py pos spos : Pos} {e : Expr} {es : List Expr} {t : TA} {fs : FEs} (hN : X.N.Nodup) (G : MkO X.prog X.w K X.mg X.base c ps k m mir)
    (hr : RoomT (k + 1) X.A) (hg : Gl X c) (ha : JEs X np (e :: es) n t fs) (hi : X.N[i]? = some x := by rfl) (hx : Loc X.env.scope x := by first | exact Or.inl rfl | exact Or.inr rfl) (hnp : np ≤ i := by decide)
    (hs : swapsWith (.Call (.Name c p) (e :: es) [] pos) (some (.Name x py)) spos.line X.env = pure false := by rfl) (hf : X.fn x = true ∨ X.env.scope.names.lookup x = some .local := by first | exact .inl rfl | exact .inr rfl)
    (hdb : (c == ("__debug__" : Str)) = false := by decide) (he : starEach (e :: es) X.env = (false, eval e X.env) :: starEach es X.env := by rfl) (hpl : (backTo pos (starEach es X.env)).any (·.1) = false := by rfl) (hK : X.K = K := by rfl) :
    JS X np (.Assign [.Name x py] (.Call (.Name c p) (e :: es) [] pos) spos) (tAsg (tMakeX K c (spM K m mir) t) (gName i)) (sMakeO c mir i fs) := by
  subst hK
  obtain ⟨C, f, fd, h1, h2, h3, h4, h5, hlen⟩ := G
  have pe : PE X (.Call (.Name c p) (e :: es) [] pos) (tMakeX X.K c (spM X.K m mir) t) := by
    refine ⟨fun pins s σ H Q I h => ?_⟩
    obtain ⟨C', n', h⟩ := h
    rw [h1] at n'; cases n'
    refine wpAny_Call_Name_kw (ld_glob I hg h2 ?_ hdb)
    refine PySem.W.callWith_K (h₀ := X.base) I.ok.mod.kin h3.kp (thn (ha.pa.run pos pins s σ H _ I h) fun us s1 ⟨vs, H1, I1, r, q⟩ => ⟨I1.kIn, ?_⟩) he hpl
    exact run_makeT h3 h4 hr h5 pass0 I1 r q
  refine ⟨ps_set hN hi hx pe hs hf, fun B F e0 σ H E hn I e' fl hf2 q => ?_⟩
  obtain ⟨⟨e1, ds⟩, g1, hf2⟩ := bnd hf2
  obtain ⟨⟨e2, s2⟩, g2, hf2⟩ := bnd hf2
  simp only at hf2
  unfold fCall2 at g2
  split at g2
  · rename_i hnd
    obtain ⟨es2, g3, g2⟩ := bnd g2
    obtain ⟨⟨es', d'⟩, g4, g2⟩ := bnd g2
    cases g2
    split at hf2
    · rename_i c' os hob hnon
      split at hf2
      · rename_i hlt
        cases hf2
        refine ⟨C, h1, ha.de B F e0 σ H _ hn I e1 ds g1 fun F1 vs H1 s1 I1 r1 l1 => fun y dx hy hdx hne => ?_⟩
        obtain ⟨J1, _, _⟩ := I1.newOwn (o := .own y) hdx
        have hy1 : upd H1 dx (.own y) y = none := by rw [upd_ne (fun z => hne z.symm)]; exact hy
        obtain ⟨J2, ne2, nc2⟩ := J1.newOwn (o := .ins C dx []) hy1
        obtain ⟨y1, y2, y3, y4⟩ := I1.free hy
        have J3 := J2.extOb h1 upd_same y1 y2 y4 ne2 nc2
        have hx0 : (σ ++ [some (V.ref y)])[e1.length]? = some (some (.ref y)) := by
          rw [List.getElem?_append_right (by rw [I1.len]; exact Nat.le_refl _), I1.len, Nat.sub_self]; rfl
        rw [List.append_nil]
        refine call_core2 (fun {es r} h => hlen es r h) J3 (.cons (.ow hx0) (argRs_im r1)) hnd g3 g4 fun F' v H' sm I' rv ne nc => ?_
        have hd : d' = Sl.im D.non := hnon
        subst hd
        cases rv with
        | im r =>
          cases r
          have hL : (putBack (e1 ++ [Sl.ob c []]) (Arg.ow e1.length :: List.map Arg.im ds) es').length = e1.length + 1 := by
            rw [putBack_length, List.length_append]; rfl
          generalize putBack (e1 ++ [Sl.ob c []]) (Arg.ow e1.length :: List.map Arg.im ds) es' = L at I' hob hL q
          have hL2 : L = L.dropLast ++ [Sl.ob c' os] := by
            apply List.ext_getElem?
            intro j
            rw [List.dropLast_eq_take, hL]
            by_cases hj : j < e1.length
            · rw [List.getElem?_append_left (by rw [List.length_take]; omega), List.getElem?_take, if_pos (by omega)]
            · rw [List.getElem?_append_right (by rw [List.length_take]; omega), List.length_take]
              by_cases hj2 : j = e1.length
              · subst hj2
                rw [hob, show e1.length - min (e1.length + 1 - 1) L.length = 0 by omega]
                rfl
              · rw [List.getElem?_eq_none (by omega), List.getElem?_eq_none (by rw [List.length_cons, List.length_nil]; omega)]
          rw [hL2] at I'
          refine ⟨rfl, ?_⟩
          exact q F' _ H' (s1.trans sm) (I1.moveLast I' (by rw [hn]; exact hnp) (by rw [List.length_dropLast, hL]; simpa using hlt))
        | ow o _ _ _ => cases o
      · cases hf2
    · cases hf2
  · cases g2
end M

namespace M
open PySem PySem.Spec PyProof.Rows L2

/-! ### a dict is locked while it is gone through -/
def plainHO : HO → Prop
  | .frz _ _ => False
  | _ => True
/-- what is read stays the same -/
structure RdE (F F' : Hp) : Prop where
  rd : ∀ (b : Addr) (u : HO), plainHO u → Rd F b u → Rd F' b u
  ins : ∀ (b : Addr) (C dx : Addr) (kvs : List (Str × V)), F b = some (.ins C dx kvs) → F' b = some (.ins C dx kvs)
mutual
theorem Rp.re {K : PySem.W.Frag} {F F' : Hp} (h : RdE F F') : ∀ {v : V} {d : D}, Rp K F v d → Rp K F' v d
  | _, _, .non => .non
  | _, _, .bl b => .bl b
  | _, _, .int i => .int i
  | _, _, .str x hx => .str x hx
  | _, _, .ty n => .ty n
  | _, _, .fn x hx => .fn x hx
  | _, _, .lst s r => .lst (s.imp (h.rd _ _ trivial) id) (Rps.re h r)
  | _, _, .tup s r => .tup (s.imp (h.rd _ _ trivial) id) (Rps.re h r)
  | _, _, .dic s r => .dic (h.rd _ _ trivial s) (Rpk.re h r)
  | _, _, .ob n s r => .ob n (h.ins _ _ _ _ s) (Rpk.re h r)
theorem Rps.re {K : PySem.W.Frag} {F F' : Hp} (h : RdE F F') : ∀ {v : List V} {d : List D}, Rps K F v d → Rps K F' v d
  | _, _, .nil => .nil
  | _, _, .cons a b => .cons (Rp.re h a) (Rps.re h b)
theorem Rpk.re {K : PySem.W.Frag} {F F' : Hp} (h : RdE F F') : ∀ {v : List (Key × V)} {d : List (Key × D)}, Rpk K F v d → Rpk K F' v d
  | _, _, .nil => .nil
  | _, _, .cons a b => .cons (Rp.re h a) (Rpk.re h b)
end
section
variable {K : PySem.W.Frag} {B : Bs} {F F' H H' : Hp} {e : Sls} {σ : L2.St}
theorem FdsR.re {kvs : List (Str × V)} {fs : List (Str × Fd)} (hF : RdE F F') (h : FdsR K F H kvs fs) : (∀ j b, Nest kvs fs j b → H' b = H b) → FdsR K F' H' kvs fs := by
  induction h with
  | nil => exact fun _ => .nil
  | cons r t ih =>
    intro hb
    have h0 : ∀ {b : Addr}, Nest _ _ 0 b → H' b = H b := fun {b} z => hb 0 b z
    refine .cons ?_ (ih fun j b ⟨x, y, fd, h1, h2, h3⟩ => hb (j + 1) b ⟨x, y, fd, by simpa using h1, by simpa using h2, h3⟩)
    cases r with
    | im r => exact .im (Rp.re hF r)
    | lst z r => exact .lst (by rw [h0 ⟨_, _, _, rfl, rfl, rfl⟩]; exact z) (Rps.re hF r)
    | dic z r => exact .dic (by rw [h0 ⟨_, _, _, rfl, rfl, rfl⟩]; exact z) (Rpk.re hF r)
theorem Ow.re {a : Addr} {s : Sl} (h : Ow K F H a s) (hf : RdE F F') (hh : H' a = H a) : Ow K F' H' a s := by
  cases h with
  | lst h r => exact .lst (hh.trans h) (Rps.re hf r)
  | dic h r => exact .dic (hh.trans h) (Rpk.re hf r)
/-- what stands at a is another thing -/
def sw (a : Addr) (w : HO) (G : Hp) : Hp := fun b => match G b with
  | none => none
  | some u => if b = a then some w else some u
theorem sw_none {a b : Addr} {w : HO} {G : Hp} : sw a w G b = none ↔ G b = none := by
  unfold sw
  cases G b with
  | none => simp
  | some u => simp only; split <;> simp
theorem sw_ne {a b : Addr} {w : HO} {G : Hp} (h : b ≠ a) : sw a w G b = G b := by
  unfold sw
  cases G b with
  | none => rfl
  | some u => simp only [if_neg h]
theorem sw_at {a : Addr} {w : HO} {G : Hp} (h : G a ≠ none) : sw a w G a = some w := by
  unfold sw
  cases hg : G a with
  | none => exact absurd hg h
  | some u => simp only [if_true]
theorem sw_same {a : Addr} {w : HO} {X Y : Hp} (s : Same X Y) : Same (sw a w X) (sw a w Y) := fun b u q => by
  have h1 : X b ≠ none := fun z => by rw [sw_none.mpr z] at q; cases q
  cases hx : X b with
  | none => exact absurd hx h1
  | some v =>
    have hy := s b v hx
    unfold sw at q ⊢
    rw [hx] at q
    rw [hy]
    exact q
theorem sw_upd {a : Addr} {w : HO} {G : Hp} (h : G a ≠ none) : upd G a w = sw a w G := by
  funext b
  by_cases z : b = a
  · subst z; rw [upd_same, sw_at h]
  · rw [upd_ne z, sw_ne z]
theorem sw_back {a : Addr} {v w : HO} {G : Hp} (h : G a = none ∨ G a = some v) : sw a v (sw a w G) = G := by
  funext b
  by_cases z : b = a
  · subst z
    rcases h with h | h
    · rw [sw_none.mpr (sw_none.mpr h), h]
    · rw [sw_at fun q => (by rw [sw_none.mp q] at h; cases h), h]
  · rw [sw_ne z, sw_ne z]
theorem Objs.re (O : Objs K B F e σ H) {a : Addr} {w : HO} (hF : F a ≠ none) (hr : RdE F (sw a w F)) : Objs K ⟨sw a w B.F, B.H, sw a w B.G, B.A, B.np, B.k⟩ (sw a w F) e σ (sw a w H) := by
  have ne : ∀ {b : Addr}, IsCell H e σ b → b ≠ a := fun {b} h z => by subst z; exact hF (O.free h).1
  have back : ∀ (i : Nat) (s : Sl) (b : Addr), e[i]? = some s → Cell (sw a w H) σ[i]? s b → Cell H σ[i]? s b := fun i s b h1 h2 => by
    refine h2.mono fun c c' fs e1 e2 => ?_
    subst e1
    exact sw_ne (ne (O.top h1 e2))
  refine ⟨fun i c fs h => ?_, fun i s b h1 h2 => ?_, fun i j s t b hij h1 h2 h3 h4 => ?_, O.tp, fun i j s t b h1 h2 h3 h4 h5 => ?_⟩
  · obtain ⟨x, e1, C, dx, kvs, n, ha, r, nd⟩ := O.ok i c fs h
    refine ⟨x, e1, C, dx, kvs, n, ?_, r.re hr fun j b hb => ?_, nd⟩
    · rw [sw_ne (ne (O.top h e1))]; exact ha
    · exact sw_ne (ne ⟨i, _, h, c, fs, x, rfl, e1, .inr ⟨C, dx, kvs, j, ha, hb⟩⟩)
  · obtain ⟨x, y⟩ := O.fr i s b h1 (back i s b h1 h2)
    exact ⟨sw_none.mpr x, sw_none.mpr y⟩
  · exact O.ap i j s t b hij h1 h2 (back i s b h1 h3) (back j t b h2 h4)
  · exact O.aw i j s t b h1 h2 (back i s b h1 h3) h4 h5
theorem IV.re2 (I : IV K B F e σ H) {a : Addr} {w : HO} (hF : F a ≠ none) (hr : RdE F (sw a w F)) : IV K ⟨sw a w B.F, B.H, sw a w B.G, B.A, B.np, B.k⟩ (sw a w F) e σ (sw a w H) := by
  refine ⟨sw_same I.sf, sw_same I.sg, sw_same I.g1, fun b => ?_, fun b q => I.g3 b (sw_none.mp q), I.len, fun i s v h1 h2 => ?_, I.ap, I.an, I.ob.re hF hr⟩
  · rcases I.g2 b with q | ⟨q1, q2, q3⟩
    · refine .inl ?_
      unfold sw
      rw [q]
    · exact .inr ⟨sw_none.mpr q1, q2, sw_none.mpr q3⟩
  · have r := I.sl i s v h1 h2
    cases r with
    | un => exact .un
    | im r => exact .im (Rp.re hr r)
    | ow o f1 f2 f3 =>
      rename_i b
      have nb : b ≠ a := fun z => by subst z; exact hF f1
      exact .ow (o.re hr (sw_ne nb)) (sw_none.mpr f1) (sw_none.mpr f2) f3
    | ob => exact .ob
/-- locked -/
theorem rdE_lock {a : Addr} {kvs : List (Key × V)} {o : Obj} (h : F a = some (.dK kvs)) : RdE F (sw a (.frz o (.dK kvs)) F) := by
  have hn : F a ≠ none := by rw [h]; exact fun z => nomatch z
  refine ⟨fun b u hu r => ?_, fun b C dx ks q => ?_⟩
  · by_cases z : b = a
    · subst z
      rcases r with r | ⟨o', r⟩
      · rw [h] at r; cases r
        exact .inr ⟨o, sw_at hn⟩
      · rw [h] at r; cases r
    · rcases r with r | ⟨o', r⟩
      · exact .inl (by rw [sw_ne z]; exact r)
      · exact .inr ⟨o', by rw [sw_ne z]; exact r⟩
  · have z : b ≠ a := fun z => by subst z; rw [h] at q; cases q
    rw [sw_ne z]; exact q
/-- unlocked -/
theorem rdE_unlock {a : Addr} {kvs : List (Key × V)} {o : Obj} (h : F a = some (.frz o (.dK kvs))) : RdE F (sw a (.dK kvs) F) := by
  have hn : F a ≠ none := by rw [h]; exact fun z => nomatch z
  refine ⟨fun b u hu r => ?_, fun b C dx ks q => ?_⟩
  · by_cases z : b = a
    · subst z
      rcases r with r | ⟨o', r⟩
      · rw [h] at r; cases r
        exact hu.elim
      · rw [h] at r; cases r
        exact .inl (sw_at hn)
    · rcases r with r | ⟨o', r⟩
      · exact .inl (by rw [sw_ne z]; exact r)
      · exact .inr ⟨o', by rw [sw_ne z]; exact r⟩
  · have z : b ≠ a := fun z => by subst z; rw [h] at q; cases q
    rw [sw_ne z]; exact q
theorem IV.lockD (I : IV K B F e σ H) {a : Addr} {kvs : List (Key × V)} (o : Obj) (h : F a = some (.dK kvs)) : IV K ⟨sw a (.frz o (.dK kvs)) B.F, B.H, sw a (.frz o (.dK kvs)) B.G, B.A, B.np, B.k⟩ (sw a (.frz o (.dK kvs)) F) e σ (upd H a (.frz o (.dK kvs))) := by
  rw [sw_upd (by rw [I.sf a _ h]; exact fun z => nomatch z)]
  exact I.re2 (by rw [h]; exact fun z => nomatch z) (rdE_lock h)
/-- unlocked again: F0 is the frozen part ahead of the lock -/
theorem IV.unlockD {F0 H0 : Hp} {e0 : Sls} {σ0 : L2.St} (I0 : IV K B F0 e0 σ0 H0) {a : Addr} {kvs : List (Key × V)} {o : Obj} (h : F0 a = some (.dK kvs))
    (I : IV K ⟨sw a (.frz o (.dK kvs)) B.F, B.H, sw a (.frz o (.dK kvs)) B.G, B.A, B.np, B.k⟩ F e σ H) (s : Same (sw a (.frz o (.dK kvs)) F0) F) :
    F a = some (.frz o (.dK kvs)) ∧ H a = some (.frz o (.dK kvs)) ∧ RdE F (sw a (.dK kvs) F) ∧ Same F0 (sw a (.dK kvs) F) ∧ IV K B (sw a (.dK kvs) F) e σ (upd H a (.dK kvs)) := by
  have hn : F0 a ≠ none := by rw [h]; exact fun z => nomatch z
  have fa : F a = some (.frz o (.dK kvs)) := s a _ (sw_at hn)
  have ha := I.sf a _ fa
  have re := rdE_unlock fa
  refine ⟨fa, ha, re, fun b u q => ?_, ?_⟩
  · by_cases z : b = a
    · subst z
      rw [h] at q; cases q
      exact sw_at (by rw [fa]; exact fun z => nomatch z)
    · rw [sw_ne z]
      exact s b u (by rw [sw_ne z]; exact q)
  · rw [sw_upd (by rw [ha]; exact fun z => nomatch z)]
    have J := I.re2 (by rw [fa]; exact fun z => nomatch z) re
    have e1 : sw a (.dK kvs) (sw a (.frz o (.dK kvs)) B.F) = B.F := by
      refine sw_back ?_
      cases hb : B.F a with
      | none => exact .inl rfl
      | some u =>
        have := I0.g1 a u hb
        rw [h] at this; cases this
        exact .inr rfl
    have e2 : sw a (.dK kvs) (sw a (.frz o (.dK kvs)) B.G) = B.G := by
      refine sw_back ?_
      cases hb : B.G a with
      | none => exact .inl rfl
      | some u =>
        have := I0.sg a u hb
        rw [I0.sf a _ h] at this; cases this
        exact .inr rfl
    simp only [e1, e2] at J
    exact J
end

/-! ### keys -/
def keyD : Key → D
  | .inl i => .int i
  | .inr s => .str s
def keyOk : Key → Prop
  | .inl _ => True
  | .inr s => sOk s
instance (k : Key) : Decidable (keyOk k) := match k with
  | .inl _ => .isTrue trivial
  | .inr s => inferInstanceAs (Decidable (sOk s))
theorem keyD_rp {K : PySem.W.Frag} {F : Hp} {k : Key} (h : keyOk k) : Rp K F (kV k) (keyD k) := by
  cases k with
  | inl i => exact .int i
  | inr s => exact .str s h
def itK (i : Nat) : FI := fun e => match e[i]? with
  | some (.im (.dic es)) => if ∀ p ∈ es, keyOk p.1 then some (e, es.map fun p => keyD p.1) else none
  | _ => none
/-- a name's dict, kept from now on -/
def frzS (np i : Nat) (e : Sls) : Option Sls := match e[i]? with
  | some (.im (.dic _)) => some e
  | some (.dic es) => if np ≤ i then some (e.set i (.im (.dic es))) else none
  | _ => none
theorem frzS_iv {K : PySem.W.Frag} {B : Bs} {F H : Hp} {e e1 : Sls} {σ : L2.St} {i : Nat} (I : IV K B F e σ H) (h : frzS B.np i e = some e1) :
    ∃ (F1 : Hp) (es : List (Key × D)), Same F F1 ∧ IV K B F1 e1 σ H ∧ e1[i]? = some (.im (.dic es)) := by
  unfold frzS at h
  split at h
  · rename_i es he
    cases h
    exact ⟨F, es, Same.refl F, I, he⟩
  · rename_i es he
    split at h
    · rename_i hi
      cases h
      obtain ⟨F', v, hv, s, I', r⟩ := I.freeze (d := .dic es) he rfl rfl hi
      refine ⟨F', es, s, I', ?_⟩
      have hl : i < e.length := by
        rcases Nat.lt_or_ge i e.length with q | q
        · exact q
        · rw [List.getElem?_eq_none q] at he; cases he
      rw [List.getElem?_set_self hl]
    · cases h
  · cases h
theorem look_len {F : Hp} {K : PySem.W.Frag} {i : Nat} : ∀ {kvs : List (Key × V)} {es : List (Key × D)} {k : Key} {v : V}, Rpk K F kvs es → kvs[i]? = some (k, v) → ∃ d, es[i]? = some (k, d) := by
  induction i with
  | zero =>
    intro kvs es k v r h
    cases r with
    | nil => simp at h
    | cons r t => simp at h; obtain ⟨rfl, _⟩ := h; exact ⟨_, rfl⟩
  | succ i ih =>
    intro kvs es k v r h
    cases r with
    | nil => simp at h
    | cons r t =>
      obtain ⟨d, hd⟩ := ih t (by simpa using h)
      exact ⟨d, by simpa using hd⟩
theorem itOk_keys {K : PySem.W.Frag} {F : Hp} {a : Addr} {o : Obj} {kvs : List (Key × V)} {es : List (Key × D)} (h : F a = some (.frz o (.dK kvs))) (r : Rpk K F kvs es) (hk : ∀ p ∈ es, keyOk p.1) : ItOk K F (Itk a o kvs) (es.map fun p => keyD p.1) := by
  intro F2 B e σ H s I
  have hH : H a = some (.frz o (.dK kvs)) := I.sf a _ (s a _ h)
  have l := r.length
  refine ⟨fun i hi => ⟨hH, by rw [List.length_map] at hi; omega⟩, ⟨hH, by rw [List.length_map]; omega⟩, fun i x H2 hi y => ?_⟩
  obtain ⟨rfl, k, v, h1, rfl⟩ := y
  obtain ⟨d, hd⟩ := look_len r h1
  refine ⟨F2, keyD k, Same.refl _, I, ?_, keyD_rp (hk _ (List.mem_of_getElem? hd))⟩
  rw [List.getElem?_map, hd] <;> rfl
/-- at one state, and no other -/
def wiAt (wi : TI) (σ0 : L2.St) (H0 : Hp) : TI := fun σ H R => (σ = σ0 ∧ H = H0) → wi σ H R
theorem di_at {K : PySem.W.Frag} {np i : Nat} {σ0 : L2.St} {H0 : Hp} {a : Addr} {o : Obj} {kvs : List (Key × V)} (hv : σ0[i]? = some (some (.ref a))) (ha : H0 a = some (.frz o (.dK kvs))) : DI K np (wiAt (iKeys (tVar i)) σ0 H0) (itK i) := by
  intro B F e σ H R hn I e' ds hf q
  rintro ⟨rfl, rfl⟩
  unfold itK at hf
  split at hf
  · rename_i es he
    split at hf
    · rename_i hk
      cases hf
      obtain ⟨v, h1, h2⟩ := I.slot he
      obtain ⟨x, ex, r⟩ := h2.of_im
      subst ex
      rw [hv] at h1; cases h1
      cases r with
      | @dic _ ks _ rd rk =>
        have e1 : F a = some (.frz o (.dK kvs)) ∧ ks = kvs := by
          rcases rd with rd | ⟨o', rd⟩
          · have := I.sf a _ rd; rw [ha] at this; cases this
          · have := I.sf a _ rd; rw [ha] at this; cases this
            exact ⟨rd, rfl⟩
        obtain ⟨e1, rfl⟩ := e1
        exact ⟨.ref a, hv, a, o, rfl, .inl ⟨ks, ha, q F _ H (Same.refl F) I (itOk_keys e1 rk hk)⟩⟩
    · cases hf
  · cases hf
section
variable {K : PySem.W.Frag} {np i : Nat}
def fLk {α : Type} (np i : Nat) (f : Sls → Option α) : Sls → Option α := fun e => (frzS np i e).bind f
def tLkE (t : TE) : TE := fun σ H Q => tLockE t σ H Q ∨ t σ H Q
def tLkS (t : TS) : TS := fun D σ H => tLock t D σ H ∨ t D σ H
theorem pe_lk {X : Cx} {e : Expr} {t : TE} (h : PE X e t) : PE X e (tLkE t) := by
  refine ⟨fun pins s σ H Q I hw => ?_⟩
  rcases hw with hw | hw
  · exact (pe_lock h).run pins s σ H Q I hw
  · exact h.run pins s σ H Q I hw
theorem ps_lk {X : Cx} {st : Stmt} {t : TS} (h : PS X st t) : PS X st (tLkS t) := by
  refine ⟨fun pins s σ H Q I hw => ?_⟩
  rcases hw with hw | hw
  · exact (ps_lock h).run pins s σ H Q I hw
  · exact h.run pins s σ H Q I hw
/-- the dict of a slot: locked or free -/
theorem lk_cases {B : Bs} {F H : Hp} {e : Sls} {σ : L2.St} (I : IV K B F e σ H) {es : List (Key × D)} (he : e[i]? = some (.im (.dic es))) :
    ∃ (a : Addr) (kvs : List (Key × V)), σ[i]? = some (some (.ref a)) ∧ (F a = some (.dK kvs) ∨ ∃ o, F a = some (.frz o (.dK kvs))) := by
  obtain ⟨v, h1, h2⟩ := I.slot he
  obtain ⟨x, ex, r⟩ := h2.of_im
  subst ex
  cases r with
  | dic rd rk => exact ⟨_, _, h1, rd⟩
theorem de_lk {t : TI → TE} {f : FE} (ht : ∀ {wi wi' : TI} {σ : L2.St} {H : Hp} {Q : VK}, t wi σ H Q → (∀ R, wi σ H R → wi' σ H R) → t wi' σ H Q) (h : ∀ wi, DI K np wi (itK i) → DE K np (t wi) f) : DE K np (tLkE (t (iKeys (tVar i)))) (fLk np i f) := by
  intro B F e σ H Q hn I e' d hf q
  obtain ⟨e1, h1, hf⟩ := bnd hf
  rw [← hn] at h1
  obtain ⟨F1, es, s1, I1, he⟩ := frzS_iv I h1
  obtain ⟨a, kvs, hv, hF | ⟨o, hF⟩⟩ := lk_cases I1 he
  · refine .inl ⟨a, .dK kvs, I1.sf a _ hF, trivial, fun od => ?_⟩
    have J := I1.lockD od hF
    refine ht (h _ (di_at hv upd_same) ⟨sw a (.frz od (.dK kvs)) B.F, B.H, sw a (.frz od (.dK kvs)) B.G, B.A, B.np, B.k⟩ _ e1 σ _ _ hn J e' d hf fun F' v H' s' I' r => ?_) fun R hR => hR ⟨rfl, rfl⟩
    obtain ⟨x1, x2, x3, x4, x5⟩ := I1.unlockD hF I' s'
    exact ⟨x2, q _ v _ (s1.trans x4) x5 (Rp.re x3 r)⟩
  · refine .inr ?_
    exact ht (h _ (di_at hv (I1.sf a _ hF)) B F1 e1 σ H Q hn I1 e' d hf fun F' v H' s' I' r => q F' v H' (s1.trans s') I' r) fun R hR => hR ⟨rfl, rfl⟩
theorem dow_lk {t : TI → TE} {f : Sls → Option (Sls × Sl)} (ht : ∀ {wi wi' : TI} {σ : L2.St} {H : Hp} {Q : VK}, t wi σ H Q → (∀ R, wi σ H R → wi' σ H R) → t wi' σ H Q) (h : ∀ wi, DI K np wi (itK i) → DOw K np (t wi) f) : DOw K np (tLkE (t (iKeys (tVar i)))) (fLk np i f) := by
  intro B F e σ H Q hn I e' d hf q
  obtain ⟨e1, h1, hf⟩ := bnd hf
  rw [← hn] at h1
  obtain ⟨F1, es, s1, I1, he⟩ := frzS_iv I h1
  obtain ⟨a, kvs, hv, hF | ⟨o, hF⟩⟩ := lk_cases I1 he
  · refine .inl ⟨a, .dK kvs, I1.sf a _ hF, trivial, fun od => ?_⟩
    have J := I1.lockD od hF
    refine ht (h _ (di_at hv upd_same) ⟨sw a (.frz od (.dK kvs)) B.F, B.H, sw a (.frz od (.dK kvs)) B.G, B.A, B.np, B.k⟩ _ e1 σ _ _ hn J e' d hf fun F' b H' s' I' r f1 f2 f3 ne nc => ?_) fun R hR => hR ⟨rfl, rfl⟩
    obtain ⟨x1, x2, x3, x4, x5⟩ := I1.unlockD hF I' s'
    have hb : b ≠ a := fun z => by subst z; rw [x1] at f1; cases f1
    refine ⟨x2, q _ b _ (s1.trans x4) x5 (r.re x3 (upd_ne hb)) (sw_none.mpr f1) (sw_none.mp f2) f3 ne fun ⟨k, s, g1, g2⟩ => nc ⟨k, s, g1, g2.mono fun c c' fs y1 y2 => ?_⟩⟩
    subst y1
    refine upd_ne fun z => ?_
    subst z
    have := (I'.ob.free (I'.ob.top g1 y2)).1
    rw [x1] at this; cases this
  · refine .inr ?_
    exact ht (h _ (di_at hv (I1.sf a _ hF)) B F1 e1 σ H Q hn I1 e' d hf fun F' b H' s' I' r f1 f2 f3 ne nc => q F' b H' (s1.trans s') I' r f1 f2 f3 ne nc) fun R hR => hR ⟨rfl, rfl⟩
theorem ds_lk {t : TI → TS} {f : FS} (ht : ∀ {wi wi' : TI} {σ : L2.St} {H : Hp} {D : Ends}, t wi D σ H → (∀ R, wi σ H R → wi' σ H R) → t wi' D σ H) (h : ∀ wi, DI K np wi (itK i) → DS K np (t wi) f) : DS K np (tLkS (t (iKeys (tVar i)))) (fLk np i f) := by
  intro B F e σ H E hn I e' fl hf q
  obtain ⟨e1, h1, hf⟩ := bnd hf
  rw [← hn] at h1
  obtain ⟨F1, es, s1, I1, he⟩ := frzS_iv I h1
  obtain ⟨a, kvs, hv, hF | ⟨o, hF⟩⟩ := lk_cases I1 he
  · refine .inl ⟨a, .dK kvs, I1.sf a _ hF, trivial, fun od => ?_⟩
    have J := I1.lockD od hF
    refine ht (h _ (di_at hv upd_same) ⟨sw a (.frz od (.dK kvs)) B.F, B.H, sw a (.frz od (.dK kvs)) B.G, B.A, B.np, B.k⟩ _ e1 σ _ _ hn J e' fl hf ?_) fun R hR => hR ⟨rfl, rfl⟩
    cases fl with
    | nx => exact fun F' σ' H' s' I' => by obtain ⟨x1, x2, x3, x4, x5⟩ := I1.unlockD hF I' s'; exact ⟨x2, q _ σ' _ (s1.trans x4) x5⟩
    | bk => exact fun F' σ' H' s' I' => by obtain ⟨x1, x2, x3, x4, x5⟩ := I1.unlockD hF I' s'; exact ⟨x2, q _ σ' _ (s1.trans x4) x5⟩
    | ct => exact fun F' σ' H' s' I' => by obtain ⟨x1, x2, x3, x4, x5⟩ := I1.unlockD hF I' s'; exact ⟨x2, q _ σ' _ (s1.trans x4) x5⟩
    | rt d => exact fun F' v σ' H' s' I' r => by obtain ⟨x1, x2, x3, x4, x5⟩ := I1.unlockD hF I' s'; exact ⟨x2, q _ v σ' _ (s1.trans x4) x5 (Rp.re x3 r)⟩
    | ro s =>
      intro F' b σ' H' s' I' r f1 f2 f3 nc
      obtain ⟨x1, x2, x3, x4, x5⟩ := I1.unlockD hF I' s'
      have hb : b ≠ a := fun z => by subst z; rw [x1] at f1; cases f1
      refine ⟨x2, q _ b σ' _ (s1.trans x4) x5 (r.re x3 (upd_ne hb)) (sw_none.mpr f1) (sw_none.mp f2) f3 fun ⟨k, s, g1, g2⟩ => nc ⟨k, s, g1, g2.mono fun c c' fs y1 y2 => ?_⟩⟩
      subst y1
      refine upd_ne fun z => ?_
      subst z
      have := (I'.ob.free (I'.ob.top g1 y2)).1
      rw [x1] at this; cases this
  · refine .inr ?_
    exact ht (h _ (di_at hv (I1.sf a _ hF)) B F1 e1 σ H E hn I1 e' fl hf (q.mono s1)) fun R hR => hR ⟨rfl, rfl⟩
end
end M

namespace M
open PySem PySem.Spec PyProof.Rows L2

theorem tLc_mono {wi wi' : TI} {g : TG} {tt : TT} {te : TE} {vs : List Nat} {σ : L2.St} {H : Hp} {Q : VK} (h : tLc wi g tt te vs σ H Q) (k : ∀ R, wi σ H R → wi' σ H R) : tLc wi' g tt te vs σ H Q := k _ h
theorem tDc_mono {wi wi' : TI} {g : TG} {tt : TT} {tk tv : TE} {vs : List Nat} {σ : L2.St} {H : Hp} {Q : VK} (h : tDc wi g tt tk tv vs σ H Q) (k : ∀ R, wi σ H R → wi' σ H R) : tDc wi' g tt tk tv vs σ H Q := k _ h
theorem tFor_mono {wi wi' : TI} {g : TG} {t : TS} {σ : L2.St} {H : Hp} {D : Ends} (h : tFor wi g t D σ H) (k : ∀ R, wi σ H R → wi' σ H R) : tFor wi' g t D σ H := k _ h
theorem tAsgLc_mono {wi wi' : TI} {g : TG} {tt : TT} {te : TE} {vs : List Nat} {gt : TG} {σ : L2.St} {H : Hp} {D : Ends} (h : tAsg (tLc wi g tt te vs) gt D σ H) (k : ∀ R, wi σ H R → wi' σ H R) : tAsg (tLc wi' g tt te vs) gt D σ H := k _ h
/-! ### going through a name's dict -/
section
variable {X : Cx} {np : Nat}
theorem js_forK {tg : Expr} {x : Str} {p pos : Pos} {a : List Stmt} {i : Nat} {ts : List Nat} {tt : TG} {bg : FG} {t : TS} {f : FS} (hp : PassesOwn (model X.prog X.w) X.A X.env X.xe) (hc : X.calm = true) (hv : PE X (.Name x p) (tVar i)) (hg : JG X np tg ts tt bg) (hb : JSs X np a t f)
    (hs : ∀ y, foldedSetIterable (.Name x p) X.env y = pure y := by intro _; rfl) : JS X np (.For tg (.Name x p) a [] pos) (tLkS (tFor (iKeys (tVar i)) tt t)) (fLk np i (sFor (itK i) bg f)) :=
  ⟨ps_lk (ps_for hp hc (pi_keys hv) hg.pg hb.ps hs), ds_lk (t := fun wi => tFor wi tt t) tFor_mono fun wi hi => ds_for hi hg.de hb.de⟩
variable {elt tg : Expr} {ifs : List Expr} {scope : Scope} {own : List (Str × Nat)} {x : Str} {p pos spos py : Pos} {i j : Nat} {y : Str} {ts : List Nat} {g : TG} {b : FG} {tt : TT} {c : FT} {te tk tv : TE} {f fk fv : FE} {kx vx : Expr}
theorem je_lcK (hc : X.calm = true) (hN : X.N.Nodup) (hv : PE X (.Name x p) (tVar i)) (ok : BlkOk X.N X.env.scope scope own)
    (hg : ∀ (s : Shared) (H : Hp) (C : Addr) (cl : List (Str × Addr)) (fp : List Addr), JG (X.blk s H scope (compEnvC scope cl C X.env) fp) np tg ts g b)
    (ht : ∀ (s : Shared) (H : Hp) (C : Addr) (cl : List (Str × Addr)) (fp : List Addr), JTs (X.blk s H scope (compEnvC scope cl C X.env) fp) np ifs tt c)
    (he : ∀ (s : Shared) (H : Hp) (C : Addr) (cl : List (Str × Addr)) (fp : List Addr), JE (X.blk s H scope (compEnvC scope cl C X.env) fp) np elt te f)
    (hts : ∀ i ∈ ts, i ∈ own.map (·.2) := by decide) (hvs : ∀ i ∈ own.map (·.2), np ≤ i := by decide) (hs : ∀ z, foldedSetIterable (.Name x p) X.env z = pure z := by intro _; rfl) :
    JE X np (.ListComp elt [⟨tg, .Name x p, ifs, 0⟩] scope pos) (tLkE (tLc (iKeys (tVar i)) g tt te (own.map (·.2)))) (fLk np i (fLc (itK i) (own.map (·.2)) b c f)) :=
  ⟨pe_lk (pe_lc hc hN (pi_keys hv) ok (fun s H C cl fp => (hg s H C cl fp).pg) (fun s H C cl fp => (ht s H C cl fp).pts) (fun s H C cl fp => (he s H C cl fp).pe) hs),
    de_lk (t := fun wi => tLc wi g tt te (own.map (·.2))) tLc_mono fun wi hi => de_lc hi (hg X.s_0 X.H_0 0 [] []).de (ht X.s_0 X.H_0 0 [] []).de (he X.s_0 X.H_0 0 [] []).de hts hvs⟩
theorem jow_lcK (hc : X.calm = true) (hN : X.N.Nodup) (hv : PE X (.Name x p) (tVar i)) (ok : BlkOk X.N X.env.scope scope own)
    (hg : ∀ (s : Shared) (H : Hp) (C : Addr) (cl : List (Str × Addr)) (fp : List Addr), JG (X.blk s H scope (compEnvC scope cl C X.env) fp) np tg ts g b)
    (ht : ∀ (s : Shared) (H : Hp) (C : Addr) (cl : List (Str × Addr)) (fp : List Addr), JTs (X.blk s H scope (compEnvC scope cl C X.env) fp) np ifs tt c)
    (he : ∀ (s : Shared) (H : Hp) (C : Addr) (cl : List (Str × Addr)) (fp : List Addr), JE (X.blk s H scope (compEnvC scope cl C X.env) fp) np elt te f)
    (hts : ∀ i ∈ ts, i ∈ own.map (·.2) := by decide) (hvs : ∀ i ∈ own.map (·.2), np ≤ i := by decide) (hs : ∀ z, foldedSetIterable (.Name x p) X.env z = pure z := by intro _; rfl) :
    JOw X np (.ListComp elt [⟨tg, .Name x p, ifs, 0⟩] scope pos) (tLkE (tLc (iKeys (tVar i)) g tt te (own.map (·.2)))) (fLk np i (oLc (itK i) (own.map (·.2)) b c f)) :=
  ⟨pe_lk (pe_lc hc hN (pi_keys hv) ok (fun s H C cl fp => (hg s H C cl fp).pg) (fun s H C cl fp => (ht s H C cl fp).pts) (fun s H C cl fp => (he s H C cl fp).pe) hs),
    dow_lk (t := fun wi => tLc wi g tt te (own.map (·.2))) tLc_mono fun wi hi => dow_lc hi (hg X.s_0 X.H_0 0 [] []).de (ht X.s_0 X.H_0 0 [] []).de (he X.s_0 X.H_0 0 [] []).de hts hvs⟩
theorem jow_dcK (hc : X.calm = true) (hN : X.N.Nodup) (hv : PE X (.Name x p) (tVar i)) (ok : BlkOk X.N X.env.scope scope own)
    (hg : ∀ (s : Shared) (H : Hp) (C : Addr) (cl : List (Str × Addr)) (fp : List Addr), JG (X.blk s H scope (compEnvC scope cl C X.env) fp) np tg ts g b)
    (ht : ∀ (s : Shared) (H : Hp) (C : Addr) (cl : List (Str × Addr)) (fp : List Addr), JTs (X.blk s H scope (compEnvC scope cl C X.env) fp) np ifs tt c)
    (hk : ∀ (s : Shared) (H : Hp) (C : Addr) (cl : List (Str × Addr)) (fp : List Addr), JE (X.blk s H scope (compEnvC scope cl C X.env) fp) np kx tk fk)
    (he : ∀ (s : Shared) (H : Hp) (C : Addr) (cl : List (Str × Addr)) (fp : List Addr), JE (X.blk s H scope (compEnvC scope cl C X.env) fp) np vx tv fv)
    (hts : ∀ i ∈ ts, i ∈ own.map (·.2) := by decide) (hvs : ∀ i ∈ own.map (·.2), np ≤ i := by decide) (hs : ∀ z, foldedSetIterable (.Name x p) X.env z = pure z := by intro _; rfl) :
    JOw X np (.DictComp kx vx [⟨tg, .Name x p, ifs, 0⟩] scope pos) (tLkE (tDc (iKeys (tVar i)) g tt tk tv (own.map (·.2)))) (fLk np i (oDc (itK i) (own.map (·.2)) b c fk fv)) :=
  ⟨pe_lk (pe_dc hc hN (pi_keys hv) ok (fun s H C cl fp => (hg s H C cl fp).pg) (fun s H C cl fp => (ht s H C cl fp).pts) (fun s H C cl fp => (hk s H C cl fp).pe) (fun s H C cl fp => (he s H C cl fp).pe) hs),
    dow_lk (t := fun wi => tDc wi g tt tk tv (own.map (·.2))) tDc_mono fun wi hi => dow_dc hi (hg X.s_0 X.H_0 0 [] []).de (ht X.s_0 X.H_0 0 [] []).de (hk X.s_0 X.H_0 0 [] []).de (he X.s_0 X.H_0 0 [] []).de hts hvs⟩
theorem js_setLcK (hc : X.calm = true) (hN : X.N.Nodup) (hv : PE X (.Name x p) (tVar i)) (ok : BlkOk X.N X.env.scope scope own)
    (hg : ∀ (s : Shared) (H : Hp) (C : Addr) (cl : List (Str × Addr)) (fp : List Addr), JG (X.blk s H scope (compEnvC scope cl C X.env) fp) np tg ts g b)
    (ht : ∀ (s : Shared) (H : Hp) (C : Addr) (cl : List (Str × Addr)) (fp : List Addr), JTs (X.blk s H scope (compEnvC scope cl C X.env) fp) np ifs tt c)
    (he : ∀ (s : Shared) (H : Hp) (C : Addr) (cl : List (Str × Addr)) (fp : List Addr), JE (X.blk s H scope (compEnvC scope cl C X.env) fp) np elt te f)
    (hts : ∀ i ∈ ts, i ∈ own.map (·.2) := by decide) (hvs : ∀ i ∈ own.map (·.2), np ≤ i := by decide) (hs : ∀ z, foldedSetIterable (.Name x p) X.env z = pure z := by intro _; rfl)
    (hy : X.N[j]? = some y := by rfl) (hyl : X.env.scope.names.lookup y = some .local := by rfl) (hnp : np ≤ j := by decide)
    (hsw : swapsWith (.ListComp elt [⟨tg, .Name x p, ifs, 0⟩] scope pos) (some (.Name y py)) spos.line X.env = pure true := by rfl) (hx : Loc X.env.scope y := by first | exact Or.inl rfl | exact Or.inr rfl)
    (hf : X.fn y = true ∨ X.env.scope.names.lookup y = some .local := by first | exact .inl rfl | exact .inr rfl) :
    JS X np (.Assign [.Name y py] (.ListComp elt [⟨tg, .Name x p, ifs, 0⟩] scope pos) spos) (tLkS (tAsg (tLc (iKeys (tVar i)) g tt te (own.map (·.2))) (gName j))) (fLk np i (sSet (fLc (itK i) (own.map (·.2)) b c f) (bName j))) :=
  ⟨ps_lk (ps_setLc hc hN hy hyl hsw (pi_keys hv) ok (fun s H C cl fp => (hg s H C cl fp).pg) (fun s H C cl fp => (ht s H C cl fp).pts) (fun s H C cl fp => (he s H C cl fp).pe) hs),
    ds_lk (t := fun wi => tAsg (tLc wi g tt te (own.map (·.2))) (gName j)) tAsgLc_mono fun wi hi => ds_asg (de_lc hi (hg X.s_0 X.H_0 0 [] []).de (ht X.s_0 X.H_0 0 [] []).de (he X.s_0 X.H_0 0 [] []).de hts hvs) (jg_name (pos := py) (pg_name hN hy hx hf) hnp).de⟩
end
section
variable (s : Sl) (e : Sls)
theorem c_fLk {α : Type} (np i : Nat) (f : Sls → Option α) : fLk np i f (s :: e) = (frzS np i (s :: e)).bind f := rfl
theorem c_frzS (np i : Nat) : frzS np i (s :: e) = match (s :: e)[i]? with
  | some (.im (.dic _)) => some (s :: e)
  | some (.dic es) => if np ≤ i then some ((s :: e).set i (.im (.dic es))) else none
  | _ => none := rfl
theorem c_itK (i : Nat) : itK i (s :: e) = match (s :: e)[i]? with
  | some (.im (.dic es)) => if ∀ p ∈ es, keyOk p.1 then some (s :: e, es.map fun p => keyD p.1) else none
  | _ => none := rfl
end

/-! ### xs.remove(y), xs.insert(i, y) -/
mutual
theorem py_plain : ∀ d : D, d.plain = true → d.py.plain = true
  | .non, _ => rfl
  | .bl _, _ => rfl
  | .int _, _ => rfl
  | .str _, _ => rfl
  | .lst xs, h => by rw [D.plain] at h; simp only [D.py, PyData.plain]; exact pys_plain xs h
  | .tup xs, h => by rw [D.plain] at h; simp only [D.py, PyData.plain]; exact pys_plain xs h
  | .dic _, h => by rw [D.plain] at h; cases h
  | .ty _, h => by rw [D.plain] at h; cases h
  | .fn _, h => by rw [D.plain] at h; cases h
  | .ob _ _, h => by rw [D.plain] at h; cases h
theorem pys_plain : ∀ ds : List D, D.plains ds = true → PyData.plainAll (D.pys ds) = true
  | [], _ => rfl
  | d :: ds, h => by
    rw [D.plains, Bool.and_eq_true] at h
    simp only [D.pys, PyData.plainAll, py_plain d h.1, pys_plain ds h.2, Bool.and_self]
end
theorem Rps.erase {K : PySem.W.Frag} {F : Hp} : ∀ {xs : List V} {ds : List D} (n : Nat), Rps K F xs ds → Rps K F (xs.eraseIdx n) (ds.eraseIdx n)
  | _, _, _, .nil => .nil
  | _, _, 0, .cons _ t => t
  | _, _, n + 1, .cons r t => .cons r (Rps.erase n t)
def placeD (ds : List D) (y : D) : Option Nat := SeqAt.dataPlace (D.pys ds) y.py
def remOk (ds : List D) (y : D) : Prop := D.plains ds = true ∧ y.plain = true ∧ min (PyData.depthAll (D.pys ds)) y.py.depth ≤ 190
instance (ds : List D) (y : D) : Decidable (remOk ds y) := inferInstanceAs (Decidable (_ ∧ _ ∧ _))
def rRemD (K : PySem.W.Frag) : V → List V → Hp → VK → Prop := fun x xs H Q => ∃ (F : Hp) (a : Addr) (vs : List V) (ds : List D) (v : V) (y : D) (j : Nat), x = .ref a ∧ xs = [v] ∧ Same F H ∧ H a = some (.lst vs) ∧ Rps K F vs ds ∧ Rp K F v y ∧ remOk ds y ∧ placeD ds y = some j ∧ Q .non (upd H a (.lst (vs.eraseIdx j)))
section
variable {X : Cx} {np : Nat}
theorem mt_remD (hu : X.A.units + 200 < cLine) : MtR X "list.remove" (rRemD X.K) := by
  intro pins s σ H x vs v us Q I rx rv h
  obtain ⟨F, a, ws, ds, w, y, j, rfl, rfl, sf, hH, r1, r2, ⟨p1, p2, p3⟩, hp, q⟩ := h
  cases rx
  obtain ⟨u, rfl, ru⟩ := rv.one
  obtain ⟨z, its, n, r, hl, e⟩ := I.lstM hH
  obtain ⟨⟨as, k1⟩, _⟩ := rp_readsAll I sf ds _ its p1 r1 r
  obtain ⟨⟨bs, k2⟩, _⟩ := rp_reads I sf y w u p2 r2 ru
  have hj : j < its.length := by
    obtain ⟨h1, _, _⟩ := List.findIdx?_eq_some_iff_getElem.mp hp
    have := SeqAt.len_at (vs := its.toArray) (by simpa using k1)
    rw [List.size_toArray] at this
    omega
  refine SeqAt.remove_list_data (vs := its.toArray) (j := j) ⟨_, e, rfl, n, rfl⟩ (by simpa using k1) k2 (pys_plain ds p1) (py_plain y p2) (by omega) hp (by rw [List.size_toArray]; omega) ?_
  refine ⟨.non, _, I.lset (its' := its.eraseIdx j) (t' := s.toks) hH e ?_ (r.eraseIdx j) ?_, rfl, q⟩
  · show its.toArray.eraseIdxIfInBounds j = (its.eraseIdx j).toArray
    rw [List.eraseIdxIfInBounds_toArray]
  · have := List.length_eraseIdx_le ws j
    omega
def gRemove : Sl → List D → Option (Sl × D)
  | .lst ds, [y] => if remOk ds y then (placeD ds y).bind fun j => some (.lst (ds.eraseIdx j), .non) else none
  | _, _ => none
theorem ow_remove {K : PySem.W.Frag} : OwM K (rRemD K) gRemove := by
  intro F H a s s' xs ds d Q sf o r hf q
  unfold gRemove at hf
  split at hf
  · split at hf
    · rename_i hz
      obtain ⟨j, hj, hf⟩ := bnd hf
      cases hf
      obtain ⟨x, rfl, rx⟩ : ∃ x, xs = [x] ∧ Rp K F x _ := by cases r with | cons r t => cases t; exact ⟨_, rfl, r⟩
      cases o with
      | lst h1 h2 => exact ⟨F, a, _, _, x, _, j, rfl, rfl, sf, h1, h2, rx, hz, hj, q _ _ (.lst upd_same (h2.erase j)) .non⟩
    · cases hf
  · cases hf
theorem jremove {K : PySem.W.Frag} {i : Nat} {x : Str} {p apos cpos : Pos} {ex : Expr} {te : TE} {fe : FE} (hu : X.A.units + 200 < cLine) (hv : PE X (.Name x p) (tVar i)) (h : JE X np ex te fe)
    (hs : starEach [ex] X.env = (false, eval ex X.env) :: starEach [] X.env := by rfl) (hbase : attributeBase (.Name x p) "remove" X.env (eval (.Name x p) X.env) = eval (.Name x p) X.env := by rfl)
    (hfew : ((backTo cpos (starEach (ex :: []) X.env)).all (fun x => !x.1) && (backToKw cpos (keywordEach [] X.env)).all (fun x => x.1.isSome)
      && decide ((ex :: []).length + ([] : List Keyword).length + (if ([] : List Keyword).isEmpty then 0 else 1) < 30)) = true := by rfl)
    (hline : (apos.endLine == cpos.line) = true := by rfl) (hplain : (backTo cpos (starEach [] X.env)).any (·.1) = false := by rfl) (hK : X.K = K := by rfl) :
    JE X np (.Call (.Attribute (.Name x p) "remove" apos) [ex] [] cpos) (tBM K "list" (rRemD K) (tVar i) (tCons te tNil)) (fBm "list" i gRemove (fCons fe fNil)) := by
  subst hK
  exact ⟨pe_bm PySem.F.plainAttrs_list PySem.F.slot_list_remove PySem.F.type_list_remove (mt_remD hu) hv (pa_cons h.pe pa_nil hs) hbase hfew hline hs hplain, de_bm ow_remove (jes_cons h jes_nil hs).de⟩
def rIns : V → List V → Hp → VK → Prop := fun x vs H Q => ∃ (l : Addr) (xs : List V) (i : Int) (y : V), x = .ref l ∧ vs = [.int i, y] ∧ H l = some (.lst xs) ∧ xs.length < sizeLine ∧ 0 ≤ i ∧ i < 2 ^ 63 ∧
    Q .non (upd H l (.lst (xs.take i.toNat ++ [y] ++ xs.drop i.toNat)))
def gInsert : Sl → List D → Option (Sl × D)
  | .lst ds, [.int i, y] => if ds.length < sizeLine ∧ 0 ≤ i ∧ i ≤ 8000000 then some (.lst (ds.take i.toNat ++ [y] ++ ds.drop i.toNat), .non) else none
  | _, _ => none
theorem ow_insert {K : PySem.W.Frag} : OwM K rIns gInsert := by
  intro F H a s s' xs ds d Q sf o r hf q
  unfold gInsert at hf
  split at hf
  · split at hf
    · rename_i hz
      cases hf
      obtain ⟨x, rfl, rx⟩ : ∃ x, xs = [.int _, x] ∧ Rp K F x _ := by
        cases r with | cons r t => cases r; cases t with | cons r t => cases t; exact ⟨_, rfl, r⟩
      cases o with
      | lst h1 h2 =>
        refine ⟨a, _, _, x, rfl, rfl, h1, by rw [h2.length]; exact hz.1, hz.2.1, Int.lt_of_le_of_lt hz.2.2 (by decide), q _ _ (.lst upd_same (((h2.take _).append (.cons rx .nil)).append (h2.drop _))) .non⟩
    · cases hf
  · cases hf
theorem jinsert {K : PySem.W.Frag} {i : Nat} {x : Str} {p apos cpos : Pos} {ex ey : Expr} {te ty : TE} {fe fy : FE} (hv : PE X (.Name x p) (tVar i)) (h : JE X np ex te fe) (h2 : JE X np ey ty fy)
    (hs : starEach [ex, ey] X.env = (false, eval ex X.env) :: starEach [ey] X.env := by rfl) (hs2 : starEach [ey] X.env = (false, eval ey X.env) :: starEach [] X.env := by rfl) (hbase : attributeBase (.Name x p) "insert" X.env (eval (.Name x p) X.env) = eval (.Name x p) X.env := by rfl)
    (hfew : ((backTo cpos (starEach (ex :: [ey]) X.env)).all (fun x => !x.1) && (backToKw cpos (keywordEach [] X.env)).all (fun x => x.1.isSome)
      && decide ((ex :: [ey]).length + ([] : List Keyword).length + (if ([] : List Keyword).isEmpty then 0 else 1) < 30)) = true := by rfl)
    (hline : (apos.endLine == cpos.line) = true := by rfl) (hplain : (backTo cpos (starEach [ey] X.env)).any (·.1) = false := by rfl) (hK : X.K = K := by rfl) :
    JE X np (.Call (.Attribute (.Name x p) "insert" apos) [ex, ey] [] cpos) (tBM K "list" rIns (tVar i) (tCons te (tCons ty tNil))) (fBm "list" i gInsert (fCons fe (fCons fy fNil))) := by
  subst hK
  exact ⟨pe_bm PySem.F.plainAttrs_list PySem.F.slot_list_insert PySem.F.type_list_insert mt_insert hv (pa_cons h.pe (pa_cons h2.pe pa_nil hs2) hs) hbase hfew hline hs hplain, de_bm ow_insert (jes_cons h (jes_cons h2 jes_nil hs2) hs).de⟩
end
end M

namespace M
open PySem PySem.Spec PyProof.Rows L2

/-! ### an own list, dict is looked at without being kept: the answer is no object -/
def D.flat : D → Bool
  | .non => true
  | .bl _ => true
  | .int _ => true
  | .str _ => true
  | _ => false
theorem flat_rp {K : PySem.W.Frag} {F F' : Hp} {v : V} {d : D} (h : d.flat = true) (r : Rp K F v d) : Rp K F' v d := by
  cases r with
  | non => exact .non
  | bl b => exact .bl b
  | int i => exact .int i
  | str x hx => exact .str x hx
  | ty _ => cases h
  | fn _ _ => cases h
  | lst _ _ => cases h
  | tup _ _ => cases h
  | dic _ _ => cases h
  | ob _ _ _ => cases h
/-- own lists and dicts are seen as they are now -/
def viewS : Sl → Sl
  | .un => .un
  | .im d => .im d
  | .lst ds => .im (.lst ds)
  | .dic es => .im (.dic es)
  | .ob _ _ => .un
theorem viewS_own (s : Sl) : (viewS s).own = false := by cases s <;> rfl
theorem viewS_ob {s : Sl} {c : Str} {fs : List (Str × Fd)} (h : viewS s = .ob c fs) : False := by cases s <;> cases h
def fLendE (fe : FE) : FE := fun e => (fe (e.map viewS)).bind fun p => if p.2.flat = true then some (e, p.2) else none
section
variable {K : PySem.W.Frag} {B : Bs} {F H : Hp} {e : Sls} {σ : L2.St}
def OwnAt (e : Sls) (σ : L2.St) (b : Addr) : Prop := ∃ (i : Nat) (s : Sl), e[i]? = some s ∧ s.own = true ∧ σ[i]? = some (some (V.ref b))
open Classical in
noncomputable def lendA (e : Sls) (σ : L2.St) (F H : Hp) : Hp := fun b => if OwnAt e σ b then H b else F b
theorem IV.own_kind (I : IV K B F e σ H) {b : Addr} (h : OwnAt e σ b) : F b = none ∧ ((∃ xs, H b = some (.lst xs)) ∨ ∃ ks, H b = some (.dK ks)) := by
  obtain ⟨i, s, h1, h2, h3⟩ := h
  obtain ⟨a, e1, r, f1, _⟩ := (I.sl i s _ h1 h3).of_own h2
  cases e1
  refine ⟨f1, ?_⟩
  cases r with
  | lst r1 _ => exact .inl ⟨_, r1⟩
  | dic r1 _ => exact .inr ⟨_, r1⟩
theorem IV.lendV (I : IV K B F e σ H) : Same F (lendA e σ F H) ∧ IV K ⟨lendA e σ F H, H, H, B.A, B.np, B.k⟩ (lendA e σ F H) (e.map viewS) σ H := by
  have sm : Same F (lendA e σ F H) := fun b u q => by
    unfold lendA
    split
    · exact I.sf b u q
    · exact q
  have sub : Same (lendA e σ F H) H := fun b u q => by
    unfold lendA at q
    split at q
    · exact q
    · exact I.sf b u q
  have sl : ∀ {i : Nat} {t : Sl}, (e.map viewS)[i]? = some t → ∃ s, e[i]? = some s ∧ t = viewS s := fun {i t} h => by
    rw [List.getElem?_map] at h
    obtain ⟨s0, h1, h2⟩ := Option.map_eq_some_iff.mp h
    exact ⟨s0, h1, h2.symm⟩
  refine ⟨sm, sub, Same.refl _, Same.refl _, fun b => .inl rfl, fun b z => z, by rw [List.length_map]; exact I.len, fun i t v h1 h2 => ?_, fun i j t u _ h1 _ o1 _ => ?_, I.an, .nil fun i t h1 c fs z => ?_⟩
  · obtain ⟨s, h0, rfl⟩ := sl h1
    have r := I.sl i s v h0 h2
    cases r with
    | un => exact .un
    | im r => exact .im (r.mono sm)
    | @ow a _ o f1 _ _ =>
      have oa : OwnAt e σ a := ⟨i, s, h0, o.own, h2⟩
      have fa : lendA e σ F H a = H a := if_pos oa
      cases o with
      | lst g1 g2 => exact .im (.lst (.inl (.inl (fa.trans g1))) (g2.mono sm))
      | dic g1 g2 => exact .im (.dic (.inl (fa.trans g1)) (g2.mono sm))
    | ob => exact .un
  · obtain ⟨s, h0, rfl⟩ := sl h1
    rw [viewS_own] at o1; cases o1
  · obtain ⟨s, h0, rfl⟩ := sl h1
    exact viewS_ob z
theorem IV.unlend (I : IV K B F e σ H) {F' : Hp} {e1 : Sls} {H' : Hp} (I' : IV K ⟨lendA e σ F H, H, H, B.A, B.np, B.k⟩ F' e1 σ H') :
    ∃ F2 : Hp, Same F F2 ∧ Same H H' ∧ (∀ b, F' b = none → F2 b = none) ∧ (∀ (b : Addr) (xs : List V), Rd F' b (.tup xs) → Rd F2 b (.tup xs)) ∧ IV K B F2 e σ H' := by
  have hh : Same H H' := I'.sg
  classical
  let F2 : Hp := fun b => if H b = none then F' b else F b
  have atn : ∀ b, H b = none → F2 b = F' b := fun b hb => if_pos hb
  have ats : ∀ b, H b ≠ none → F2 b = F b := fun b hb => if_neg hb
  have sub : Same F F2 := fun b w z => by
    rw [ats b (by rw [I.sf b w z]; exact fun y => nomatch y)]; exact z
  have he : ∀ b, H b ≠ none → H' b = H b := fun b hb => by
    cases ho : H b with
    | none => exact absurd ho hb
    | some w => exact hh b w ho
  have oth : ∀ b, ¬ OwnAt e σ b → F2 b = F' b := fun b nb => by
    by_cases hb : H b = none
    · exact atn b hb
    · rw [ats b hb]
      rcases I'.g2 b with z | ⟨_, z, _⟩
      · rw [z]; exact (if_neg nb).symm
      · exact absurd z hb
  have own' : ∀ b, OwnAt e σ b → F' b = H b := fun b nb => by
    have : lendA e σ F H b = H b := if_pos nb
    rcases I'.g2 b with z | ⟨_, z, _⟩
    · rw [z]; exact this
    · obtain ⟨_, ⟨_, y⟩ | ⟨_, y⟩⟩ := I.own_kind nb
      · have z' : H b = none := z
        rw [y] at z'; cases z'
      · have z' : H b = none := z
        rw [y] at z'; cases z'
  refine ⟨F2, sub, hh, fun b z => ?_, fun b xs r => ?_, fun b w z => ?_, I.sg.trans hh, I.g1.trans sub, fun b => ?_, fun b z => ?_, I.len, fun i s v h1 h2 => ?_, I.ap, I.an, I.ob.stay sub fun b hb => ?_⟩
  · by_cases nb : OwnAt e σ b
    · obtain ⟨fb, hk⟩ := I.own_kind nb
      have hb : H b ≠ none := by rcases hk with ⟨_, y⟩ | ⟨_, y⟩ <;> (rw [y]; exact fun z => nomatch z)
      rw [ats b hb]; exact fb
    · rw [oth b nb]; exact z
  · have nb : ¬ OwnAt e σ b := fun nb => by
      have fb := own' b nb
      obtain ⟨_, ⟨_, y⟩ | ⟨_, y⟩⟩ := I.own_kind nb
      · rcases r with r | ⟨o, r⟩ <;> (rw [fb, y] at r; cases r)
      · rcases r with r | ⟨o, r⟩ <;> (rw [fb, y] at r; cases r)
    rcases r with r | ⟨o, r⟩
    · exact .inl (by rw [oth b nb]; exact r)
    · exact .inr ⟨o, by rw [oth b nb]; exact r⟩
  · by_cases hb : H b = none
    · rw [atn b hb] at z; exact I'.sf b w z
    · rw [ats b hb] at z; exact hh b w (I.sf b w z)
  · by_cases hb : H b = none
    · obtain ⟨f1, f2, f3, f4⟩ := I.free (p := b) hb
      exact .inr ⟨f3, f4, f2⟩
    · rw [ats b hb]; exact I.g2 b
  · refine I.g3 b ?_
    cases ho : H b with
    | none => rfl
    | some w => rw [hh b w ho] at z; cases z
  · have r := I.sl i s v h1 h2
    cases r with
    | un => exact .un
    | im r => exact .im (r.mono sub)
    | ow o g1 g2 g3 => exact .ow (o.mono sub (he _ o.some)) (by rw [ats _ o.some]; exact g1) g2 g3
    | ob => exact .ob
  · have h1 := I.ob.there hb
    exact ⟨he b h1, by rw [ats b h1]; exact (I.ob.free hb).1⟩
end
section
variable {X : Cx} {np : Nat} {ex : Expr} {te : TE} {fe : FE}
theorem jlendE (h : JE X np ex te fe) : JE X np ex te (fLendE fe) := by
  refine ⟨h.pe, fun B F e σ H Q hn I e' d hf q => ?_⟩
  obtain ⟨⟨e1, d1⟩, h2, hf⟩ := bnd hf
  simp only at hf
  split at hf
  · rename_i hfl
    cases hf
    obtain ⟨sm, J⟩ := I.lendV
    refine h.de ⟨lendA e σ F H, H, H, B.A, B.np, B.k⟩ _ _ σ H Q hn J e1 d h2 fun F' v H' s' I' r => ?_
    obtain ⟨F2, g1, g2, _, _, I2⟩ := I.unlend I'
    exact q F2 v H' g1 I2 (flat_rp hfl r)
  · cases hf
end
section
variable (s : Sl) (e : Sls)
theorem c_fLendE (fe : FE) : fLendE fe (s :: e) = (fe ((s :: e).map viewS)).bind fun p => if p.2.flat = true then some (s :: e, p.2) else none := rfl
theorem view_un : viewS .un = .un := rfl
theorem view_im (d : D) : viewS (.im d) = .im d := rfl
theorem view_lst (d : List D) : viewS (.lst d) = .im (.lst d) := rfl
theorem view_dic (d : List (Key × D)) : viewS (.dic d) = .im (.dic d) := rfl
theorem view_ob (c : Str) (fs : List (Str × Fd)) : viewS (.ob c fs) = .un := rfl
theorem flat_bl (b : Bool) : D.flat (.bl b) = true := rfl
theorem flat_int (b : Int) : D.flat (.int b) = true := rfl
theorem flat_str (b : Str) : D.flat (.str b) = true := rfl
theorem c_oMove (np i : Nat) : oMove np i (s :: e) = match (s :: e)[i]? with
  | some s0 => if s0.own = true ∧ np ≤ i then some ((s :: e).set i .un, s0) else none
  | none => none := rfl
end
end M

namespace M
open PySem PySem.Spec PyProof.Rows L2

/-! ### pinned slots: what a loop's body does not store -/
def pinB (B : Bs) (np' : Nat) (σ : L2.St) : Bs := ⟨B.F, B.H, B.G, σ, np', B.k + (np' - B.np)⟩
section
variable {K : PySem.W.Frag} {B : Bs} {F H : Hp} {e : Sls} {σ : L2.St}
theorem pin_eq {np' : Nat} (h : B.np ≤ np') : np' - (B.k + (np' - B.np)) = B.np - B.k := by omega
theorem Objs.pin (O : Objs K B F e σ H) {B' : Bs} (hG : B'.G = B.G) (hH : B'.H = B.H) (hk : B'.np - B'.k = B.np - B.k) : Objs K B' F e σ H :=
  ⟨O.ok, fun i s b h1 h2 => by rw [hG]; exact O.fr i s b h1 h2, O.ap, fun i c fs a h1 h2 => by rw [hH, hk]; exact O.tp i c fs a h1 h2, O.aw⟩
theorem IV.pin (I : IV K B F e σ H) {np' : Nat} (h : B.np ≤ np') : IV K (pinB B np' σ) F e σ H := by
  have hk : (pinB B np' σ).np - (pinB B np' σ).k = B.np - B.k := pin_eq h
  refine ⟨I.sf, I.sg, I.g1, I.g2, I.g3, I.len, fun i s v h1 h2 => ?_, I.ap, fun i v _ hv => hv, I.ob.pin rfl rfl hk⟩
  have r := I.sl i s v h1 h2
  cases r with
  | un => exact .un
  | im r => exact .im r
  | ow o f1 f2 f3 => exact .ow o f1 f2 (by rw [hk]; exact f3)
  | ob => exact .ob
theorem IV.unpin {F0 H0 : Hp} {e0 : Sls} {σ0 : L2.St} (I0 : IV K B F0 e0 σ0 H0) {np' : Nat} (h : B.np ≤ np') (I : IV K (pinB B np' σ0) F e σ H) : IV K B F e σ H ∧ ∀ (i : Nat) (v : Option V), i < np' → σ0[i]? = some v → σ[i]? = some v := by
  have hk : (pinB B np' σ0).np - (pinB B np' σ0).k = B.np - B.k := pin_eq h
  have an : ∀ (i : Nat) (v : Option V), i < np' → σ0[i]? = some v → σ[i]? = some v := fun i v hi hv => I.an i v hi hv
  refine ⟨⟨I.sf, I.sg, I.g1, I.g2, I.g3, I.len, fun i s v h1 h2 => ?_, I.ap, fun i v hi hv => an i v (by omega) (I0.an i v hi hv), I.ob.pin rfl rfl hk.symm⟩, an⟩
  have r := I.sl i s v h1 h2
  cases r with
  | un => exact .un
  | im r => exact .im r
  | ow o f1 f2 f3 => exact .ow o f1 f2 (by rw [← hk]; exact f3)
  | ob => exact .ob
end

/-! ### for x in xs, xs one's own, not changed within -/
open Classical in
noncomputable def forLO (i : Nat) (ds0 : List D) (b : FG) (body : FS) : List D → Sls → Option (Sls × Fl)
  | [], e => if e[i]? = some (.lst ds0) then some (e, .nx) else none
  | d :: ds, e => if e[i]? = some (.lst ds0) then (b e d).bind fun e1 => (body e1).bind fun p => match p.2 with
    | .nx => forLO i ds0 b body ds p.1
    | .ct => forLO i ds0 b body ds p.1
    | .bk => some (p.1, .nx)
    | .rt d => some (p.1, .rt d)
    | .ro d => some (p.1, .ro d)
    else none
noncomputable def sForO (i : Nat) (b : FG) (body : FS) : FS := fun e => match e[i]? with
  | some (.lst ds) => forLO i ds b body ds e
  | _ => none
section
variable {K : PySem.W.Frag} {np np' i : Nat} {ts : List Nat} {tg : TG} {bg : FG} {t : TS} {f : FS}
theorem ds_forO (hi : i < np') (hnp : np ≤ np') (hg : DG K np' ts tg bg) (hb : DS K np' t f) : DS K np (tFor (iList K (tVar i)) tg t) (sForO i bg f) := by
  intro B F e σ H E hn I e' fl hf q
  unfold sForO at hf
  split at hf
  · rename_i ds he
    obtain ⟨v, hv, r0⟩ := I.slot he
    obtain ⟨a, ev, o, _⟩ := r0.of_own rfl
    subst ev
    have hnp' : B.np ≤ np' := by omega
    have at' : ∀ {F' H' : Hp} {e2 : Sls} {σ' : L2.St}, IV K (pinB B np' σ) F' e2 σ' H' → e2[i]? = some (.lst ds) → ∃ xs, SqL K H' a xs ∧ Rps K F' xs ds := fun {F' H' e2 σ'} I' h => by
      obtain ⟨_, an⟩ := I.unpin hnp' I'
      obtain ⟨a', e1, o', _⟩ := (I'.sl i _ _ h (an i _ hi hv)).of_own rfl
      cases e1
      cases o' with
      | lst h1 h2 => exact ⟨_, .inl (.inl h1), h2⟩
    have one : ∀ {H' : Hp} {xs ys : List V}, SqL K H' a xs → SqL K H' a ys → True := fun _ _ => trivial
    obtain ⟨xs0, hx0, _⟩ := at' (I.pin hnp') he
    refine ⟨.ref a, hv, a, rfl, ⟨xs0, hx0⟩, ?_⟩
    refine ⟨fun j m σ' H' => m = ds.length - j ∧ j ≤ ds.length ∧ ∃ F' e2, Same F F' ∧ IV K (pinB B np' σ) F' e2 σ' H' ∧ forLO i ds bg f (ds.drop j) e2 = some (e', fl), ⟨ds.length, rfl, Nat.zero_le _, F, e, Same.refl _, I.pin hnp', by rw [List.drop_zero]; exact hf⟩, ?_⟩
    rintro j m σ' H' ⟨rfl, hle, F', e2, s2, I2, hl⟩
    by_cases hlt : j < ds.length
    · have ed : ds.drop j = ds[j] :: ds.drop (j + 1) := List.drop_eq_getElem_cons hlt
      rw [ed, forLO] at hl
      split at hl
      · rename_i hat
        obtain ⟨xs, hx, rx⟩ := at' I2 hat
        have lx := rx.length
        refine .inr ⟨⟨xs, xs[j]'(by omega), hx, List.getElem?_eq_getElem _⟩, fun σ4 H4 => ∃ F' e2, Same F F' ∧ IV K (pinB B np' σ) F' e2 σ4 H4 ∧ forLO i ds bg f (ds.drop (j + 1)) e2 = some (e', fl), fun σ4 H4 ⟨F4, e4, a1, a2, a3⟩ => ⟨ds.length - (j + 1), by omega, rfl, hlt, F4, e4, a1, a2, a3⟩, fun x H3 hy => ?_⟩
        obtain ⟨rfl, hy⟩ := hy
        obtain ⟨dx, hd, rdx⟩ := rx.get (hy xs hx)
        rw [List.getElem?_eq_getElem hlt] at hd
        cases hd
        obtain ⟨ea, ha, hl⟩ := bnd hl
        obtain ⟨⟨eb, k⟩, hk, hl⟩ := bnd hl
        refine hg (pinB B np' σ) F' e2 σ' H3 x _ _ rfl I2 rdx ea ha fun F4 σ4 H4 s4 I4 _ => ?_
        have s14 := s2.trans s4
        refine hb (pinB B np' σ) F4 ea σ4 H4 _ rfl I4 eb k hk ?_
        cases k with
        | nx => exact fun F5 σ5 H5 s5 I5 => ⟨F5, eb, s14.trans s5, I5, hl⟩
        | ct => exact fun F5 σ5 H5 s5 I5 => ⟨F5, eb, s14.trans s5, I5, hl⟩
        | bk =>
          cases hl
          exact fun F5 σ5 H5 s5 I5 => q F5 σ5 H5 (s14.trans s5) (I.unpin hnp' I5).1
        | rt d =>
          cases hl
          exact fun F5 v σ5 H5 s5 I5 r => q F5 v σ5 H5 (s14.trans s5) (I.unpin hnp' I5).1 r
        | ro d =>
          cases hl
          exact fun F5 v σ5 H5 s5 I5 r f g b c => q F5 v σ5 H5 (s14.trans s5) (I.unpin hnp' I5).1 r f g b c
      · cases hl
    · have ei : j = ds.length := by omega
      subst ei
      rw [List.drop_length, forLO] at hl
      split at hl
      · rename_i hat
        cases hl
        obtain ⟨xs, hx, rx⟩ := at' I2 hat
        exact .inl ⟨⟨xs, hx, by rw [rx.length]; exact Nat.le_refl _⟩, q F' σ' H' s2 (I.unpin hnp' I2).1⟩
      · cases hl
  · cases hf
theorem js_forO {X : Cx} {tgx : Expr} {x : Str} {p pos : Pos} {a : List Stmt} {tt : TG} (hi : i < np') (hnp : np ≤ np') (hp : PassesOwn (model X.prog X.w) X.A X.env X.xe) (hc : X.calm = true) (hv : PE X (.Name x p) (tVar i)) (hg : JG X np' tgx ts tt bg) (hb : JSs X np' a t f)
    (hs : ∀ y, foldedSetIterable (.Name x p) X.env y = pure y := by intro _; rfl) (hK : X.K = K := by rfl) : JS X np (.For tgx (.Name x p) a [] pos) (tFor (iList K (tVar i)) tt t) (sForO i bg f) := by
  subst hK
  exact ⟨ps_for hp hc (pi_list hv) hg.pg hb.ps hs, ds_forO hi hnp hg.de hb.de⟩
end

/-! ### an own thing looked at, what comes of it made anew -/
mutual
def D.hard : D → Bool
  | .non => true
  | .bl _ => true
  | .int _ => true
  | .str _ => true
  | .tup xs => D.hards xs
  | _ => false
def D.hards : List D → Bool
  | [] => true
  | x :: xs => x.hard && D.hards xs
end
mutual
theorem hard_rp {K : PySem.W.Frag} {F F' : Hp} (h : ∀ (b : Addr) (xs : List V), Rd F b (.tup xs) → Rd F' b (.tup xs)) : ∀ {v : V} {d : D}, d.hard = true → Rp K F v d → Rp K F' v d
  | _, .non, _, .non => .non
  | _, .bl _, _, .bl b => .bl b
  | _, .int _, _, .int i => .int i
  | _, .str _, _, .str x h => .str x h
  | _, .ty _, hp, _ => by cases hp
  | _, .fn _, hp, _ => by cases hp
  | _, .lst _, hp, _ => by cases hp
  | _, .tup _, hp, .tup s r => .tup (s.imp (h _ _) id) (hards_rp h (by rw [D.hard] at hp; exact hp) r)
  | _, .dic _, hp, _ => by cases hp
  | _, .ob _ _, hp, _ => by cases hp
theorem hards_rp {K : PySem.W.Frag} {F F' : Hp} (h : ∀ (b : Addr) (xs : List V), Rd F b (.tup xs) → Rd F' b (.tup xs)) : ∀ {v : List V} {d : List D}, D.hards d = true → Rps K F v d → Rps K F' v d
  | _, _, _, .nil => .nil
  | _, _, hp, .cons a b => by
    simp only [D.hards, Bool.and_eq_true] at hp
    exact .cons (hard_rp h hp.1 a) (hards_rp h hp.2 b)
end
theorem hardk_rp {K : PySem.W.Frag} {F F' : Hp} (h : ∀ (b : Addr) (xs : List V), Rd F b (.tup xs) → Rd F' b (.tup xs)) : ∀ {v : List (Key × V)} {d : List (Key × D)}, (d.all fun p => p.2.hard) = true → Rpk K F v d → Rpk K F' v d
  | _, _, _, .nil => .nil
  | _, _, hp, .cons a b => by
    simp only [List.all_cons, Bool.and_eq_true] at hp
    exact .cons (hard_rp h hp.1 a) (hardk_rp h hp.2 b)
def Sl.hard : Sl → Bool
  | .lst ds => D.hards ds
  | .dic es => es.all fun p => p.2.hard
  | _ => false
def oLendE (fo : Sls → Option (Sls × Sl)) : Sls → Option (Sls × Sl) := fun e => (fo (e.map viewS)).bind fun p => if p.2.hard = true then some (e, p.2) else none
theorem dow_lendE {K : PySem.W.Frag} {np : Nat} {t : TE} {fo : Sls → Option (Sls × Sl)} (h : DOw K np t fo) : DOw K np t (oLendE fo) := by
  intro B F e σ H Q hn I e' s' hf q
  obtain ⟨⟨e1, s1⟩, h2, hf⟩ := bnd hf
  simp only at hf
  split at hf
  · rename_i hfl
    cases hf
    obtain ⟨sm, J⟩ := I.lendV
    refine h ⟨lendA e σ F H, H, H, B.A, B.np, B.k⟩ _ _ σ H Q hn J e1 _ h2 fun F' b H' s2 I' r f1 f2 f3 ne nc => ?_
    obtain ⟨F2, g1, g2, g3, rd, I2⟩ := I.unlend I'
    have hb : H b = none := f3
    obtain ⟨y1, y2, y3, y4⟩ := I.free (p := b) hb
    refine q F2 b H' g1 I2 ?_ (g3 b f1) y2 y4 (fun j s' q1 o1 q2 => ?_) fun ⟨k, s3, g4, g5⟩ => ?_
    · cases r with
      | lst r1 r2 => exact .lst r1 (hards_rp rd hfl r2)
      | dic r1 r2 => exact .dic r1 (hardk_rp rd hfl r2)
    · obtain ⟨a', e', o', _⟩ := (I.sl j s' _ q1 q2).of_own o1
      cases e'
      exact o'.some hb
    · refine I.ob.there ⟨k, s3, g4, g5.mono fun a' c fs e1 e2 => ?_⟩ hb
      subst e1
      cases ho2 : H a' with
      | none => exact absurd ho2 (I.ob.there (I.ob.top g4 e2))
      | some w => exact g2 a' w ho2
  · cases hf
section
variable {X : Cx} {np i : Nat}
theorem jow_lendE {ex : Expr} {t : TE} {fo : Sls → Option (Sls × Sl)} (h : JOw X np ex t fo) : JOw X np ex t (oLendE fo) := ⟨h.pe, dow_lendE h.de⟩
theorem js_newLcL {y : Str} {py : Pos} {elt tg iter : Expr} {ifs : List Expr} {scope : Scope} {own : List (Str × Nat)} {pos spos : Pos} {wi : TI} {fi : FI} {ts : List Nat} {g : TG} {b : FG} {tt : TT} {c : FT} {te : TE} {f : FE} (hc : X.calm = true) (hN : X.N.Nodup)
    (hi : JI X np tg iter wi fi) (ok : BlkOk X.N X.env.scope scope own)
    (hg : ∀ (s : Shared) (H : Hp) (C : Addr) (cl : List (Str × Addr)) (fp : List Addr), JG (X.blk s H scope (compEnvC scope cl C X.env) fp) np tg ts g b)
    (ht : ∀ (s : Shared) (H : Hp) (C : Addr) (cl : List (Str × Addr)) (fp : List Addr), JTs (X.blk s H scope (compEnvC scope cl C X.env) fp) np ifs tt c)
    (he : ∀ (s : Shared) (H : Hp) (C : Addr) (cl : List (Str × Addr)) (fp : List Addr), JE (X.blk s H scope (compEnvC scope cl C X.env) fp) np elt te f)
    (hts : ∀ i ∈ ts, i ∈ own.map (·.2) := by decide) (hvs : ∀ i ∈ own.map (·.2), np ≤ i := by decide) (hs : ∀ x, foldedSetIterable iter X.env x = pure x := by intro _; rfl)
    (hy : X.N[i]? = some y := by rfl) (hyl : X.env.scope.names.lookup y = some .local := by rfl) (hnp : np ≤ i := by decide)
    (hsw : swapsWith (.ListComp elt [⟨tg, iter, ifs, 0⟩] scope pos) (some (.Name y py)) spos.line X.env = pure true := by rfl) (hx : Loc X.env.scope y := by first | exact Or.inl rfl | exact Or.inr rfl)
    (hf : X.fn y = true ∨ X.env.scope.names.lookup y = some .local := by first | exact .inl rfl | exact .inr rfl) :
    JS X np (.Assign [.Name y py] (.ListComp elt [⟨tg, iter, ifs, 0⟩] scope pos) spos) (tAsg (tLc wi g tt te (own.map (·.2))) (gName i)) (sSetO i (oLendE (oLc fi (own.map (·.2)) b c f))) :=
  js_setO (jow_lendE ⟨pe_lc hc hN hi.pi ok (fun s H C cl fp => (hg s H C cl fp).pg) (fun s H C cl fp => (ht s H C cl fp).pts) (fun s H C cl fp => (he s H C cl fp).pe) hs,
    dow_lc hi.de (hg X.s_0 X.H_0 0 [] []).de (ht X.s_0 X.H_0 0 [] []).de (he X.s_0 X.H_0 0 [] []).de hts hvs⟩)
    (ps_setLc hc hN hy hyl hsw hi.pi ok (fun s H C cl fp => (hg s H C cl fp).pg) (fun s H C cl fp => (ht s H C cl fp).pts) (fun s H C cl fp => (he s H C cl fp).pe) hs) hnp
end
section
variable (s : Sl) (e : Sls)
theorem c_oLendE (fo : Sls → Option (Sls × Sl)) : oLendE fo (s :: e) = (fo ((s :: e).map viewS)).bind fun p => if p.2.hard = true then some (s :: e, p.2) else none := rfl
theorem hard_lst (ds : List D) : Sl.hard (.lst ds) = D.hards ds := rfl
theorem hard_dic (es : List (Key × D)) : Sl.hard (.dic es) = es.all fun p => p.2.hard := rfl
theorem c_sForO (i : Nat) (b : FG) (body : FS) : sForO i b body (s :: e) = match (s :: e)[i]? with
  | some (.lst ds) => forLO i ds b body ds (s :: e)
  | _ => none := rfl
end
/-- going through an own list, by an invariant -/
theorem w_forO {i : Nat} {ds0 : List D} {b : FG} {body : FS} (Inv : List D → Sls → Prop) {ds : List D} {e : Sls} {Q : Sls → Fl → Prop} (h0 : Inv ds e) (hat : ∀ ds e, Inv ds e → e[i]? = some (.lst ds0))
    (hs : ∀ d ds e, Inv (d :: ds) e → W (forStep b body d e) fun e' fl => match fl with | .nx => Inv ds e' | .ct => Inv ds e' | .bk => Q e' .nx | .rt d => Q e' (.rt d) | .ro t => Q e' (.ro t)) (hq : ∀ e, Inv [] e → Q e .nx) : W (forLO i ds0 b body ds e) Q := by
  induction ds generalizing e with
  | nil =>
    rw [forLO, if_pos (hat _ _ h0)]
    exact ⟨_, _, rfl, hq e h0⟩
  | cons d ds ih =>
    obtain ⟨e1, fl, h1, h2⟩ := hs d ds e h0
    obtain ⟨e2, h3, h4⟩ := bnd h1
    rw [forLO, if_pos (hat _ _ h0), h3, Option.bind_some, h4, Option.bind_some]
    cases fl with
    | nx => exact ih h2
    | ct => exact ih h2
    | bk => exact ⟨_, _, rfl, h2⟩
    | rt d => exact ⟨_, _, rfl, h2⟩
    | ro t => exact ⟨_, _, rfl, h2⟩
end M

namespace M
open PySem PySem.Spec PyProof.Rows L2
/-! ### rules for the new combinators, at a state that shows its first slot -/
section
variable (s : Sl) (e : Sls)
theorem c_obAt (c : Str) (i : Nat) : obAt c i (s :: e) = match (s :: e)[i]? with
  | some (.ob c' fs) => if c' = c then some fs else none
  | _ => none := rfl
theorem c_fFldO (c f : Str) (i : Nat) : fFldO c f i (s :: e) = (obAt c i (s :: e)).bind fun fs => match lF f fs with
  | some (.im d) => some (s :: e, d)
  | _ => none := rfl
theorem c_lFld (c f : Str) (i : Nat) : lFld c f i (s :: e) = (obAt c i (s :: e)).bind fun fs => (lF f fs).bind fun d => some (s :: e, d.see) := rfl
theorem c_fOpC (g : D → D → Option D) (l : FL) (fe : FE) : fOpC g l fe (s :: e) = (l (s :: e)).bind fun p => (fe (p.1.map demote)).bind fun q => (g p.2 q.2).bind fun d => some (p.1, d) := rfl
theorem c_fOpL (g : D → D → Option D) (fe : FE) (l : FL) : fOpL g fe l (s :: e) = (fe (s :: e)).bind fun p => (l p.1).bind fun q => (g p.2 q.2).bind fun d => some (q.1, d) := rfl
theorem c_fCBL (g : List D → Option D) (l : FL) : fCBL g l (s :: e) = (l (s :: e)).bind fun p => (g [p.2]).bind fun d => some (p.1, d) := rfl
theorem c_obSet (c f : Str) (i : Nat) (d : Fd) : obSet c f i d (s :: e) = (obAt c i (s :: e)).bind fun fs => if fs.length < 900 then some ((s :: e).set i (.ob c (pF f d fs))) else none := rfl
theorem c_sFldSet (c f : Str) (i : Nat) (fe : FE) : sFldSet c f i fe (s :: e) = (fe (s :: e)).bind fun p => (obSet c f i (.im p.2) p.1).bind fun e2 => some (e2, .nx) := rfl
theorem c_sFldNew (c f : Str) (i : Nat) (fo : Sls → Option (Sls × Sl)) : sFldNew c f i fo (s :: e) = (fo (s :: e)).bind fun p => if p.2.own = true then (obSet c f i p.2.fd p.1).bind fun e2 => some (e2, .nx) else none := rfl
theorem c_sFldAugC (c f : Str) (i : Nat) (k : Int) : sFldAugC c f i k (s :: e) = (obAt c i (s :: e)).bind fun fs => match lF f fs with
  | some (.im (.int j)) => (obSet c f i (.im (.int (j + k))) (s :: e)).bind fun e2 => some (e2, .nx)
  | _ => none := rfl
theorem c_sDPutF (c f : Str) (i : Nat) (fe ge : FE) : sDPutF c f i fe ge (s :: e) = (fe (s :: e)).bind fun p => (obAt c i p.1).bind fun os => match lF f os with
  | some (.dic es) => (ge (p.1.map demote)).bind fun q => q.2.key.bind fun k => if es.length < sizeLine then some (p.1.set i (.ob c (pF f (.dic (putG es k p.2)) os)), .nx) else none
  | _ => none := rfl
theorem c_fMethO (c m : Str) (mir : FC) (i : Nat) (k : FA) : fMethO c m mir i k (s :: e) = (obAt c i (s :: e)).bind fun fs => if lF m fs = none then (k (s :: e)).bind fun q => (fCall2 mir q.1 (.ow i :: q.2)).bind fun r => r.2.see.bind fun d' => some (r.1, d') else none := rfl
theorem c_sMakeO (c : Str) (mir : FC) (i : Nat) (fs : FEs) : sMakeO c mir i fs (s :: e) = (fs (s :: e)).bind fun p => (fCall2 mir (p.1 ++ [.ob c []]) (.ow p.1.length :: p.2.map Arg.im)).bind fun q => match q.1[p.1.length]?, q.2 with
  | some (.ob c' os), .im .non => if i < p.1.length then some (q.1.dropLast.set i (.ob c' os), .nx) else none
  | _, _ => none := rfl
theorem c_lent (m : FC) (k : FKs) : lent m k (s :: e) = (k (s :: e)).bind fun p => (p.2 p.1).bind fun ds => if ds.all notLst = true then (m (ds.map Sl.im)).bind fun q => if q.2.shal = true then some (p.1, q.2) else none else none := rfl
theorem c_fLend (m : FC) (k : FKs) : fLend m k (s :: e) = (lent m k (s :: e)).bind fun p => match p.2 with
  | .im d => some (p.1, d)
  | _ => none := rfl
theorem c_oLend (m : FC) (k : FKs) : oLend m k (s :: e) = (lent m k (s :: e)).bind fun p => if p.2.own = true then some p else none := rfl
end
theorem view_hand (s : Sl) : (viewS s).hand = false := by cases s <;> rfl
theorem g_remove (ds : List D) (y : D) : gRemove (.lst ds) [y] = if remOk ds y then (placeD ds y).bind fun j => some (.lst (ds.eraseIdx j), .non) else none := rfl
theorem g_insert (ds : List D) (i : Int) (y : D) : gInsert (.lst ds) [.int i, y] = if ds.length < sizeLine ∧ 0 ≤ i ∧ i ≤ 8000000 then some (.lst (ds.take i.toNat ++ [y] ++ ds.drop i.toNat), .non) else none := rfl
theorem g_dclear (es : List (Key × D)) : gDClear (.dic es) [] = some (.dic [], .non) := rfl
theorem lF_nil (f : Str) : lF f [] = none := rfl
theorem lF_cons (f g : Str) (x : Fd) (r : List (Str × Fd)) : lF f ((g, x) :: r) = if g = f then some x else lF f r := rfl
theorem pF_nil (f : Str) (d : Fd) : pF f d [] = [(f, d)] := rfl
theorem pF_cons (f g : Str) (d x : Fd) (r : List (Str × Fd)) : pF f d ((g, x) :: r) = if g = f then (g, d) :: r else (g, x) :: pF f d r := rfl
theorem fsee_im (d : D) : Fd.see (.im d) = d := rfl
theorem fsee_lst (d : List D) : Fd.see (.lst d) = .lst d := rfl
theorem fsee_dic (d : List (Key × D)) : Fd.see (.dic d) = .dic d := rfl
theorem sfd_lst (d : List D) : Sl.fd (.lst d) = .lst d := rfl
theorem sfd_dic (d : List (Key × D)) : Sl.fd (.dic d) = .dic d := rfl
theorem d_isN0 : isD .non .non = some (.bl true) := rfl
theorem d_isNS (x : Str) : isD (.str x) .non = some (.bl false) := rfl
theorem d_isNI (x : Int) : isD (.int x) .non = some (.bl false) := rfl
theorem d_isNL (x : List D) : isD (.lst x) .non = some (.bl false) := rfl
theorem d_isNT (x : List D) : isD (.tup x) .non = some (.bl false) := rfl
theorem ne_nilL (ds : List D) (hp : D.plains ds = true) : neD (.lst ds) (.lst []) = some (.bl (!ds.isEmpty)) := by
  have g : (D.lst ds).plain = true ∧ (D.lst []).plain = true ∧ min (D.lst ds).py.depth (D.lst []).py.depth ≤ 200 := ⟨hp, rfl, by
    have : (D.lst []).py.depth ≤ 1 := by simp [D.py, D.pys, PyData.depth, PyData.depthAll]
    omega⟩
  simp only [neD, neQ, eqG]
  rw [if_pos g]
  cases ds with
  | nil => simp [D.py, D.pys, PyData.eqv, PyData.eqvAll]
  | cons d ds => simp [D.py, D.pys, PyData.eqv, PyData.eqvAll]
theorem snoc_of {α : Type} : ∀ {xs : List α}, xs ≠ [] → ∃ ys y, xs = ys ++ [y]
  | [], h => absurd rfl h
  | x :: xs, _ => by
    cases hx : xs with
    | nil => exact ⟨[], x, rfl⟩
    | cons z zs =>
      obtain ⟨ys, y, e⟩ := snoc_of (xs := z :: zs) (by simp)
      exact ⟨x :: ys, y, by rw [e]; rfl⟩
theorem pop_snoc (ds : List D) (d : D) : gPop (.lst (ds ++ [d])) [] = some (.lst ds, d) := by
  rw [g_pop, List.length_append, List.length_singleton, Nat.add_sub_cancel, List.getElem?_append_right (Nat.le_refl _), Nat.sub_self, List.dropLast_concat]
  rfl
/-- a comprehension with a test, that keeps its state -/
theorem w_lc_filt {α : Type} {vs : List Nat} {b : FG} {c : FT} {f : FE} {e : Sls} (i g : α → D) (p : α → Bool) {Q : Sls → List D → Prop} : ∀ {ds : List α} {acc : List D}, acc.length + ds.length ≤ 8000000 →
    (∀ d ∈ ds, ∀ (acc : List D) (R : Sls → List D → Prop), acc.length < sizeLine → R e (if p d = true then acc ++ [g d] else acc) → W (lcStep vs b c f (i d) e acc) R) → Q e (acc ++ (ds.filter p).map g) → W (lcLoop vs b c f (ds.map i) e acc) Q
  | [], acc, _, _, h => ⟨_, _, rfl, by simpa using h⟩
  | d :: ds, acc, hl, hs, h => by
    rw [List.length_cons] at hl
    rw [List.map_cons, lc_step, W_bind]
    refine hs d (List.mem_cons_self ..) acc _ (line_lt (by omega)) ?_
    rw [List.filter_cons] at h
    by_cases z : p d = true
    · rw [if_pos z] at h ⊢
      refine w_lc_filt i g p (ds := ds) (acc := acc ++ [g d]) (by simp; omega) (fun d' hd' => hs d' (List.mem_cons_of_mem _ hd')) ?_
      simpa [List.append_assoc] using h
    · rw [if_neg z] at h ⊢
      exact w_lc_filt i g p (ds := ds) (acc := acc) (by omega) (fun d' hd' => hs d' (List.mem_cons_of_mem _ hd')) h
/-- a dict by comprehension, by an invariant -/
theorem w_dc {vs : List Nat} {b : FG} {c : FT} {fk fv : FE} (Inv : List D → Sls → List (Key × D) → Prop) {ds : List D} {e : Sls} {acc : List (Key × D)} {Q : Sls → List (Key × D) → Prop} (h0 : Inv ds e acc)
    (hs : ∀ d ds e acc, Inv (d :: ds) e acc → W (dcStep vs b c fk fv d e acc) fun e' acc' => Inv ds e' acc') (hq : ∀ e acc, Inv [] e acc → Q e acc) : W (dcLoop vs b c fk fv ds e acc) Q := by
  induction ds generalizing e acc with
  | nil => exact ⟨e, acc, rfl, hq _ _ h0⟩
  | cons d ds ih =>
    rw [dc_step, W_bind]
    exact W_mono (hs _ _ _ _ h0) fun e' acc' h => ih h
/-! ### dicts from names -/
def mapK (N : List Str) (f : Str → D) : List (Key × D) := N.map fun n => (.inr n, f n)
theorem look_mapK {f : Str → D} : ∀ {N : List Str} {a : Str}, a ∈ N → lookK (.inr a) (mapK N f) = some (f a)
  | [], _, h => nomatch h
  | n :: N, a, h => by
    show (if (Sum.inr n : Key) = .inr a then some (f n) else lookK (.inr a) (mapK N f)) = some (f a)
    by_cases z : n = a
    · subst z; rw [if_pos rfl]
    · rw [if_neg (fun y => z (Sum.inr.inj y))]
      exact look_mapK ((List.mem_cons.mp h).resolve_left fun y => z y.symm)
theorem look_mapK_none {f : Str → D} : ∀ {N : List Str} {a : Str}, a ∉ N → lookK (.inr a) (mapK N f) = none
  | [], _, _ => rfl
  | n :: N, a, h => by
    show (if (Sum.inr n : Key) = .inr a then some (f n) else lookK (.inr a) (mapK N f)) = none
    rw [if_neg (fun y => h (by rw [Sum.inr.inj y]; exact List.mem_cons_self ..))]
    exact look_mapK_none fun y => h (List.mem_cons_of_mem _ y)
theorem in_mapK (N : List Str) (f : Str → D) (x : Str) : inD (.str x) (.dic (mapK N f)) = some (.bl (decide (x ∈ N))) := by
  have e : inD (.str x) (.dic (mapK N f)) = some (.bl ((lookK (.inr x) (mapK N f)).isSome)) := rfl
  rw [e]
  by_cases h : x ∈ N
  · rw [look_mapK h]; simp [h]
  · rw [look_mapK_none h]; simp [h]
theorem notin_mapK (N : List Str) (f : Str → D) (x : Str) : notInD (.str x) (.dic (mapK N f)) = some (.bl (!decide (x ∈ N))) := by
  have e : notInD (.str x) (.dic (mapK N f)) = (inQ (.str x) (.dic (mapK N f))).map fun b => .bl (!b) := rfl
  have e2 : inD (.str x) (.dic (mapK N f)) = (inQ (.str x) (.dic (mapK N f))).map .bl := rfl
  rw [in_mapK] at e2
  rw [e]
  cases z : inQ (.str x) (.dic (mapK N f)) with
  | none => rw [z] at e2; cases e2
  | some b => rw [z] at e2; simp at e2; subst e2; simp
theorem ix_mapK {N : List Str} {f : Str → D} {a : Str} (h : a ∈ N) : ixD (.dic (mapK N f)) (.str a) = some (f a) := by
  have e : ixD (.dic (mapK N f)) (.str a) = lookK (.inr a) (mapK N f) := rfl
  rw [e, look_mapK h]
theorem rep_mapK (ks : List Str) : repK ks = mapK ks fun _ => .bl true := rfl
theorem in_rep (ks : List Str) (x : Str) : inD (.str x) (.dic (repK ks)) = some (.bl (decide (x ∈ ks))) := in_mapK ks _ x
theorem notin_rep (ks : List Str) (x : Str) : notInD (.str x) (.dic (repK ks)) = some (.bl (!decide (x ∈ ks))) := notin_mapK ks _ x
theorem rep_len (ks : List Str) : (repK ks).length = ks.length := by rw [repK, List.length_map]
theorem mapK_keys (N : List Str) (f : Str → D) : ((mapK N f).map fun p => keyD p.1) = N.map .str := by
  unfold mapK
  rw [List.map_map]
  rfl
theorem mapK_ok {N : List Str} {f : Str → D} (h : ∀ n ∈ N, sOk n) : ∀ p ∈ mapK N f, keyOk p.1 := fun p hp => by
  obtain ⟨n, hn, rfl⟩ := List.mem_map.mp hp
  exact h n hn
theorem putG_new {es : List (Key × D)} {k : Key} {v : D} (h : lookK k es = none) : putG es k v = es ++ [(k, v)] := by
  unfold putG
  have : (es.any fun p => decide (p.1 = k)) = false := by
    induction es with
    | nil => rfl
    | cons p r ih =>
      obtain ⟨k1, v1⟩ := p
      rw [lookK] at h
      split at h
      · cases h
      · rename_i hne
        simp only [List.any_cons, decide_eq_false hne, Bool.false_or]
        exact ih h
  rw [this]
  rfl
theorem putG_mapK {N : List Str} {f : Str → D} {a : Str} {v : D} (h : a ∉ N) : putG (mapK N f) (.inr a) v = mapK N f ++ [(.inr a, v)] := putG_new (look_mapK_none h)
theorem mapK_snoc {N : List Str} {f g : Str → D} {a : Str} {v : D} (hv : g a = v) (h : ∀ n ∈ N, g n = f n) : mapK N f ++ [(.inr a, v)] = mapK (N ++ [a]) g := by
  unfold mapK
  rw [List.map_append]
  congr 1
  · exact List.map_congr_left fun n hn => by rw [h n hn]
  · rw [← hv]; rfl
end M

namespace K21
open PySem PySem.Spec PyProof.Rows L2 M
noncomputable section
abbrev b_parts_of : FS := sSeq (sIf (fTest (fOp eqD (kE (fOp ixD (kVar 0) (kE (fC (.int 0))))) (kE (fC (.str "app"))))) (sRet (fLst (fCons (fTup (fCons (fOp ixD (kVar 0) (kE (fC (.int 1)))) (fCons (fTup fNil) fNil))) (fCons (fTup (fCons (fOp ixD (kVar 0) (kE (fC (.int 2)))) (fCons (fTup fNil) fNil))) fNil)))) sNil) (sSeq (sIf (fTest (fOp eqD (kE (fOp ixD (kVar 0) (kE (fC (.int 0))))) (kE (fC (.str "fun"))))) (sRet (fLst (fCons (fTup (fCons (fOp ixD (kVar 0) (kE (fC (.int 2)))) (fCons (fTup (fCons (fOp ixD (kVar 0) (kE (fC (.int 1)))) fNil)) fNil))) fNil))) sNil) (sSeq (sIf (fTest (fOp eqD (kE (fOp ixD (kVar 0) (kE (fC (.int 0))))) (kE (fC (.str "let"))))) (sSeq (sSet (fCB tupD (kCons (kE (fLc (fIt (fOp ixD (kVar 0) (kE (fC (.int 1))))) [2, 3] (bTup 2 (bCons (bName 2) (bCons (bName 3) bNil))) fYes (fV 0 2))) kNil)) (bName 1)) (sRet (fOp addD (kE (fLc (fIt (fOp ixD (kVar 0) (kE (fC (.int 1))))) [2, 3] (bTup 2 (bCons (bName 2) (bCons (bName 3) bNil))) fYes (fTup (fCons (fV 0 3) (fCons (fV 0 1) fNil))))) (kE (fLst (fCons (fTup (fCons (fOp ixD (kVar 0) (kE (fC (.int 2)))) (fCons (fV 0 1) fNil))) fNil)))))) sNil) (sSeq (sIf (fTest (fOp eqD (kE (fOp ixD (kVar 0) (kE (fC (.int 0))))) (kE (fC (.str "case"))))) (sRet (fOp addD (kE (fLst (fCons (fTup (fCons (fOp ixD (kVar 0) (kE (fC (.int 1)))) (fCons (fTup fNil) fNil))) fNil))) (kE (fLc (fIt (fOp ixD (kVar 0) (kE (fC (.int 2))))) [4, 1, 5] (bTup 3 (bCons (bName 4) (bCons (bName 1) (bCons (bName 5) bNil)))) fYes (fTup (fCons (fV 0 5) (fCons (fV 0 1) fNil))))))) sNil) (sSeq (sIf (fTest (fOp eqD (kE (fOp ixD (kVar 0) (kE (fC (.int 0))))) (kE (fC (.str "op"))))) (sRet (fLst (fCons (fTup (fCons (fOp ixD (kVar 0) (kE (fC (.int 2)))) (fCons (fTup fNil) fNil))) (fCons (fTup (fCons (fOp ixD (kVar 0) (kE (fC (.int 3)))) (fCons (fTup fNil) fNil))) fNil)))) sNil) (sRet (fLst fNil))))))
def m_parts_of : FC := callF 6 1 0 b_parts_of
abbrev b_gather (m_gather : FC) : FS := sSeq (sIf (fAnd (fTest (fOp eqD (kE (fOp ixD (kVar 0) (kE (fC (.int 0))))) (kE (fC (.str "name"))))) (fTest (fOp notInD (kE (fOp ixD (kVar 0) (kE (fC (.int 1))))) (kVar 1)))) (sDPutN 2 (fC (.bl true)) (fOp ixD (kVar 0) (kE (fC (.int 1))))) sNil) (sFor (fIt (fCall m_parts_of (aIm (fV 3 0) aNil))) (bTup 2 (bCons (bName 3) (bCons (bName 4) bNil))) (sDrop (fCall m_gather (aIm (fV 3 3) (aIm (fOp addD (kVar 1) (kVar 4)) (aOw 2 aNil))))))
def m_gather : Nat → FC
  | 0 => fun _ => none
  | n + 1 => callF 5 3 3 (b_gather (m_gather n))
abbrev b_free_names : FS := sSeq (sSetO 1 (oDic [])) (sSeq (sDrop (fCall (m_gather 100) (aIm (fV 0 0) (aIm (fTup fNil) (aOw 1 aNil))))) (sRet (fCB sortedD (kCons (kVar 1) kNil))))
def m_free_names : FC := callF 2 1 0 b_free_names
abbrev b_mentions_of : FS := sSeq (sSet (fO (oDc (fIt (fV 0 0)) [2, 3, 4] (bTup 3 (bCons (bName 2) (bCons (bName 3) (bCons (bName 4) bNil)))) fYes (fV 0 2) (fC (.bl true)))) (bName 1)) (sRet (fO (oDc (fIt (fV 0 0)) [2, 3, 4] (bTup 3 (bCons (bName 2) (bCons (bName 3) (bCons (bName 4) bNil)))) fYes (fV 0 2) (fLc (fIt (fCall m_free_names (aIm (fV 0 4) aNil))) [5] (bName 5) (fTest (fOp inD (kVar 5) (kVar 1))) (fV 0 5)))))
def m_mentions_of : FC := callF 6 1 0 b_mentions_of
abbrev b_come_to : FS := sSeq (sSetO 2 (oDic [])) (sSeq (sSetO 3 (oCB lstO (kCons (kE (fOp ixD (kVar 0) (kVar 1))) kNil))) (sSeq (sWhile 100000 (fTest (fOp neD (kVar 3) (kE (fLst fNil)))) (sSeq (sSet (fBm "list" 3 gPop fNil) (bName 4)) (sIf (fTest (fOp notInD (kVar 4) (kVar 2))) (sSeq (sDPutN 2 (fC (.bl true)) (fV 0 4)) (sDrop (fBm "list" 3 gExtend (fCons (fOp ixD (kVar 0) (kVar 4)) fNil)))) sNil))) (sRet (fV 0 2))))
def m_come_to : FC := callF 5 2 0 b_come_to
abbrev b_is_free : FS := sSeq (sFor (fIt (fV 0 0)) (bName 3) (sFor (fIt (fOp ixD (kVar 1) (kVar 3))) (bName 4) (sIf (fAnd (fTest (fOp notInD (kVar 4) (kVar 0))) (fTest (fOp notInD (kVar 4) (kVar 2)))) (sRet (fC (.bl false))) sNil))) (sRet (fC (.bl true)))
def m_is_free : FC := callF 5 3 0 b_is_free
abbrev b_ordered : FS := sSeq (sSetO 2 (oCB lstO (kCons (kVar 0) kNil))) (sSeq (sSetO 3 (oLst fNil)) (sSeq (sSetO 4 (oDic [])) (sSeq (sWhile 100000 (fTest (fOp neD (kVar 2) (kE (fLst fNil)))) (sSeq (sSetO 5 (oLendE (oLc (fIt (fV 0 2)) [7] (bName 7) (fTest (fCall m_is_free (aIm (fV 0 7) (aIm (fV 0 1) (aIm (fV 0 4) aNil))))) (fV 0 7)))) (sSeq (sDrop (fAppend 3 (fOp ixD (kVar 5) (kE (fC (.int 0)))))) (sSeq (sDrop (fBm "list" 2 gRemove (fCons (fOp ixD (kVar 5) (kE (fC (.int 0)))) fNil))) (sFor (fIt (fOp ixD (kVar 5) (kE (fC (.int 0))))) (bName 6) (sDPutN 4 (fC (.bl true)) (fV 0 6))))))) (sRetV 0 3))))
def m_ordered : FC := callF 8 2 0 b_ordered
abbrev b_grouped : FS := sSeq (sSet (fCall m_mentions_of (aIm (fV 0 0) aNil)) (bName 1)) (sSeq (sSet (fO (fLk 0 1 (oDc (itK 1) [5] (bName 5) fYes (fV 0 5) (fCall m_come_to (aIm (fV 0 1) (aIm (fV 0 5) aNil)))))) (bName 2)) (sSeq (sSetO 3 (oLst fNil)) (sSeq (sSetO 4 (oDic [])) (sSeq (fLk 0 1 (sFor (itK 1) (bName 5) (sIf (fTest (fOp notInD (kVar 5) (kVar 4))) (sSeq (sSet (fCB tupD (kCons (kE (fLk 0 1 (fLc (itK 1) [7] (bName 7) (fOr (fTest (fOp eqD (kVar 7) (kVar 5))) (fAnd (fTest (fOp inD (kVar 7) (kE (fOp ixD (kVar 2) (kVar 5))))) (fTest (fOp inD (kVar 5) (kE (fOp ixD (kVar 2) (kVar 7))))))) (fV 0 7)))) kNil)) (bName 6)) (sSeq (sDrop (fAppend 3 (fV 0 6))) (sFor (fIt (fV 0 6)) (bName 7) (sDPutN 4 (fC (.bl true)) (fV 0 7))))) sNil))) (sRetO (oCall m_ordered (aIm (fV 0 3) (aIm (fV 0 1) aNil))))))))
def m_grouped : FC := callF 8 1 0 b_grouped
abbrev b_groups_of : FS := sRetO (oCall m_grouped (aIm (fOp ixD (kVar 0) (kE (fC (.int 1)))) aNil))
def m_groups_of : FC := callF 1 1 0 b_groups_of
abbrev b__law_cell_at : FS := sSeq (sIf (fTest (fOp ltD (kVar 1) (kE (fCB lenD (kCons (kVar 0) kNil))))) (sRet (fOp ixD (kVar 0) (kVar 1))) sNil) (sRet (fC (.int 0)))
def m__law_cell_at : FC := callF 2 2 0 b__law_cell_at
abbrev b__law_bag : FS := sSeq (sSet (fOp modD (kE (fOp addD (kE (fOp mulD (kE (fOp modD (kVar 0) (kE (fC (.int 2147483647))))) (kE (fC (.int 69621))))) (kE (fOp mulD (kE (fC (.int 7919))) (kE (fOp powD (kE (fOp addD (kVar 1) (kE (fC (.int 1))))) (kE (fC (.int 3))))))))) (kE (fC (.int 2147483647)))) (bName 2)) (sRetO (oLst (fCons (fCB maxD (kCons (kE (fC (.int 0))) (kCons (kE (fOp subD (kVar 0) (kE (fOp powD (kE (fC (.int 10))) (kE (fC (.int 18))))))) kNil))) (fCons (fV 0 2) (fCons (fV 0 1) fNil)))))
def m__law_bag : FC := callF 3 2 0 b__law_bag
abbrev b__law_draw : FS := sSeq (sIf (fTest (fOp gtD (kE (fOp ixD (kVar 0) (kE (fC (.int 0))))) (kE (fC (.int 0))))) (sSeq (sSet (fOp modD (kE (fOp ixD (kVar 0) (kE (fC (.int 0))))) (kVar 1)) (bName 2)) (sSeq (sSetIx 0 (fOp fdivD (kE (fOp ixD (kVar 0) (kE (fC (.int 0))))) (kVar 1)) (fC (.int 0))) (sRet (fV 1 2)))) sNil) (sSeq (sSetIx 0 (fOp addD (kE (fOp ixD (kVar 0) (kE (fC (.int 2))))) (kE (fC (.int 1)))) (fC (.int 2))) (sSeq (sSetIx 0 (fOp modD (kE (fOp powD (kE (fOp addD (kE (fOp ixD (kVar 0) (kE (fC (.int 1))))) (kE (fOp mulD (kE (fC (.int 15485863))) (kE (fOp ixD (kVar 0) (kE (fC (.int 2))))))))) (kE (fC (.int 5))))) (kE (fC (.int 2147483647)))) (fC (.int 1))) (sRet (fOp modD (kE (fOp fdivD (kE (fOp ixD (kVar 0) (kE (fC (.int 1))))) (kE (fC (.int 128))))) (kVar 1)))))
def m__law_draw : FC := callF 3 2 1 b__law_draw
def b__law_holding_2 : FS := sRet (fV 1 3)
def b__law_holding_1 : FS := sSeq (sFor (fIt (fOp addD (kVar 1) (kE (fCB lstD (kCons (kVar 2) kNil))))) (bName 4) (sSeq (sSet (fTup (fCons (fC (.str "name")) (fCons (fV 1 4) fNil))) (bName 5)) (sSeq (sSet (fCall m__law_draw (aOw 0 (aIm (fC (.int 6)) aNil))) (bName 6)) (sSeq (sIf (fTest (fOp eqD (kVar 6) (kE (fC (.int 0))))) (sSet (fTup (fCons (fC (.str "app")) (fCons (fV 1 3) (fCons (fTup (fCons (fC (.str "fun")) (fCons (fC (.str "q")) (fCons (fTup (fCons (fC (.str "op")) (fCons (fC (.str "+")) (fCons (fV 1 5) (fCons (fTup (fCons (fC (.str "name")) (fCons (fC (.str "q")) fNil))) fNil))))) fNil)))) fNil)))) (bName 3)) sNil) (sSeq (sIf (fTest (fOp eqD (kVar 6) (kE (fC (.int 1))))) (sSet (fTup (fCons (fC (.str "let")) (fCons (fTup (fCons (fTup (fCons (fC (.str "r")) (fCons (fV 1 5) fNil))) (fCons (fTup (fCons (fC (.str "s")) (fCons (fTup (fCons (fC (.str "name")) (fCons (fC (.str "r")) fNil))) fNil))) fNil))) (fCons (fTup (fCons (fC (.str "app")) (fCons (fTup (fCons (fC (.str "name")) (fCons (fC (.str "s")) fNil))) (fCons (fV 1 3) fNil)))) fNil)))) (bName 3)) sNil) (sSeq (sIf (fTest (fOp eqD (kVar 6) (kE (fC (.int 2))))) (sSet (fTup (fCons (fC (.str "case")) (fCons (fV 1 3) (fCons (fTup (fCons (fTup (fCons (fC (.str "True")) (fCons (fTup fNil) (fCons (fV 1 5) fNil)))) (fCons (fTup (fCons (fC (.str "False")) (fCons (fTup fNil) (fCons (fTup (fCons (fC (.str "make")) (fCons (fC (.str "True")) fNil))) fNil)))) fNil))) fNil)))) (bName 3)) sNil) (sSeq (sIf (fTest (fOp eqD (kVar 6) (kE (fC (.int 3))))) (sSet (fTup (fCons (fC (.str "op")) (fCons (fOp ixD (kE (fLst (fCons (fC (.str "+")) (fCons (fC (.str "<")) fNil)))) (kE (fCall m__law_draw (aOw 0 (aIm (fC (.int 2)) aNil))))) (fCons (fV 1 5) (fCons (fV 1 3) fNil))))) (bName 3)) sNil) (sIf (fTest (fOp gtD (kVar 6) (kE (fC (.int 3))))) (sSet (fOp ixD (kE (fLst (fCons (fTup (fCons (fC (.str "app")) (fCons (fV 1 5) (fCons (fV 1 3) fNil)))) (fCons (fTup (fCons (fC (.str "app")) (fCons (fV 1 3) (fCons (fV 1 5) fNil)))) fNil)))) (kE (fOp subD (kVar 6) (kE (fC (.int 4)))))) (bName 3)) sNil)))))))) (b__law_holding_2)
abbrev b__law_holding : FS := sSeq (sSet (fTup (fCons (fC (.str "num")) (fCons (fCall m__law_draw (aOw 0 (aIm (fC (.int 50)) aNil))) fNil))) (bName 3)) (b__law_holding_1)
def m__law_holding : FC := callF 7 3 1 b__law_holding
def b__law_program_7 : FS := sRet (fTup (fCons (fTup (fCons (fTup fNil) (fCons (fCB tupD (kCons (kVar 4) kNil)) fNil))) (fCons (fV 1 5) fNil)))
def b__law_program_6 : FS := sSeq (sFor (fEnumX (fCons (fV 1 2) fNil)) (bTup 2 (bCons (bName 3) (bCons (bName 7) bNil))) (sSeq (sSetO 8 (oLst fNil)) (sSeq (sFor (fRng1 (kCons (kE (fCall m__law_draw (aOw 0 (aIm (fC (.int 4)) aNil)))) kNil)) (bName 9) (sSeq (sSet (fOp ixD (kVar 2) (kE (fCall m__law_draw (aOw 0 (aIm (fV 1 1) aNil))))) (bName 10)) (sSeq (sIf (fTest (fOp eqD (kVar 6) (kE (fC (.int 0))))) (sSet (fOp ixD (kVar 2) (kE (fOp modD (kE (fOp addD (kVar 3) (kE (fC (.int 1))))) (kVar 1)))) (bName 10)) sNil) (sSeq (sIf (fTest (fOp eqD (kVar 6) (kE (fC (.int 1))))) (sSet (fOp ixD (kVar 2) (kE (fCB maxD (kCons (kE (fC (.int 0))) (kCons (kE (fOp subD (kE (fOp subD (kVar 3) (kE (fC (.int 1))))) (kE (fCall m__law_draw (aOw 0 (aIm (fC (.int 2)) aNil)))))) kNil))))) (bName 10)) sNil) (sIf (fTest (fOp notInD (kVar 10) (kVar 8))) (sDrop (fAppend 8 (fV 1 10))) sNil))))) (sSeq (sDPutN 5 (fV 1 8) (fV 1 7)) (sSeq (sSet (fCB tupD (kCons (kE (fSl (kE (fLst (fCons (fC (.str "x")) (fCons (fC (.str "y")) fNil)))) fNoPart (fPart (fCall m__law_draw (aOw 0 (aIm (fC (.int 3)) aNil)))))) kNil)) (bName 11)) (sDrop (fAppend 4 (fTup (fCons (fV 1 7) (fCons (fV 1 11) (fCons (fCall m__law_holding (aOw 0 (aIm (fV 1 8) (aIm (fV 1 11) aNil)))) fNil))))))))))) (b__law_program_7)
def b__law_program_5 : FS := sSeq (sSet (fCall m__law_draw (aOw 0 (aIm (fC (.int 4)) aNil))) (bName 6)) (b__law_program_6)
def b__law_program_4 : FS := sSeq (sSetO 5 (oDic [])) (b__law_program_5)
def b__law_program_3 : FS := sSeq (sSetO 4 (oLst fNil)) (b__law_program_4)
def b__law_program_2 : FS := sSeq (sFor (fRng1 (kCons (kVar 1) kNil)) (bName 3) (sDrop (fBm "list" 2 gInsert (fCons (fCall m__law_draw (aOw 0 (aIm (fOp addD (kE (fCB lenD (kCons (kVar 2) kNil))) (kE (fC (.int 1)))) aNil))) (fCons (fOp addD (kE (fOp ixD (kE (fC (.str "abefghjkm"))) (kVar 3))) (kE (fSl (kE (fC (.str "nop"))) fNoPart (fPart (fCall m__law_draw (aOw 0 (aIm (fC (.int 4)) aNil))))))) fNil))))) (b__law_program_3)
def b__law_program_1 : FS := sSeq (sSetO 2 (oLst fNil)) (b__law_program_2)
abbrev b__law_program : FS := sSeq (sSet (fOp addD (kE (fC (.int 1))) (kE (fCall m__law_draw (aOw 0 (aIm (fC (.int 9)) aNil))))) (bName 1)) (b__law_program_1)
def m__law_program : FC := callF 12 1 1 b__law_program
def b__law_due_7 : FS := sRet (fV 0 6)
def b__law_due_6 : FS := sSeq (sWhile 100000 (fTest (fOp neD (kVar 4) (kE (fLst fNil)))) (sSeq (sSetO 8 (oLst fNil)) (sSeq (sForO 4 (bName 5) (sIf (fTest (fCB allD (kCons (kE (fLc (fRng1 (kCons (kE (fCB lenD (kCons (kVar 0) kNil))) kNil)) [12] (bName 12) (fTest (fOp ixD (kE (fOp ixD (kVar 2) (kE (fOp ixD (kVar 5) (kE (fC (.int 0))))))) (kVar 12))) (fOrV (fOp inD (kVar 12) (kVar 7)) (fOp inD (kVar 12) (kVar 5))))) kNil))) (sDrop (fAppend 8 (fV 5 5))) sNil)) (sSeq (sDrop (fAppend 6 (fCB tupD (kCons (kE (fLc (fIt (fOp ixD (kVar 8) (kE (fC (.int 0))))) [12] (bName 12) fYes (fOp ixD (kVar 0) (kVar 12)))) kNil)))) (sSeq (sSet (fOp addD (kVar 7) (kE (fOp ixD (kVar 8) (kE (fC (.int 0)))))) (bName 7)) (sDrop (fBm "list" 4 gRemove (fCons (fOp ixD (kVar 8) (kE (fC (.int 0)))) fNil)))))))) (b__law_due_7)
def b__law_due_5 : FS := sSeq (sSet (fLst fNil) (bName 7)) (b__law_due_6)
def b__law_due_4 : FS := sSeq (sSetO 6 (oLst fNil)) (b__law_due_5)
def b__law_due_3 : FS := sSeq (sFor (fRng1 (kCons (kE (fCB lenD (kCons (kVar 0) kNil))) kNil)) (bName 3) (sSeq (sSet (fLc (fRng1 (kCons (kE (fCB lenD (kCons (kVar 0) kNil))) kNil)) [12] (bName 12) (fOr (fTest (fOp eqD (kVar 12) (kVar 3))) (fAnd (fTest (fOp ixD (kE (fOp ixD (kVar 2) (kVar 3))) (kVar 12))) (fTest (fOp ixD (kE (fOp ixD (kVar 2) (kVar 12))) (kVar 3))))) (fV 0 12)) (bName 5)) (sIf (fTest (fOp notInW (kVar 5) (kVar 4))) (sDrop (fAppend 4 (fV 0 5))) sNil))) (b__law_due_4)
def b__law_due_2 : FS := sSeq (sSetO 4 (oLst fNil)) (b__law_due_3)
def b__law_due_1 : FS := sSeq (sFor (fRng1 (kCons (kE (fCB lenD (kCons (kVar 0) kNil))) kNil)) (bName 3) (sSet (fLc (fIt (fV 0 2)) [11] (bName 11) fYes (fLc (fRng1 (kCons (kE (fCB lenD (kCons (kVar 0) kNil))) kNil)) [12] (bName 12) fYes (fOrV (fOp ixD (kVar 11) (kVar 12)) (fAndV (fOp ixD (kVar 11) (kVar 3)) (fOp ixD (kE (fOp ixD (kVar 2) (kVar 3))) (kVar 12)))))) (bName 2))) (b__law_due_2)
abbrev b__law_due : FS := sSeq (sSet (fLc (fIt (fV 0 0)) [9] (bName 9) fYes (fLc (fIt (fV 0 0)) [10] (bName 10) fYes (fOp inD (kVar 10) (kE (fOp ixD (kVar 1) (kVar 9)))))) (bName 2)) (b__law_due_1)
def m__law_due : FC := callF 13 2 0 b__law_due
abbrev b__law_right : FS := sSeq (sSet (fCall m__law_program (aOw 0 aNil)) (bTup 2 (bCons (bName 1) (bCons (bName 2) bNil)))) (sSeq (sSetO 3 (oCall m_groups_of (aIm (fV 1 1) aNil))) (sSeq (sSet (fCall m__law_due (aIm (fLc (fIt (fOp ixD (kVar 1) (kE (fC (.int 1))))) [5] (bName 5) fYes (fOp ixD (kVar 5) (kE (fC (.int 0))))) (aIm (fV 1 2) aNil))) (bName 4)) (sSeq (sIf (fOr (fNot (fTest (fCB isaD (kCons (kVar 3) (kCons (kE (fC (.ty "list"))) kNil))))) (fOr (fNot (fTest (fLendE (fCB allD (kCons (kE (fLc (fIt (fV 1 3)) [5] (bName 5) fYes (fCB isaD (kCons (kVar 5) (kCons (kE (fC (.ty "tuple"))) kNil))))) kNil))))) (fTest (fOp neD (kVar 3) (kVar 4))))) (sRet (fC (.bl false))) sNil) (sSeq (sDrop (fBm "list" 3 gReverse fNil)) (sSeq (sDrop (fAppend 3 (fTup fNil))) (sRet (fOp eqD (kE (fCall m_groups_of (aIm (fV 1 1) aNil))) (kVar 4))))))))
def m__law_right : FC := callF 6 1 1 b__law_right
abbrev b_law : FS := sSeq (sFor (fRng1 (kCons (kE (fCB maxD (kCons (kE (fC (.int 1))) (kCons (kE (fCB minD (kCons (kE (fCB lenD (kCons (kVar 0) kNil))) (kCons (kE (fC (.int 8))) kNil)))) kNil)))) kNil)) (bName 1) (sIf (fNot (fTest (fCall1 m__law_right (oCall m__law_bag (aIm (fCall m__law_cell_at (aIm (fV 0 0) (aIm (fV 0 1) aNil))) (aIm (fV 0 1) aNil)))))) (sRet (fC (.bl false))) sNil)) (sRet (fC (.bl true)))
def m_law : FC := callF 2 1 0 b_law
end
end K21

namespace K21
open PySem PySem.Spec PyProof.Rows L2 M
def topS (i : Nat) : Stmt := PySem.Challenge.pw_lateloom_k21_groups.main.body.getD i (.Pass ⟨0, 0, 0, 0⟩)
section
variable {P : Program} {w : World} {K : PySem.W.Frag} {mg : Str → Option Value} {base : Heap}
abbrev ns_parts_of : List Str := ["term", "names", "name", "part", "maker", "body"]
theorem sc_parts_of : FnScope ns_parts_of ["term"] (defScope (topS 1)) := ⟨rfl, rfl, rfl, by decide +kernel, rfl, by decide +kernel, by decide +kernel⟩
set_option maxHeartbeats 4000000 in
theorem w_parts_of (S : Src K mg "parts_of" (topS 1) ["term"]) (h_tuple : mg "tuple" = none) : DefOk P w K mg base "parts_of" ["term"] 1 1 m_parts_of := by
  exact src_ok (np := 0) (fb := b_parts_of) S sc_parts_of rfl (by decide) (fun f cdv A outer s H E hr =>
    have hu := hu200 hr
    jss_cons (js_if (jt_cmp (oeq (K := K) hu) (om_eq (K := K)) (JE.k (je_ix (oix (K := K) hu) (om_ix (K := K)) (jk_var 0 (pv 0)) (JE.k je_int) (fun _ _ => rfl))) (JE.k je_str) (nomark _)) (jss_one (js_ret (je_lst (jes_cons (je_tup (jes_cons (je_ix (oix (K := K) hu) (om_ix (K := K)) (jk_var 0 (pv 0)) (JE.k je_int) (fun _ _ => rfl)) (jes_cons (je_tup jes_nil) jes_nil))) (jes_cons (je_tup (jes_cons (je_ix (oix (K := K) hu) (om_ix (K := K)) (jk_var 0 (pv 0)) (JE.k je_int) (fun _ _ => rfl)) (jes_cons (je_tup jes_nil) jes_nil))) jes_nil))))) jss_nil) (jss_cons (js_if (jt_cmp (oeq (K := K) hu) (om_eq (K := K)) (JE.k (je_ix (oix (K := K) hu) (om_ix (K := K)) (jk_var 0 (pv 0)) (JE.k je_int) (fun _ _ => rfl))) (JE.k je_str) (nomark _)) (jss_one (js_ret (je_lst (jes_cons (je_tup (jes_cons (je_ix (oix (K := K) hu) (om_ix (K := K)) (jk_var 0 (pv 0)) (JE.k je_int) (fun _ _ => rfl)) (jes_cons (je_tup (jes_cons (je_ix (oix (K := K) hu) (om_ix (K := K)) (jk_var 0 (pv 0)) (JE.k je_int) (fun _ _ => rfl)) jes_nil)) jes_nil))) jes_nil)))) jss_nil) (jss_cons (js_if (jt_cmp (oeq (K := K) hu) (om_eq (K := K)) (JE.k (je_ix (oix (K := K) hu) (om_ix (K := K)) (jk_var 0 (pv 0)) (JE.k je_int) (fun _ _ => rfl))) (JE.k je_str) (nomark _)) (jss_cons (js_set (i := 1) sc_parts_of.nd (je_callTy (otup (K := K)) (cm_tup (K := K)) (by rfl) h_tuple (by decide +kernel) (jks_cons (JE.k (je_lc (own := [("name", 2), ("part", 3)]) (by rfl) sc_parts_of.nd (jseq (K := K) (je_ix (oix (K := K) hu) (om_ix (K := K)) (jk_var 0 (pv 0)) (JE.k je_int) (fun _ _ => rfl))) (blkOk_by (N := ns_parts_of) (sc := defScope (topS 1)) (by decide +kernel)) (fun _ _ _ _ _ => jtup (K := K) (by rfl) (jgs_cons (jname (i := 2) sc_parts_of.nd) (jgs_cons (jname (i := 3) sc_parts_of.nd) jgs_nil))) (fun _ _ _ _ _ => jts_nil) (fun _ _ _ _ _ => je_var 2 (pv 2)))) jks_nil))) (jss_one (js_ret (je_op (oadd (K := K)) (om_add (K := K)) (JE.k (je_lc (own := [("name", 2), ("part", 3)]) (by rfl) sc_parts_of.nd (jseq (K := K) (je_ix (oix (K := K) hu) (om_ix (K := K)) (jk_var 0 (pv 0)) (JE.k je_int) (fun _ _ => rfl))) (blkOk_by (N := ns_parts_of) (sc := defScope (topS 1)) (by decide +kernel)) (fun _ _ _ _ _ => jtup (K := K) (by rfl) (jgs_cons (jname (i := 2) sc_parts_of.nd) (jgs_cons (jname (i := 3) sc_parts_of.nd) jgs_nil))) (fun _ _ _ _ _ => jts_nil) (fun _ _ _ _ _ => je_tup (jes_cons (je_var 3 (pv 3)) (jes_cons (je_var 1 (pv 1)) jes_nil))))) (JE.k (je_lst (jes_cons (je_tup (jes_cons (je_ix (oix (K := K) hu) (om_ix (K := K)) (jk_var 0 (pv 0)) (JE.k je_int) (fun _ _ => rfl)) (jes_cons (je_var 1 (pv 1)) jes_nil))) jes_nil))))))) jss_nil) (jss_cons (js_if (jt_cmp (oeq (K := K) hu) (om_eq (K := K)) (JE.k (je_ix (oix (K := K) hu) (om_ix (K := K)) (jk_var 0 (pv 0)) (JE.k je_int) (fun _ _ => rfl))) (JE.k je_str) (nomark _)) (jss_one (js_ret (je_op (oadd (K := K)) (om_add (K := K)) (JE.k (je_lst (jes_cons (je_tup (jes_cons (je_ix (oix (K := K) hu) (om_ix (K := K)) (jk_var 0 (pv 0)) (JE.k je_int) (fun _ _ => rfl)) (jes_cons (je_tup jes_nil) jes_nil))) jes_nil))) (JE.k (je_lc (own := [("maker", 4), ("names", 1), ("body", 5)]) (by rfl) sc_parts_of.nd (jseq (K := K) (je_ix (oix (K := K) hu) (om_ix (K := K)) (jk_var 0 (pv 0)) (JE.k je_int) (fun _ _ => rfl))) (blkOk_by (N := ns_parts_of) (sc := defScope (topS 1)) (by decide +kernel)) (fun _ _ _ _ _ => jtup (K := K) (by rfl) (jgs_cons (jname (i := 4) sc_parts_of.nd) (jgs_cons (jname (i := 1) sc_parts_of.nd) (jgs_cons (jname (i := 5) sc_parts_of.nd) jgs_nil)))) (fun _ _ _ _ _ => jts_nil) (fun _ _ _ _ _ => je_tup (jes_cons (je_var 5 (pv 5)) (jes_cons (je_var 1 (pv 1)) jes_nil)))))))) jss_nil) (jss_cons (js_if (jt_cmp (oeq (K := K) hu) (om_eq (K := K)) (JE.k (je_ix (oix (K := K) hu) (om_ix (K := K)) (jk_var 0 (pv 0)) (JE.k je_int) (fun _ _ => rfl))) (JE.k je_str) (nomark _)) (jss_one (js_ret (je_lst (jes_cons (je_tup (jes_cons (je_ix (oix (K := K) hu) (om_ix (K := K)) (jk_var 0 (pv 0)) (JE.k je_int) (fun _ _ => rfl)) (jes_cons (je_tup jes_nil) jes_nil))) (jes_cons (je_tup (jes_cons (je_ix (oix (K := K) hu) (om_ix (K := K)) (jk_var 0 (pv 0)) (JE.k je_int) (fun _ _ => rfl)) (jes_cons (je_tup jes_nil) jes_nil))) jes_nil))))) jss_nil) (jss_one (js_ret (je_lst jes_nil)))))))) rfl
abbrev ns_gather : List Str := ["term", "bound", "found", "part", "names"]
theorem sc_gather : FnScope ns_gather ["term", "bound", "found"] (defScope (topS 3)) := ⟨rfl, rfl, rfl, by decide +kernel, rfl, by decide +kernel, by decide +kernel⟩
set_option maxHeartbeats 4000000 in
theorem t_gather (n : Nat) (S : Src K mg "gather" (topS 3) ["term", "bound", "found"]) (c_parts_of : DefOk P w K mg base "parts_of" ["term"] 1 1 m_parts_of) (c_gather : DefOk P w K mg base "gather" ["term", "bound", "found"] (n + 2) 3 (m_gather n)) : DefOk P w K mg base "gather" ["term", "bound", "found"] (n + 1 + 2) 3 (m_gather (n + 1)) := by
  exact DefOk.level (src_ok (k := n + 2) (np := 3) (fb := b_gather (m_gather n)) S sc_gather rfl (by decide) (fun f cdv A outer s H E hr =>
    have hu := hu200 hr
    jss_cons (js_if (JW.t (jw_and (jt_cmp (oeq (K := K) hu) (om_eq (K := K)) (JE.k (je_ix (oix (K := K) hu) (om_ix (K := K)) (jk_var 0 (pv 0)) (JE.k je_int) (fun _ _ => rfl))) (JE.k je_str) (nomark _)) (jw_and1 (jt_cmp (onin (K := K) hu) (om_notIn (K := K)) (JE.k (je_ix (oix (K := K) hu) (om_ix (K := K)) (jk_var 0 (pv 0)) (JE.k je_int) (fun _ _ => rfl))) (jk_var 1 (pv 1)) (by first | rfl | with_unfolding_all rfl))))) (jss_one (jdput hu je_bl (pv 2) (je_ix (oix (K := K) hu) (om_ix (K := K)) (jk_var 0 (pv 0)) (JE.k je_int) (fun _ _ => rfl)))) jss_nil) (jss_one (js_for PassesOwn.never (by rfl) (jseq (K := K) (jcall (K := K) c_parts_of (hr.mono (by omega)) (by rfl) (ja_im (je_var 0 (pv 0)) ja_nil))) (jtup (K := K) (by rfl) (jgs_cons (jname (i := 3) sc_gather.nd) (jgs_cons (jname (i := 4) sc_gather.nd) jgs_nil))) (jss_one (js_expr (jcall (K := K) c_gather (hr.mono (by omega)) (by rfl) (ja_im (je_var 3 (pv 3)) (ja_im (je_op (oadd (K := K)) (om_add (K := K)) (jk_var 1 (pv 1)) (jk_var 4 (pv 4))) (ja_ow 2 (pv 2) ja_nil))))))))) (by rw [m_gather] <;> rfl)) (by omega)
theorem w_gather (S_gather : Src K mg "gather" (topS 3) ["term", "bound", "found"]) (c_parts_of : DefOk P w K mg base "parts_of" ["term"] 1 1 m_parts_of) : ∀ n : Nat, DefOk P w K mg base "gather" ["term", "bound", "found"] (n + 2) 3 (m_gather n)
  | 0 => (src_none S_gather (fun _ => by rw [m_gather] <;> rfl)).level (Nat.zero_le _)
  | n + 1 => by
    have ih := w_gather S_gather c_parts_of n
    exact t_gather n S_gather c_parts_of ih
abbrev ns_free_names : List Str := ["term", "found"]
theorem sc_free_names : FnScope ns_free_names ["term"] (defScope (topS 4)) := ⟨rfl, rfl, rfl, by decide +kernel, rfl, by decide +kernel, by decide +kernel⟩
set_option maxHeartbeats 4000000 in
theorem w_free_names (S : Src K mg "free_names" (topS 4) ["term"]) (h_sorted : mg "sorted" = none) (c_gather : DefOk P w K mg base "gather" ["term", "bound", "found"] 102 3 (m_gather 100)) : DefOk P w K mg base "free_names" ["term"] 103 1 m_free_names := by
  exact src_ok (np := 0) (fb := b_free_names) S sc_free_names rfl (by decide) (fun f cdv A outer s H E hr =>
    have hu := hu200 hr
    jss_cons (js_new (i := 1) sc_free_names.nd jow_dic0) (jss_cons (js_expr (jcall (K := K) c_gather (hr.mono (by decide)) (by rfl) (ja_im (je_var 0 (pv 0)) (ja_im (je_tup jes_nil) (ja_ow 1 (pv 1) ja_nil))))) (jss_one (js_ret (je_callB (osorted (K := K)) cm_sorted (by rfl) h_sorted (by decide +kernel) (jks_cons (jk_var 1 (pv 1)) jks_nil)))))) rfl
abbrev ns_mentions_of : List Str := ["defs", "names", "name", "params", "body", "one"]
theorem sc_mentions_of : FnScope ns_mentions_of ["defs"] (defScope (topS 6)) := ⟨rfl, rfl, rfl, by decide +kernel, rfl, by decide +kernel, by decide +kernel⟩
set_option maxHeartbeats 4000000 in
theorem w_mentions_of (S : Src K mg "mentions_of" (topS 6) ["defs"]) (c_free_names : DefOk P w K mg base "free_names" ["term"] 103 1 m_free_names) : DefOk P w K mg base "mentions_of" ["defs"] 104 1 m_mentions_of := by
  exact src_ok (np := 0) (fb := b_mentions_of) S sc_mentions_of rfl (by decide) (fun f cdv A outer s H E hr =>
    have hu := hu200 hr
    jss_cons (js_set (i := 1) sc_mentions_of.nd (je_o (jow_dc (own := [("name", 2), ("params", 3), ("body", 4)]) (by rfl) sc_mentions_of.nd (jseq (K := K) (je_var 0 (pv 0))) (blkOk_by (N := ns_mentions_of) (sc := defScope (topS 6)) (by decide +kernel)) (fun _ _ _ _ _ => jtup (K := K) (by rfl) (jgs_cons (jname (i := 2) sc_mentions_of.nd) (jgs_cons (jname (i := 3) sc_mentions_of.nd) (jgs_cons (jname (i := 4) sc_mentions_of.nd) jgs_nil)))) (fun _ _ _ _ _ => jts_nil) (fun _ _ _ _ _ => je_var 2 (pv 2)) (fun _ _ _ _ _ => je_bl)))) (jss_one (js_ret (je_o (jow_dc (own := [("name", 2), ("params", 3), ("body", 4)]) (by rfl) sc_mentions_of.nd (jseq (K := K) (je_var 0 (pv 0))) (blkOk_by (N := ns_mentions_of) (sc := defScope (topS 6)) (by decide +kernel)) (fun _ _ _ _ _ => jtup (K := K) (by rfl) (jgs_cons (jname (i := 2) sc_mentions_of.nd) (jgs_cons (jname (i := 3) sc_mentions_of.nd) (jgs_cons (jname (i := 4) sc_mentions_of.nd) jgs_nil)))) (fun _ _ _ _ _ => jts_nil) (fun _ _ _ _ _ => je_var 2 (pv 2)) (fun _ _ _ _ _ => je_lc (own := [("one", 5)]) (by rfl) sc_mentions_of.nd (jseq (K := K) (jcall (K := K) c_free_names (hr.mono (by decide)) (by rfl) (ja_im (je_var 4 (pv 4)) ja_nil))) (blkOk_by (by first | rfl | with_unfolding_all rfl)) (fun _ _ _ _ _ => jname (i := 5) sc_mentions_of.nd) (fun _ _ _ _ _ => jts_one (jt_cmp (oin (K := K) hu) (om_in (K := K)) (jk_var 5 (pv 5)) (jk_var 1 (pv 1)) (by first | rfl | with_unfolding_all rfl))) (fun _ _ _ _ _ => je_var 5 (pv 5)))))))) rfl
abbrev ns_come_to : List Str := ["mentions", "name", "found", "left", "one"]
theorem sc_come_to : FnScope ns_come_to ["mentions", "name"] (defScope (topS 7)) := ⟨rfl, rfl, rfl, by decide +kernel, rfl, by decide +kernel, by decide +kernel⟩
set_option maxHeartbeats 4000000 in
theorem w_come_to (S : Src K mg "come_to" (topS 7) ["mentions", "name"]) (h_list : mg "list" = none) : DefOk P w K mg base "come_to" ["mentions", "name"] 1 2 m_come_to := by
  exact src_ok (np := 0) (fb := b_come_to) S sc_come_to rfl (by decide) (fun f cdv A outer s H E hr =>
    have hu := hu200 hr
    jss_cons (js_new (i := 2) sc_come_to.nd jow_dic0) (jss_cons (js_new (i := 3) sc_come_to.nd (jow_callTy (olst (K := K)) co_lst (by rfl) h_list (by decide +kernel) (jks_cons (JE.k (je_ix (oix (K := K) hu) (om_ix (K := K)) (jk_var 0 (pv 0)) (jk_var 1 (pv 1)) (fun _ _ => rfl))) jks_nil))) (jss_cons (js_while (n := 100000) PassesOwn.never (jt_cmp (one (K := K) hu) (om_ne (K := K)) (jk_var 3 (pv 3)) (JE.k (je_lst jes_nil)) (nomark _)) (jss_cons (js_set (i := 4) sc_come_to.nd (jpop (K := K) (pv 3))) (jss_one (js_if (jt_cmp (onin (K := K) hu) (om_notIn (K := K)) (jk_var 4 (pv 4)) (jk_var 2 (pv 2)) (by first | rfl | with_unfolding_all rfl)) (jss_cons (jdput hu je_bl (pv 2) (je_var 4 (pv 4))) (jss_one (js_expr (jextend (K := K) (pv 3) (je_ix (oix (K := K) hu) (om_ix (K := K)) (jk_var 0 (pv 0)) (jk_var 4 (pv 4)) (fun _ _ => rfl)))))) jss_nil)))) (jss_one (js_ret (je_var 2 (pv 2))))))) rfl
abbrev ns_is_free : List Str := ["group", "mentions", "placed", "name", "one"]
theorem sc_is_free : FnScope ns_is_free ["group", "mentions", "placed"] (defScope (topS 10)) := ⟨rfl, rfl, rfl, by decide +kernel, rfl, by decide +kernel, by decide +kernel⟩
set_option maxHeartbeats 4000000 in
theorem w_is_free (S : Src K mg "is_free" (topS 10) ["group", "mentions", "placed"])  : DefOk P w K mg base "is_free" ["group", "mentions", "placed"] 1 3 m_is_free := by
  exact src_ok (np := 0) (fb := b_is_free) S sc_is_free rfl (by decide) (fun f cdv A outer s H E hr =>
    have hu := hu200 hr
    jss_cons (js_for PassesOwn.never (by rfl) (jseq (K := K) (je_var 0 (pv 0))) (jname (i := 3) sc_is_free.nd) (jss_one (js_for PassesOwn.never (by rfl) (jseq (K := K) (je_ix (oix (K := K) hu) (om_ix (K := K)) (jk_var 1 (pv 1)) (jk_var 3 (pv 3)) (fun _ _ => rfl))) (jname (i := 4) sc_is_free.nd) (jss_one (js_if (JW.t (jw_and (jt_cmp (onin (K := K) hu) (om_notIn (K := K)) (jk_var 4 (pv 4)) (jk_var 0 (pv 0)) (by first | rfl | with_unfolding_all rfl)) (jw_and1 (jt_cmp (onin (K := K) hu) (om_notIn (K := K)) (jk_var 4 (pv 4)) (jk_var 2 (pv 2)) (by first | rfl | with_unfolding_all rfl))))) (jss_one (js_ret je_bl)) jss_nil))))) (jss_one (js_ret je_bl))) rfl
abbrev ns_ordered : List Str := ["groups", "mentions", "left", "found", "placed", "free", "name", "group"]
theorem sc_ordered : FnScope ns_ordered ["groups", "mentions"] (defScope (topS 9)) := ⟨rfl, rfl, rfl, by decide +kernel, rfl, by decide +kernel, by decide +kernel⟩
set_option maxHeartbeats 4000000 in
theorem w_ordered (S : Src K mg "ordered" (topS 9) ["groups", "mentions"]) (h_list : mg "list" = none) (c_is_free : DefOk P w K mg base "is_free" ["group", "mentions", "placed"] 1 3 m_is_free) : DefOk P w K mg base "ordered" ["groups", "mentions"] 2 2 m_ordered := by
  exact src_ok (np := 0) (fb := b_ordered) S sc_ordered rfl (by decide) (fun f cdv A outer s H E hr =>
    have hu := hu200 hr
    jss_cons (js_new (i := 2) sc_ordered.nd (jow_callTy (olst (K := K)) co_lst (by rfl) h_list (by decide +kernel) (jks_cons (jk_var 0 (pv 0)) jks_nil))) (jss_cons (js_new (i := 3) sc_ordered.nd (jow_lst jes_nil)) (jss_cons (js_new (i := 4) sc_ordered.nd jow_dic0) (jss_cons (js_while (n := 100000) PassesOwn.never (jt_cmp (one (K := K) hu) (om_ne (K := K)) (jk_var 2 (pv 2)) (JE.k (je_lst jes_nil)) (nomark _)) (jss_cons (js_newLcL (i := 5) (own := [("group", 7)]) (by rfl) sc_ordered.nd (jseq (K := K) (je_var 2 (pv 2))) (blkOk_by (N := ns_ordered) (sc := defScope (topS 9)) (by decide +kernel)) (fun _ _ _ _ _ => jname (i := 7) sc_ordered.nd) (fun _ _ _ _ _ => jts_one (jt_val (jcall (K := K) c_is_free (hr.mono (by decide)) (by rfl) (ja_im (je_var 7 (pv 7)) (ja_im (je_var 1 (pv 1)) (ja_im (je_var 4 (pv 4)) ja_nil)))))) (fun _ _ _ _ _ => je_var 7 (pv 7))) (jss_cons (js_expr (jappend (K := K) (pv 3) (je_ix (oix (K := K) hu) (om_ix (K := K)) (jk_var 5 (pv 5)) (JE.k je_int) (fun _ _ => rfl)))) (jss_cons (js_expr (jremove (K := K) hu (pv 2) (je_ix (oix (K := K) hu) (om_ix (K := K)) (jk_var 5 (pv 5)) (JE.k je_int) (fun _ _ => rfl)))) (jss_one (js_for PassesOwn.never (by rfl) (jseq (K := K) (je_ix (oix (K := K) hu) (om_ix (K := K)) (jk_var 5 (pv 5)) (JE.k je_int) (fun _ _ => rfl))) (jname (i := 6) sc_ordered.nd) (jss_one (jdput hu je_bl (pv 4) (je_var 6 (pv 6)))))))))) (jss_one (js_retV 3 (pv 3))))))) rfl
abbrev ns_grouped : List Str := ["defs", "mentions", "reach", "groups", "seen", "name", "group", "one"]
theorem sc_grouped : FnScope ns_grouped ["defs"] (defScope (topS 8)) := ⟨rfl, rfl, rfl, by decide +kernel, rfl, by decide +kernel, by decide +kernel⟩
set_option maxHeartbeats 4000000 in
theorem w_grouped (S : Src K mg "grouped" (topS 8) ["defs"]) (h_tuple : mg "tuple" = none) (c_ordered : DefOk P w K mg base "ordered" ["groups", "mentions"] 2 2 m_ordered) (c_come_to : DefOk P w K mg base "come_to" ["mentions", "name"] 1 2 m_come_to) (c_mentions_of : DefOk P w K mg base "mentions_of" ["defs"] 104 1 m_mentions_of) : DefOk P w K mg base "grouped" ["defs"] 105 1 m_grouped := by
  exact src_ok (np := 0) (fb := b_grouped) S sc_grouped rfl (by decide) (fun f cdv A outer s H E hr =>
    have hu := hu200 hr
    jss_cons (js_set (i := 1) sc_grouped.nd (jcall (K := K) c_mentions_of (hr.mono (by decide)) (by rfl) (ja_im (je_var 0 (pv 0)) ja_nil))) (jss_cons (js_set (i := 2) sc_grouped.nd (je_o (jow_dcK (own := [("name", 5)]) (by rfl) sc_grouped.nd (pv 1) (blkOk_by (N := ns_grouped) (sc := defScope (topS 8)) (by decide +kernel)) (fun _ _ _ _ _ => jname (i := 5) sc_grouped.nd) (fun _ _ _ _ _ => jts_nil) (fun _ _ _ _ _ => je_var 5 (pv 5)) (fun _ _ _ _ _ => jcall (K := K) c_come_to (hr.mono (by decide)) (by rfl) (ja_im (je_var 1 (pv 1)) (ja_im (je_var 5 (pv 5)) ja_nil)))))) (jss_cons (js_new (i := 3) sc_grouped.nd (jow_lst jes_nil)) (jss_cons (js_new (i := 4) sc_grouped.nd jow_dic0) (jss_cons (js_forK PassesOwn.never (by rfl) (pv 1) (jname (i := 5) sc_grouped.nd) (jss_one (js_if (jt_cmp (onin (K := K) hu) (om_notIn (K := K)) (jk_var 5 (pv 5)) (jk_var 4 (pv 4)) (by first | rfl | with_unfolding_all rfl)) (jss_cons (js_set (i := 6) sc_grouped.nd (je_callTy (otup (K := K)) (cm_tup (K := K)) (by rfl) h_tuple (by decide +kernel) (jks_cons (JE.k (je_lcK (own := [("one", 7)]) (by rfl) sc_grouped.nd (pv 1) (blkOk_by (N := ns_grouped) (sc := defScope (topS 8)) (by decide +kernel)) (fun _ _ _ _ _ => jname (i := 7) sc_grouped.nd) (fun _ _ _ _ _ => jts_one (JW.t (jw_or (jt_cmp (oeq (K := K) hu) (om_eq (K := K)) (jk_var 7 (pv 7)) (jk_var 5 (pv 5)) (nomark _)) (jw_or1 (JW.t (jw_and (jt_cmp (oin (K := K) hu) (om_in (K := K)) (jk_var 7 (pv 7)) (JE.k (je_ix (oix (K := K) hu) (om_ix (K := K)) (jk_var 2 (pv 2)) (jk_var 5 (pv 5)) (fun _ _ => rfl))) (by first | rfl | with_unfolding_all rfl)) (jw_and1 (jt_cmp (oin (K := K) hu) (om_in (K := K)) (jk_var 5 (pv 5)) (JE.k (je_ix (oix (K := K) hu) (om_ix (K := K)) (jk_var 2 (pv 2)) (jk_var 7 (pv 7)) (fun _ _ => rfl))) (by first | rfl | with_unfolding_all rfl))))))))) (fun _ _ _ _ _ => je_var 7 (pv 7)))) jks_nil))) (jss_cons (js_expr (jappend (K := K) (pv 3) (je_var 6 (pv 6)))) (jss_one (js_for PassesOwn.never (by rfl) (jseq (K := K) (je_var 6 (pv 6))) (jname (i := 7) sc_grouped.nd) (jss_one (jdput hu je_bl (pv 4) (je_var 7 (pv 7)))))))) jss_nil))) (jss_one (js_retO (jcallO (K := K) c_ordered (hr.mono (by decide)) (by rfl) (ja_im (je_var 3 (pv 3)) (ja_im (je_var 1 (pv 1)) ja_nil)))))))))) rfl
abbrev ns_groups_of : List Str := ["program"]
theorem sc_groups_of : FnScope ns_groups_of ["program"] (defScope (topS 12)) := ⟨rfl, rfl, rfl, by decide +kernel, rfl, by decide +kernel, by decide +kernel⟩
set_option maxHeartbeats 4000000 in
theorem w_groups_of (S : Src K mg "groups_of" (topS 12) ["program"]) (c_grouped : DefOk P w K mg base "grouped" ["defs"] 105 1 m_grouped) : DefOk P w K mg base "groups_of" ["program"] 106 1 m_groups_of := by
  exact src_ok (np := 0) (fb := b_groups_of) S sc_groups_of rfl (by decide) (fun f cdv A outer s H E hr =>
    have hu := hu200 hr
    jss_one (js_retO (jcallO (K := K) c_grouped (hr.mono (by decide)) (by rfl) (ja_im (je_ix (oix (K := K) hu) (om_ix (K := K)) (jk_var 0 (pv 0)) (JE.k je_int) (fun _ _ => rfl)) ja_nil)))) rfl
abbrev ns__law_cell_at : List Str := ["_law_script", "_law_k"]
theorem sc__law_cell_at : FnScope ns__law_cell_at ["_law_script", "_law_k"] (defScope (topS 14)) := ⟨rfl, rfl, rfl, by decide +kernel, rfl, by decide +kernel, by decide +kernel⟩
set_option maxHeartbeats 4000000 in
theorem w__law_cell_at (S : Src K mg "_law_cell_at" (topS 14) ["_law_script", "_law_k"]) (h_len : mg "len" = none) : DefOk P w K mg base "_law_cell_at" ["_law_script", "_law_k"] 1 2 m__law_cell_at := by
  exact src_ok (np := 0) (fb := b__law_cell_at) S sc__law_cell_at rfl (by decide) (fun f cdv A outer s H E hr =>
    have hu := hu200 hr
    jss_cons (js_if (jt_cmp op_ltD om_lt (jk_var 1 (pv 1)) (JE.k (je_callB (olen (K := K)) (cm_len (K := K)) (by rfl) h_len (by decide +kernel) (jks_cons (jk_var 0 (pv 0)) jks_nil))) (nomark _)) (jss_one (js_ret (je_ix (oix (K := K) hu) (om_ix (K := K)) (jk_var 0 (pv 0)) (jk_var 1 (pv 1)) (fun _ _ => rfl)))) jss_nil) (jss_one (js_ret je_int))) rfl
abbrev ns__law_bag : List Str := ["_law_seed", "_law_place", "_law_start"]
theorem sc__law_bag : FnScope ns__law_bag ["_law_seed", "_law_place"] (defScope (topS 15)) := ⟨rfl, rfl, rfl, by decide +kernel, rfl, by decide +kernel, by decide +kernel⟩
set_option maxHeartbeats 4000000 in
theorem w__law_bag (S : Src K mg "_law_bag" (topS 15) ["_law_seed", "_law_place"]) (h_max : mg "max" = none) : DefOk P w K mg base "_law_bag" ["_law_seed", "_law_place"] 1 2 m__law_bag := by
  exact src_ok (np := 0) (fb := b__law_bag) S sc__law_bag rfl (by decide) (fun f cdv A outer s H E hr =>
    have hu := hu200 hr
    jss_cons (js_set (i := 2) sc__law_bag.nd (je_op op_modN om_mod (JE.k (je_op (oadd (K := K)) (om_add (K := K)) (JE.k (je_op op_mulB om_mul (JE.k (je_op op_modN om_mod (jk_var 0 (pv 0)) (JE.k je_int))) (JE.k je_int))) (JE.k (je_op op_mulB om_mul (JE.k je_int) (JE.k (je_op op_pow om_pow (JE.k (je_op (oadd (K := K)) (om_add (K := K)) (jk_var 1 (pv 1)) (JE.k je_int))) (JE.k je_int))))))) (JE.k je_int))) (jss_one (js_retO (jow_lst (jes_cons (je_callB (call_max2 (by rfl)) cm_max (by rfl) h_max (by decide +kernel) (jks_cons (JE.k je_int) (jks_cons (JE.k (je_op op_sub om_sub (jk_var 0 (pv 0)) (JE.k (je_op op_pow om_pow (JE.k je_int) (JE.k je_int))))) jks_nil))) (jes_cons (je_var 2 (pv 2)) (jes_cons (je_var 1 (pv 1)) jes_nil))))))) rfl
abbrev ns__law_draw : List Str := ["_law_bag_here", "_law_many", "_law_found"]
theorem sc__law_draw : FnScope ns__law_draw ["_law_bag_here", "_law_many"] (defScope (topS 16)) := ⟨rfl, rfl, rfl, by decide +kernel, rfl, by decide +kernel, by decide +kernel⟩
set_option maxHeartbeats 4000000 in
theorem w__law_draw (S : Src K mg "_law_draw" (topS 16) ["_law_bag_here", "_law_many"])  : DefOk P w K mg base "_law_draw" ["_law_bag_here", "_law_many"] 1 2 m__law_draw := by
  exact src_ok (np := 1) (fb := b__law_draw) S sc__law_draw rfl (by decide) (fun f cdv A outer s H E hr =>
    have hu := hu200 hr
    jss_cons (js_if (jt_cmp op_gtD om_gt (JE.k (je_ix (oix (K := K) hu) (om_ix (K := K)) (jk_var 0 (pv 0)) (JE.k je_int) (fun _ _ => rfl))) (JE.k je_int) (nomark _)) (jss_cons (js_set (i := 2) sc__law_draw.nd (je_op op_modN om_mod (JE.k (je_ix (oix (K := K) hu) (om_ix (K := K)) (jk_var 0 (pv 0)) (JE.k je_int) (fun _ _ => rfl))) (jk_var 1 (pv 1)))) (jss_cons (js_put (je_op op_fdivW om_fdiv (JE.k (je_ix (oix (K := K) hu) (om_ix (K := K)) (jk_var 0 (pv 0)) (JE.k je_int) (fun _ _ => rfl))) (jk_var 1 (pv 1))) (pv 0) je_int) (jss_one (js_ret (je_var 2 (pv 2)))))) jss_nil) (jss_cons (js_put (je_op (oadd (K := K)) (om_add (K := K)) (JE.k (je_ix (oix (K := K) hu) (om_ix (K := K)) (jk_var 0 (pv 0)) (JE.k je_int) (fun _ _ => rfl))) (JE.k je_int)) (pv 0) je_int) (jss_cons (js_put (je_op op_modN om_mod (JE.k (je_op op_pow om_pow (JE.k (je_op (oadd (K := K)) (om_add (K := K)) (JE.k (je_ix (oix (K := K) hu) (om_ix (K := K)) (jk_var 0 (pv 0)) (JE.k je_int) (fun _ _ => rfl))) (JE.k (je_op op_mulB om_mul (JE.k je_int) (JE.k (je_ix (oix (K := K) hu) (om_ix (K := K)) (jk_var 0 (pv 0)) (JE.k je_int) (fun _ _ => rfl))))))) (JE.k je_int))) (JE.k je_int)) (pv 0) je_int) (jss_one (js_ret (je_op op_modN om_mod (JE.k (je_op op_fdivW om_fdiv (JE.k (je_ix (oix (K := K) hu) (om_ix (K := K)) (jk_var 0 (pv 0)) (JE.k je_int) (fun _ _ => rfl))) (JE.k je_int))) (jk_var 1 (pv 1)))))))) rfl
abbrev ns__law_holding : List Str := ["_law_bag_here", "_law_some", "_law_params", "_law_term", "_law_name", "_law_one", "_law_way"]
theorem sc__law_holding : FnScope ns__law_holding ["_law_bag_here", "_law_some", "_law_params"] (defScope (topS 17)) := ⟨rfl, rfl, rfl, by decide +kernel, rfl, by decide +kernel, by decide +kernel⟩
set_option maxHeartbeats 4000000 in
theorem w__law_holding (S : Src K mg "_law_holding" (topS 17) ["_law_bag_here", "_law_some", "_law_params"]) (h_list : mg "list" = none) (c__law_draw : DefOk P w K mg base "_law_draw" ["_law_bag_here", "_law_many"] 1 2 m__law_draw) : DefOk P w K mg base "_law_holding" ["_law_bag_here", "_law_some", "_law_params"] 2 3 m__law_holding := by
  exact src_ok (np := 1) (fb := b__law_holding) S sc__law_holding rfl (by decide) (fun f cdv A outer s H E hr =>
    have hu := hu200 hr
    jss_cons (js_set (i := 3) sc__law_holding.nd (je_tup (jes_cons je_str (jes_cons (jcall (K := K) c__law_draw (hr.mono (by decide)) (by rfl) (ja_ow 0 (pv 0) (ja_im je_int ja_nil))) jes_nil)))) (jss_cons (js_for PassesOwn.never (by rfl) (jseq (K := K) (je_op (oadd (K := K)) (om_add (K := K)) (jk_var 1 (pv 1)) (JE.k (je_callTy (olst (K := K)) (cm_lst (K := K)) (by rfl) h_list (by decide +kernel) (jks_cons (jk_var 2 (pv 2)) jks_nil))))) (jname (i := 4) sc__law_holding.nd) (jss_cons (js_set (i := 5) sc__law_holding.nd (je_tup (jes_cons je_str (jes_cons (je_var 4 (pv 4)) jes_nil)))) (jss_cons (js_set (i := 6) sc__law_holding.nd (jcall (K := K) c__law_draw (hr.mono (by decide)) (by rfl) (ja_ow 0 (pv 0) (ja_im je_int ja_nil)))) (jss_cons (js_if (jt_cmp (oeq (K := K) hu) (om_eq (K := K)) (jk_var 6 (pv 6)) (JE.k je_int) (nomark _)) (jss_one (js_set (i := 3) sc__law_holding.nd (je_tup (jes_cons je_str (jes_cons (je_var 3 (pv 3)) (jes_cons (je_tup (jes_cons je_str (jes_cons je_str (jes_cons (je_tup (jes_cons je_str (jes_cons je_str (jes_cons (je_var 5 (pv 5)) (jes_cons (je_tup (jes_cons je_str (jes_cons je_str jes_nil))) jes_nil))))) jes_nil)))) jes_nil)))))) jss_nil) (jss_cons (js_if (jt_cmp (oeq (K := K) hu) (om_eq (K := K)) (jk_var 6 (pv 6)) (JE.k je_int) (nomark _)) (jss_one (js_set (i := 3) sc__law_holding.nd (je_tup (jes_cons je_str (jes_cons (je_tup (jes_cons (je_tup (jes_cons je_str (jes_cons (je_var 5 (pv 5)) jes_nil))) (jes_cons (je_tup (jes_cons je_str (jes_cons (je_tup (jes_cons je_str (jes_cons je_str jes_nil))) jes_nil))) jes_nil))) (jes_cons (je_tup (jes_cons je_str (jes_cons (je_tup (jes_cons je_str (jes_cons je_str jes_nil))) (jes_cons (je_var 3 (pv 3)) jes_nil)))) jes_nil)))))) jss_nil) (jss_cons (js_if (jt_cmp (oeq (K := K) hu) (om_eq (K := K)) (jk_var 6 (pv 6)) (JE.k je_int) (nomark _)) (jss_one (js_set (i := 3) sc__law_holding.nd (je_tup (jes_cons je_str (jes_cons (je_var 3 (pv 3)) (jes_cons (je_tup (jes_cons (je_tup (jes_cons je_str (jes_cons (je_tup jes_nil) (jes_cons (je_var 5 (pv 5)) jes_nil)))) (jes_cons (je_tup (jes_cons je_str (jes_cons (je_tup jes_nil) (jes_cons (je_tup (jes_cons je_str (jes_cons je_str jes_nil))) jes_nil)))) jes_nil))) jes_nil)))))) jss_nil) (jss_cons (js_if (jt_cmp (oeq (K := K) hu) (om_eq (K := K)) (jk_var 6 (pv 6)) (JE.k je_int) (nomark _)) (jss_one (js_set (i := 3) sc__law_holding.nd (je_tup (jes_cons je_str (jes_cons (je_ix (oix (K := K) hu) (om_ix (K := K)) (JE.k (je_lst (jes_cons je_str (jes_cons je_str jes_nil)))) (JE.k (jcall (K := K) c__law_draw (hr.mono (by decide)) (by rfl) (ja_ow 0 (pv 0) (ja_im je_int ja_nil)))) (fun _ _ => rfl)) (jes_cons (je_var 5 (pv 5)) (jes_cons (je_var 3 (pv 3)) jes_nil))))))) jss_nil) (jss_one (js_if (jt_cmp op_gtD om_gt (jk_var 6 (pv 6)) (JE.k je_int) (nomark _)) (jss_one (js_set (i := 3) sc__law_holding.nd (je_ix (oix (K := K) hu) (om_ix (K := K)) (JE.k (je_lst (jes_cons (je_tup (jes_cons je_str (jes_cons (je_var 5 (pv 5)) (jes_cons (je_var 3 (pv 3)) jes_nil)))) (jes_cons (je_tup (jes_cons je_str (jes_cons (je_var 3 (pv 3)) (jes_cons (je_var 5 (pv 5)) jes_nil)))) jes_nil)))) (JE.k (je_op op_sub om_sub (jk_var 6 (pv 6)) (JE.k je_int))) (fun _ _ => rfl)))) jss_nil))))))))) (jss_one (js_ret (je_var 3 (pv 3)))))) rfl
abbrev ns__law_program : List Str := ["_law_bag_here", "_law_many", "_law_names", "_law_k", "_law_defs", "_law_named", "_law_near", "_law_name", "_law_some", "_law_turn", "_law_one", "_law_params"]
theorem sc__law_program : FnScope ns__law_program ["_law_bag_here"] (defScope (topS 18)) := ⟨rfl, rfl, rfl, by decide +kernel, rfl, by decide +kernel, by decide +kernel⟩
set_option maxHeartbeats 4000000 in
theorem w__law_program (S : Src K mg "_law_program" (topS 18) ["_law_bag_here"]) (h_enumerate : mg "enumerate" = none) (h_len : mg "len" = none) (h_max : mg "max" = none) (h_range : mg "range" = none) (h_tuple : mg "tuple" = none) (c__law_draw : DefOk P w K mg base "_law_draw" ["_law_bag_here", "_law_many"] 1 2 m__law_draw) (c__law_holding : DefOk P w K mg base "_law_holding" ["_law_bag_here", "_law_some", "_law_params"] 2 3 m__law_holding) : DefOk P w K mg base "_law_program" ["_law_bag_here"] 3 1 m__law_program := by
  exact src_ok (np := 1) (fb := b__law_program) S sc__law_program rfl (by decide) (fun f cdv A outer s H E hr =>
    have hu := hu200 hr
    jss_cons (js_set (i := 1) sc__law_program.nd (je_op (oadd (K := K)) (om_add (K := K)) (JE.k je_int) (JE.k (jcall (K := K) c__law_draw (hr.mono (by decide)) (by rfl) (ja_ow 0 (pv 0) (ja_im je_int ja_nil)))))) (jss_cons (js_new (i := 2) sc__law_program.nd (jow_lst jes_nil)) (jss_cons (js_for PassesOwn.never (by rfl) (ji_range1 (by rfl) h_range (jks_cons (jk_var 1 (pv 1)) jks_nil)) (jname (i := 3) sc__law_program.nd) (jss_one (js_expr (jinsert (K := K) (pv 2) (jcall (K := K) c__law_draw (hr.mono (by decide)) (by rfl) (ja_ow 0 (pv 0) (ja_im (je_op (oadd (K := K)) (om_add (K := K)) (JE.k (je_callB (olen (K := K)) (cm_len (K := K)) (by rfl) h_len (by decide +kernel) (jks_cons (jk_var 2 (pv 2)) jks_nil))) (JE.k je_int)) ja_nil))) (je_op (oadd (K := K)) (om_add (K := K)) (JE.k (je_ix (oix (K := K) hu) (om_ix (K := K)) (JE.k je_str) (jk_var 3 (pv 3)) (fun _ _ => rfl))) (JE.k (jslice (K := K) (JE.k je_str) jo_none (jo_some (jcall (K := K) c__law_draw (hr.mono (by decide)) (by rfl) (ja_ow 0 (pv 0) (ja_im je_int ja_nil))))))))))) (jss_cons (js_new (i := 4) sc__law_program.nd (jow_lst jes_nil)) (jss_cons (js_new (i := 5) sc__law_program.nd jow_dic0) (jss_cons (js_set (i := 6) sc__law_program.nd (jcall (K := K) c__law_draw (hr.mono (by decide)) (by rfl) (ja_ow 0 (pv 0) (ja_im je_int ja_nil)))) (jss_cons (js_for PassesOwn.never (by rfl) (jenumX (K := K) (by rfl) h_enumerate (jes_cons (je_var 2 (pv 2)) jes_nil)) (jtup (K := K) (by rfl) (jgs_cons (jname (i := 3) sc__law_program.nd) (jgs_cons (jname (i := 7) sc__law_program.nd) jgs_nil))) (jss_cons (js_new (i := 8) sc__law_program.nd (jow_lst jes_nil)) (jss_cons (js_for PassesOwn.never (by rfl) (ji_range1 (by rfl) h_range (jks_cons (JE.k (jcall (K := K) c__law_draw (hr.mono (by decide)) (by rfl) (ja_ow 0 (pv 0) (ja_im je_int ja_nil)))) jks_nil)) (jname (i := 9) sc__law_program.nd) (jss_cons (js_set (i := 10) sc__law_program.nd (je_ix (oix (K := K) hu) (om_ix (K := K)) (jk_var 2 (pv 2)) (JE.k (jcall (K := K) c__law_draw (hr.mono (by decide)) (by rfl) (ja_ow 0 (pv 0) (ja_im (je_var 1 (pv 1)) ja_nil)))) (fun _ _ => rfl))) (jss_cons (js_if (jt_cmp (oeq (K := K) hu) (om_eq (K := K)) (jk_var 6 (pv 6)) (JE.k je_int) (nomark _)) (jss_one (js_set (i := 10) sc__law_program.nd (je_ix (oix (K := K) hu) (om_ix (K := K)) (jk_var 2 (pv 2)) (JE.k (je_op op_modN om_mod (JE.k (je_op (oadd (K := K)) (om_add (K := K)) (jk_var 3 (pv 3)) (JE.k je_int))) (jk_var 1 (pv 1)))) (fun _ _ => rfl)))) jss_nil) (jss_cons (js_if (jt_cmp (oeq (K := K) hu) (om_eq (K := K)) (jk_var 6 (pv 6)) (JE.k je_int) (nomark _)) (jss_one (js_set (i := 10) sc__law_program.nd (je_ix (oix (K := K) hu) (om_ix (K := K)) (jk_var 2 (pv 2)) (JE.k (je_callB (call_max2 (by rfl)) cm_max (by rfl) h_max (by decide +kernel) (jks_cons (JE.k je_int) (jks_cons (JE.k (je_op op_sub om_sub (JE.k (je_op op_sub om_sub (jk_var 3 (pv 3)) (JE.k je_int))) (JE.k (jcall (K := K) c__law_draw (hr.mono (by decide)) (by rfl) (ja_ow 0 (pv 0) (ja_im je_int ja_nil)))))) jks_nil)))) (fun _ _ => rfl)))) jss_nil) (jss_one (js_if (jt_cmp (onin (K := K) hu) (om_notIn (K := K)) (jk_var 10 (pv 10)) (jk_var 8 (pv 8)) (by first | rfl | with_unfolding_all rfl)) (jss_one (js_expr (jappend (K := K) (pv 8) (je_var 10 (pv 10))))) jss_nil)))))) (jss_cons (jdput hu (je_var 8 (pv 8)) (pv 5) (je_var 7 (pv 7))) (jss_cons (js_set (i := 11) sc__law_program.nd (je_callTy (otup (K := K)) (cm_tup (K := K)) (by rfl) h_tuple (by decide +kernel) (jks_cons (JE.k (jslice (K := K) (JE.k (je_lst (jes_cons je_str (jes_cons je_str jes_nil)))) jo_none (jo_some (jcall (K := K) c__law_draw (hr.mono (by decide)) (by rfl) (ja_ow 0 (pv 0) (ja_im je_int ja_nil)))))) jks_nil))) (jss_one (js_expr (jappend (K := K) (pv 4) (je_tup (jes_cons (je_var 7 (pv 7)) (jes_cons (je_var 11 (pv 11)) (jes_cons (jcall (K := K) c__law_holding (hr.mono (by decide)) (by rfl) (ja_ow 0 (pv 0) (ja_im (je_var 8 (pv 8)) (ja_im (je_var 11 (pv 11)) ja_nil)))) jes_nil)))))))))))) (jss_one (js_ret (je_tup (jes_cons (je_tup (jes_cons (je_tup jes_nil) (jes_cons (je_callTy (otup (K := K)) (cm_tup (K := K)) (by rfl) h_tuple (by decide +kernel) (jks_cons (jk_var 4 (pv 4)) jks_nil)) jes_nil))) (jes_cons (je_var 5 (pv 5)) jes_nil)))))))))))) rfl
abbrev ns__law_due : List Str := ["_law_names", "_law_named", "_law_come", "_law_k", "_law_left", "_law_group", "_law_found", "_law_put", "_law_free", "_law_name", "_law_other", "_law_row", "_law_j"]
theorem sc__law_due : FnScope ns__law_due ["_law_names", "_law_named"] (defScope (topS 19)) := ⟨rfl, rfl, rfl, by decide +kernel, rfl, by decide +kernel, by decide +kernel⟩
set_option maxHeartbeats 4000000 in
theorem w__law_due (S : Src K mg "_law_due" (topS 19) ["_law_names", "_law_named"]) (h_all : mg "all" = none) (h_len : mg "len" = none) (h_range : mg "range" = none) (h_tuple : mg "tuple" = none) : DefOk P w K mg base "_law_due" ["_law_names", "_law_named"] 1 2 m__law_due := by
  exact src_ok (np := 0) (fb := b__law_due) S sc__law_due rfl (by decide) (fun f cdv A outer s H E hr =>
    have hu := hu200 hr
    jss_cons (js_set (i := 2) sc__law_due.nd (je_lc (own := [("_law_name", 9)]) (by rfl) sc__law_due.nd (jseq (K := K) (je_var 0 (pv 0))) (blkOk_by (N := ns__law_due) (sc := defScope (topS 19)) (by decide +kernel)) (fun _ _ _ _ _ => jname (i := 9) sc__law_due.nd) (fun _ _ _ _ _ => jts_nil) (fun _ _ _ _ _ => je_lc (own := [("_law_other", 10)]) (by rfl) sc__law_due.nd (jseq (K := K) (je_var 0 (pv 0))) (blkOk_by (by first | rfl | with_unfolding_all rfl)) (fun _ _ _ _ _ => jname (i := 10) sc__law_due.nd) (fun _ _ _ _ _ => jts_nil) (fun _ _ _ _ _ => je_cmp (oin (K := K) hu) (om_in (K := K)) (jk_var 10 (pv 10)) (JE.k (je_ix (oix (K := K) hu) (om_ix (K := K)) (jk_var 1 (pv 1)) (jk_var 9 (pv 9)) (fun _ _ => rfl))) (by first | rfl | with_unfolding_all rfl))))) (jss_cons (js_for PassesOwn.never (by rfl) (ji_range1 (by rfl) h_range (jks_cons (JE.k (je_callB (olen (K := K)) (cm_len (K := K)) (by rfl) h_len (by decide +kernel) (jks_cons (jk_var 0 (pv 0)) jks_nil))) jks_nil)) (jname (i := 3) sc__law_due.nd) (jss_one (js_set (i := 2) sc__law_due.nd (je_lc (own := [("_law_row", 11)]) (by rfl) sc__law_due.nd (jseq (K := K) (je_var 2 (pv 2))) (blkOk_by (N := ns__law_due) (sc := defScope (topS 19)) (by decide +kernel)) (fun _ _ _ _ _ => jname (i := 11) sc__law_due.nd) (fun _ _ _ _ _ => jts_nil) (fun _ _ _ _ _ => je_lc (own := [("_law_j", 12)]) (by rfl) sc__law_due.nd (ji_range1 (by rfl) h_range (jks_cons (JE.k (je_callB (olen (K := K)) (cm_len (K := K)) (by rfl) h_len (by decide +kernel) (jks_cons (jk_var 0 (pv 0)) jks_nil))) jks_nil)) (blkOk_by (by first | rfl | with_unfolding_all rfl)) (fun _ _ _ _ _ => jname (i := 12) sc__law_due.nd) (fun _ _ _ _ _ => jts_nil) (fun _ _ _ _ _ => je_or (je_ix (oix (K := K) hu) (om_ix (K := K)) (jk_var 11 (pv 11)) (jk_var 12 (pv 12)) (fun _ _ => rfl)) (je_one (je_and (je_ix (oix (K := K) hu) (om_ix (K := K)) (jk_var 11 (pv 11)) (jk_var 3 (pv 3)) (fun _ _ => rfl)) (je_one (je_ix (oix (K := K) hu) (om_ix (K := K)) (JE.k (je_ix (oix (K := K) hu) (om_ix (K := K)) (jk_var 2 (pv 2)) (jk_var 3 (pv 3)) (fun _ _ => rfl))) (jk_var 12 (pv 12)) (fun _ _ => rfl))))))))))) (jss_cons (js_new (i := 4) sc__law_due.nd (jow_lst jes_nil)) (jss_cons (js_for PassesOwn.never (by rfl) (ji_range1 (by rfl) h_range (jks_cons (JE.k (je_callB (olen (K := K)) (cm_len (K := K)) (by rfl) h_len (by decide +kernel) (jks_cons (jk_var 0 (pv 0)) jks_nil))) jks_nil)) (jname (i := 3) sc__law_due.nd) (jss_cons (js_set (i := 5) sc__law_due.nd (je_lc (own := [("_law_j", 12)]) (by rfl) sc__law_due.nd (ji_range1 (by rfl) h_range (jks_cons (JE.k (je_callB (olen (K := K)) (cm_len (K := K)) (by rfl) h_len (by decide +kernel) (jks_cons (jk_var 0 (pv 0)) jks_nil))) jks_nil)) (blkOk_by (N := ns__law_due) (sc := defScope (topS 19)) (by decide +kernel)) (fun _ _ _ _ _ => jname (i := 12) sc__law_due.nd) (fun _ _ _ _ _ => jts_one (JW.t (jw_or (jt_cmp (oeq (K := K) hu) (om_eq (K := K)) (jk_var 12 (pv 12)) (jk_var 3 (pv 3)) (nomark _)) (jw_or1 (JW.t (jw_and (jt_val (je_ix (oix (K := K) hu) (om_ix (K := K)) (JE.k (je_ix (oix (K := K) hu) (om_ix (K := K)) (jk_var 2 (pv 2)) (jk_var 3 (pv 3)) (fun _ _ => rfl))) (jk_var 12 (pv 12)) (fun _ _ => rfl))) (jw_and1 (jt_val (je_ix (oix (K := K) hu) (om_ix (K := K)) (JE.k (je_ix (oix (K := K) hu) (om_ix (K := K)) (jk_var 2 (pv 2)) (jk_var 12 (pv 12)) (fun _ _ => rfl))) (jk_var 3 (pv 3)) (fun _ _ => rfl)))))))))) (fun _ _ _ _ _ => je_var 12 (pv 12)))) (jss_one (js_if (jt_cmp (onotInW (K := K) hu) (om_notInW (K := K)) (jk_var 5 (pv 5)) (jk_var 4 (pv 4)) (by first | rfl | with_unfolding_all rfl)) (jss_one (js_expr (jappend (K := K) (pv 4) (je_var 5 (pv 5))))) jss_nil)))) (jss_cons (js_new (i := 6) sc__law_due.nd (jow_lst jes_nil)) (jss_cons (js_set (i := 7) sc__law_due.nd (je_lst jes_nil)) (jss_cons (js_while (n := 100000) PassesOwn.never (jt_cmp (one (K := K) hu) (om_ne (K := K)) (jk_var 4 (pv 4)) (JE.k (je_lst jes_nil)) (nomark _)) (jss_cons (js_new (i := 8) sc__law_due.nd (jow_lst jes_nil)) (jss_cons (js_forO (K := K) (np' := 5) (by decide) (by decide) PassesOwn.never (by rfl) (pv 4) (jname (i := 5) sc__law_due.nd) (jss_one (js_if (jt_val (je_callB (oall (K := K)) (cm_all (K := K)) (by rfl) h_all (by decide +kernel) (jks_cons (JE.k (je_lc (own := [("_law_j", 12)]) (by rfl) sc__law_due.nd (ji_range1 (by rfl) h_range (jks_cons (JE.k (je_callB (olen (K := K)) (cm_len (K := K)) (by rfl) h_len (by decide +kernel) (jks_cons (jk_var 0 (pv 0)) jks_nil))) jks_nil)) (blkOk_by (N := ns__law_due) (sc := defScope (topS 19)) (by decide +kernel)) (fun _ _ _ _ _ => jname (i := 12) sc__law_due.nd) (fun _ _ _ _ _ => jts_one (jt_val (je_ix (oix (K := K) hu) (om_ix (K := K)) (JE.k (je_ix (oix (K := K) hu) (om_ix (K := K)) (jk_var 2 (pv 2)) (JE.k (je_ix (oix (K := K) hu) (om_ix (K := K)) (jk_var 5 (pv 5)) (JE.k je_int) (fun _ _ => rfl))) (fun _ _ => rfl))) (jk_var 12 (pv 12)) (fun _ _ => rfl)))) (fun _ _ _ _ _ => je_or (je_cmp (oin (K := K) hu) (om_in (K := K)) (jk_var 12 (pv 12)) (jk_var 7 (pv 7)) (by first | rfl | with_unfolding_all rfl)) (je_one (je_cmp (oin (K := K) hu) (om_in (K := K)) (jk_var 12 (pv 12)) (jk_var 5 (pv 5)) (by first | rfl | with_unfolding_all rfl)))))) jks_nil))) (jss_one (js_expr (jappend (K := K) (pv 8) (je_var 5 (pv 5))))) jss_nil))) (jss_cons (js_expr (jappend (K := K) (pv 6) (je_callTy (otup (K := K)) (cm_tup (K := K)) (by rfl) h_tuple (by decide +kernel) (jks_cons (JE.k (je_lc (own := [("_law_j", 12)]) (by rfl) sc__law_due.nd (jseq (K := K) (je_ix (oix (K := K) hu) (om_ix (K := K)) (jk_var 8 (pv 8)) (JE.k je_int) (fun _ _ => rfl))) (blkOk_by (N := ns__law_due) (sc := defScope (topS 19)) (by decide +kernel)) (fun _ _ _ _ _ => jname (i := 12) sc__law_due.nd) (fun _ _ _ _ _ => jts_nil) (fun _ _ _ _ _ => je_ix (oix (K := K) hu) (om_ix (K := K)) (jk_var 0 (pv 0)) (jk_var 12 (pv 12)) (fun _ _ => rfl)))) jks_nil)))) (jss_cons (js_set (i := 7) sc__law_due.nd (je_op (oadd (K := K)) (om_add (K := K)) (jk_var 7 (pv 7)) (JE.k (je_ix (oix (K := K) hu) (om_ix (K := K)) (jk_var 8 (pv 8)) (JE.k je_int) (fun _ _ => rfl))))) (jss_one (js_expr (jremove (K := K) hu (pv 4) (je_ix (oix (K := K) hu) (om_ix (K := K)) (jk_var 8 (pv 8)) (JE.k je_int) (fun _ _ => rfl)))))))))) (jss_one (js_ret (je_var 6 (pv 6))))))))))) rfl
abbrev ns__law_right : List Str := ["_law_bag_here", "_law_prog", "_law_named", "_law_told", "_law_due_here", "_law_one"]
theorem sc__law_right : FnScope ns__law_right ["_law_bag_here"] (defScope (topS 20)) := ⟨rfl, rfl, rfl, by decide +kernel, rfl, by decide +kernel, by decide +kernel⟩
set_option maxHeartbeats 4000000 in
theorem w__law_right (S : Src K mg "_law_right" (topS 20) ["_law_bag_here"]) (h_all : mg "all" = none) (h_isinstance : mg "isinstance" = none) (h_list : mg "list" = none) (h_tuple : mg "tuple" = none) (c_groups_of : DefOk P w K mg base "groups_of" ["program"] 106 1 m_groups_of) (c__law_due : DefOk P w K mg base "_law_due" ["_law_names", "_law_named"] 1 2 m__law_due) (c__law_program : DefOk P w K mg base "_law_program" ["_law_bag_here"] 3 1 m__law_program) : DefOk P w K mg base "_law_right" ["_law_bag_here"] 107 1 m__law_right := by
  exact src_ok (np := 1) (fb := b__law_right) S sc__law_right rfl (by decide) (fun f cdv A outer s H E hr =>
    have hu := hu200 hr
    jss_cons (jasg (jcall (K := K) c__law_program (hr.mono (by decide)) (by rfl) (ja_ow 0 (pv 0) ja_nil)) (jtup (K := K) (by rfl) (jgs_cons (jname (i := 1) sc__law_right.nd) (jgs_cons (jname (i := 2) sc__law_right.nd) jgs_nil)))) (jss_cons (js_new (i := 3) sc__law_right.nd (jcallO (K := K) c_groups_of (hr.mono (by decide)) (by rfl) (ja_im (je_var 1 (pv 1)) ja_nil))) (jss_cons (js_set (i := 4) sc__law_right.nd (jcall (K := K) c__law_due (hr.mono (by decide)) (by rfl) (ja_im (je_lc (own := [("_law_one", 5)]) (by rfl) sc__law_right.nd (jseq (K := K) (je_ix (oix (K := K) hu) (om_ix (K := K)) (jk_var 1 (pv 1)) (JE.k je_int) (fun _ _ => rfl))) (blkOk_by (N := ns__law_right) (sc := defScope (topS 20)) (by decide +kernel)) (fun _ _ _ _ _ => jname (i := 5) sc__law_right.nd) (fun _ _ _ _ _ => jts_nil) (fun _ _ _ _ _ => je_ix (oix (K := K) hu) (om_ix (K := K)) (jk_var 5 (pv 5)) (JE.k je_int) (fun _ _ => rfl))) (ja_im (je_var 2 (pv 2)) ja_nil)))) (jss_cons (js_if (JW.t (jw_or (jt_not (jt_val (je_callB (oisa (K := K)) (cm_isa (K := K)) (by rfl) h_isinstance (by decide +kernel) (jks_cons (jk_var 3 (pv 3)) (jks_cons (JE.k (je_ty (by rfl) h_list (by decide +kernel))) jks_nil))))) (jw_or (jt_not (jt_val (jlendE (je_callB (oall (K := K)) (cm_all (K := K)) (by rfl) h_all (by decide +kernel) (jks_cons (JE.k (je_lc (own := [("_law_one", 5)]) (by rfl) sc__law_right.nd (jseq (K := K) (je_var 3 (pv 3))) (blkOk_by (N := ns__law_right) (sc := defScope (topS 20)) (by decide +kernel)) (fun _ _ _ _ _ => jname (i := 5) sc__law_right.nd) (fun _ _ _ _ _ => jts_nil) (fun _ _ _ _ _ => je_callB (oisa (K := K)) (cm_isa (K := K)) (by rfl) h_isinstance (by decide +kernel) (jks_cons (jk_var 5 (pv 5)) (jks_cons (JE.k (je_ty (by rfl) h_tuple (by decide +kernel))) jks_nil))))) jks_nil))))) (jw_or1 (jt_cmp (one (K := K) hu) (om_ne (K := K)) (jk_var 3 (pv 3)) (jk_var 4 (pv 4)) (nomark _)))))) (jss_one (js_ret je_bl)) jss_nil) (jss_cons (js_expr (jreverse (K := K) (pv 3))) (jss_cons (js_expr (jappend (K := K) (pv 3) (je_tup jes_nil))) (jss_one (js_ret (je_cmp (oeq (K := K) hu) (om_eq (K := K)) (JE.k (jcallK (K := K) c_groups_of (hr.mono (by decide)) (by rfl) (jpk_im (je_var 1 (pv 1)) jpk_nil))) (jk_var 4 (pv 4)) (nomark _)))))))))) rfl
abbrev ns_law : List Str := ["_law_script", "_law_k"]
theorem sc_law : FnScope ns_law ["_law_script"] (defScope (topS 21)) := ⟨rfl, rfl, rfl, by decide +kernel, rfl, by decide +kernel, by decide +kernel⟩
set_option maxHeartbeats 4000000 in
theorem w_law (S : Src K mg "law" (topS 21) ["_law_script"]) (h_len : mg "len" = none) (h_max : mg "max" = none) (h_min : mg "min" = none) (h_range : mg "range" = none) (c__law_cell_at : DefOk P w K mg base "_law_cell_at" ["_law_script", "_law_k"] 1 2 m__law_cell_at) (c__law_bag : DefOk P w K mg base "_law_bag" ["_law_seed", "_law_place"] 1 2 m__law_bag) (c__law_right : DefOk P w K mg base "_law_right" ["_law_bag_here"] 107 1 m__law_right) : DefOk P w K mg base "law" ["_law_script"] 108 1 m_law := by
  exact src_ok (np := 0) (fb := b_law) S sc_law rfl (by decide) (fun f cdv A outer s H E hr =>
    have hu := hu200 hr
    jss_cons (js_for PassesOwn.never (by rfl) (ji_range1 (by rfl) h_range (jks_cons (JE.k (je_callB (call_max2 (by rfl)) cm_max (by rfl) h_max (by decide +kernel) (jks_cons (JE.k je_int) (jks_cons (JE.k (je_callB (call_min2 (by rfl)) cm_min (by rfl) h_min (by decide +kernel) (jks_cons (JE.k (je_callB (olen (K := K)) (cm_len (K := K)) (by rfl) h_len (by decide +kernel) (jks_cons (jk_var 0 (pv 0)) jks_nil))) (jks_cons (JE.k je_int) jks_nil)))) jks_nil)))) jks_nil)) (jname (i := 1) sc_law.nd) (jss_one (js_if (jt_not (jt_val (jcall1 (K := K) c__law_right (hr.mono (by decide)) (by rfl) (jcallO (K := K) c__law_bag (hr.mono (by decide)) (by rfl) (ja_im (jcall (K := K) c__law_cell_at (hr.mono (by decide)) (by rfl) (ja_im (je_var 0 (pv 0)) (ja_im (je_var 1 (pv 1)) ja_nil))) (ja_im (je_var 1 (pv 1)) ja_nil)))))) (jss_one (js_ret je_bl)) jss_nil))) (jss_one (js_ret je_bl))) rfl
theorem w_all (S_parts_of : Src K mg "parts_of" (topS 1) ["term"]) (S_gather : Src K mg "gather" (topS 3) ["term", "bound", "found"]) (S_free_names : Src K mg "free_names" (topS 4) ["term"]) (S_mentions_of : Src K mg "mentions_of" (topS 6) ["defs"]) (S_come_to : Src K mg "come_to" (topS 7) ["mentions", "name"]) (S_grouped : Src K mg "grouped" (topS 8) ["defs"]) (S_ordered : Src K mg "ordered" (topS 9) ["groups", "mentions"]) (S_is_free : Src K mg "is_free" (topS 10) ["group", "mentions", "placed"]) (S_groups_of : Src K mg "groups_of" (topS 12) ["program"]) (S__law_cell_at : Src K mg "_law_cell_at" (topS 14) ["_law_script", "_law_k"]) (S__law_bag : Src K mg "_law_bag" (topS 15) ["_law_seed", "_law_place"]) (S__law_draw : Src K mg "_law_draw" (topS 16) ["_law_bag_here", "_law_many"]) (S__law_holding : Src K mg "_law_holding" (topS 17) ["_law_bag_here", "_law_some", "_law_params"]) (S__law_program : Src K mg "_law_program" (topS 18) ["_law_bag_here"]) (S__law_due : Src K mg "_law_due" (topS 19) ["_law_names", "_law_named"]) (S__law_right : Src K mg "_law_right" (topS 20) ["_law_bag_here"]) (S_law : Src K mg "law" (topS 21) ["_law_script"]) (h_all : mg "all" = none) (h_enumerate : mg "enumerate" = none) (h_isinstance : mg "isinstance" = none) (h_len : mg "len" = none) (h_list : mg "list" = none) (h_max : mg "max" = none) (h_min : mg "min" = none) (h_range : mg "range" = none) (h_sorted : mg "sorted" = none) (h_tuple : mg "tuple" = none) : DefOk P w K mg base "law" ["_law_script"] 108 1 m_law := by
  have c_parts_of := w_parts_of (P := P) (w := w) (base := base) S_parts_of h_tuple
  have c_gather0 := w_gather (P := P) (w := w) (base := base) S_gather c_parts_of 100
  have c_gather := c_gather0
  have c_free_names := w_free_names (P := P) (w := w) (base := base) S_free_names h_sorted c_gather
  have c_mentions_of := w_mentions_of (P := P) (w := w) (base := base) S_mentions_of c_free_names
  have c_come_to := w_come_to (P := P) (w := w) (base := base) S_come_to h_list
  have c_is_free := w_is_free (P := P) (w := w) (base := base) S_is_free 
  have c_ordered := w_ordered (P := P) (w := w) (base := base) S_ordered h_list c_is_free
  have c_grouped := w_grouped (P := P) (w := w) (base := base) S_grouped h_tuple c_ordered c_come_to c_mentions_of
  have c_groups_of := w_groups_of (P := P) (w := w) (base := base) S_groups_of c_grouped
  have c__law_cell_at := w__law_cell_at (P := P) (w := w) (base := base) S__law_cell_at h_len
  have c__law_bag := w__law_bag (P := P) (w := w) (base := base) S__law_bag h_max
  have c__law_draw := w__law_draw (P := P) (w := w) (base := base) S__law_draw 
  have c__law_holding := w__law_holding (P := P) (w := w) (base := base) S__law_holding h_list c__law_draw
  have c__law_program := w__law_program (P := P) (w := w) (base := base) S__law_program h_enumerate h_len h_max h_range h_tuple c__law_draw c__law_holding
  have c__law_due := w__law_due (P := P) (w := w) (base := base) S__law_due h_all h_len h_range h_tuple
  have c__law_right := w__law_right (P := P) (w := w) (base := base) S__law_right h_all h_isinstance h_list h_tuple c_groups_of c__law_due c__law_program
  have c_law := w_law (P := P) (w := w) (base := base) S_law h_len h_max h_min h_range c__law_cell_at c__law_bag c__law_right
  exact c_law
end
end K21

namespace K21
open PySem PySem.Spec PyProof.Rows L2 M
local macro_rules | `(tactic| symm_saturate) => `(tactic| simp only [c_obAt, c_fFldO, c_lFld, c_fOpC, c_fOpL, c_fCBL, c_obSet, c_sFldSet, c_sFldNew, c_sFldAugC, c_sDPutF, c_fMethO, c_sMakeO, c_lent, c_fLend, c_oLend, g_remove, g_insert, g_dclear, lF_nil, lF_cons, pF_nil, pF_cons, fsee_im, fsee_lst, fsee_dic, sfd_lst, sfd_dic, d_isN0, d_isNS, d_isNI, d_isNL, d_isNT, c_fLk, c_frzS, c_itK, c_fLendE, c_oLendE, view_hand, view_un, view_im, view_lst, view_dic, view_ob, flat_bl, flat_int, flat_str, hard_lst, hard_dic, c_sForO, c_oMove, own_ob, dem_ob, hand_ob, d_tupXL, d_tupXT, d_tupXS, d_lstXL, d_lstXT, d_lstXS, g_extend, c_fFld, c_fMeth, c_fMake, c_fCallL, c_fCall2, c_lOne, c_lIm, c_lOw, c_sAugC, c_oDc, c_oLc, g_update, dl_one, dl_cons, c_dcStep, d_neE, d_cutS, c_fLenSet, c_fRevT, c_fCallV, tbl_cons, d_neWB, d_cutT, d_eqWS, d_neWS, d_eqWI, d_neWI, d_eqWT, c_aPick, c_oCB, c_fBm, pick_nil, pick_cons, tyn_lst, tyn_dic, g_rev, g_clear, pop_snoc, d_lstOL, d_lstOT, d_dicO, c_fEnumX, c_bStar, c_sPar, c_fO, c_oDic, c_fPairs0, c_fPairs1, c_fGet2, c_sWhile, key_str, key_int, merge_def, List.foldl_cons, List.foldl_nil, List.any_cons, List.any_nil, Sum.inr.injEq, Bool.or_false, Bool.or_self, Bool.false_or, lookK, d_strI, d_strS, in_threeT, in_threeL, List.map_append, eq_self, not_true_eq_false, decide_true, decide_false, lit_eq, String.reduceEq, ite_or, ite_and, ite_orB, ite_andB, Bool.or_eq_true, Bool.and_eq_true, Bool.not_eq_true', decide_eq_false_iff_not, Bool.decide_eq_true, d_addI, d_addS, d_addL, d_addT, d_sub, d_mul, d_fdiv, d_mod, d_pow, d_neg, d_ltI, d_ltS, d_gtI, d_gtS, d_leI, d_geI, d_eqS, d_eqI, d_eqT, d_neS, d_neI, d_ixL0, d_ixL1, d_ixL2, d_ixL3, d_ixT0, d_ixT1, d_ixT2, d_ixT3, d_ixTm1, d_ixTm2, d_ixTm3, d_lenS, d_lenL, d_lenT, d_intI, d_intB, d_max, d_min, d_tupL, d_tupT, d_lstL, d_lstT, d_isaS, W_guard, Int.reduceLT, Int.reduceLE, Int.reducePow, Int.reduceToNat, Int.reduceAdd, ixN30, ixN31, ixN32, Int.reduceNeg, Nat.reducePow, Int.reduceEq, c_kE, c_kVar, c_peek, c_fC, c_fV, c_fOp, c_fUn, c_fTest, c_fTru, c_fAnd, c_fOr, c_fNot, c_fAndV, c_fOrV, c_fNotV, c_fIfE, c_fNil, c_fCons, c_kNil, c_kCons, c_fTup, c_fLst, c_fCB, c_fNoPart, c_fPart, c_fSl, c_fM1, c_fM0, c_fIt, c_fRng1, c_fRng2, c_fZip, c_fEnum, c_bName, c_bNil, c_bCons, c_bTup, c_fYes, c_fLc, c_sNil, c_sSeq, c_sIf, c_sRet, c_sRetN, c_sDrop, c_sSet, c_sBreak, c_sCont, c_sFor, c_sRetO, c_sRetV, c_oLst, c_sSetO, c_fAppend, c_sSetIx, c_sDPutN, c_fCallS, c_fCall, c_oCall, c_fCall1, c_aNil, c_aIm, c_aOw, c_callF, c_startS, c_backS, c_lcStep, c_forStep, see_im, see_lst, see_dic, see_un, own_im, own_lst, own_dic, own_un, own_sd, hand_im, hand_lst, hand_dic, hand_un, hand_ob, own_ob, dem_ob, hand_sd, dem_im, dem_un, dem_lst, dem_dic, pb_nil, pb_im, pb_ow, ws_nil, ws_cons, rs_nil, rs_cons, argSs, argS, owIx, W_some, W_bind, W_none, bind_guard, Option.bind_some, Option.bind_none, Option.getD_some, Option.getD_none, List.getElem?_cons_zero, List.getElem?_cons_succ, List.getElem?_nil, List.set_cons_zero, List.set_cons_succ, List.take_succ_cons, List.take_zero, List.drop_succ_cons, List.drop_zero, List.map_cons, List.map_nil, List.cons_append, List.nil_append, List.append_nil, List.length_cons, List.length_nil, List.replicate_succ, List.replicate_zero, Nat.reduceAdd, Nat.reduceSub, Nat.reduceLeDiff, Nat.reduceEqDiff, Nat.zero_le, Nat.le_refl, List.nodup_cons, List.nodup_nil, List.not_mem_nil, not_false_eq_true, true_and, and_true, and_self, if_true, if_false, ↓reduceIte, Bool.not_false, Bool.not_true, Bool.false_eq_true, List.all_cons, List.all_nil, Bool.and_true, decide_eq_true_eq, reduceCtorEq, Nat.zero_add])

/-- come to by naming, once or more -/
inductive Rc (M : Str → List Str) : Str → Str → Prop
  | one {a b : Str} : b ∈ M a → Rc M a b
  | more {a b c : Str} : Rc M a b → c ∈ M b → Rc M a c
theorem Rc.trans {M : Str → List Str} {a b : Str} (h : Rc M a b) : ∀ {c : Str}, Rc M b c → Rc M a c := by
  intro c k
  induction k with
  | one h2 => exact .more h h2
  | more _ h2 ih => exact .more ih h2
def mD (N : List Str) (M : Str → List Str) : D := .dic (mapK N fun n => .lst ((M n).map .str))
structure Net (N : List Str) (M : Str → List Str) : Prop where
  nd : N.Nodup
  sub : ∀ a ∈ N, ∀ b ∈ M a, b ∈ N
  few : ∀ a ∈ N, (M a).length ≤ 60
  len : N.length ≤ 20
  ok : ∀ a ∈ N, sOk a
theorem Net.rc {N : List Str} {M : Str → List Str} (T : Net N M) {a b : Str} (h : Rc M a b) : a ∈ N → b ∈ N := by
  induction h with
  | one h => exact fun ha => T.sub _ ha _ h
  | more _ h ih => exact fun ha => T.sub _ (ih ha) _ h
theorem ix_mD {N : List Str} {M : Str → List Str} {a : Str} (h : a ∈ N) : ixD (mD N M) (.str a) = some (.lst ((M a).map .str)) := ix_mapK h
theorem nodup_len {ks N : List Str} (h : ks.Nodup) (s : ∀ x ∈ ks, x ∈ N) : ks.length ≤ N.length := by
  induction ks generalizing N with
  | nil => exact Nat.zero_le _
  | cons k ks ih =>
    have hk := s k (List.mem_cons_self ..)
    obtain ⟨n1, n2⟩ := List.nodup_cons.mp h
    have := ih (N := N.erase k) n2 fun x hx => by
      have hne : x ≠ k := fun z => n1 (z ▸ hx)
      exact (List.mem_erase_of_ne hne).mpr (s x (List.mem_cons_of_mem _ hx))
    rw [List.length_erase_of_mem hk] at this
    have : 0 < N.length := List.length_pos_of_mem hk
    rw [List.length_cons]; omega
theorem come_ok {N : List Str} {M : Str → List Str} (T : Net N M) {a : Str} (ha : a ∈ N) {Q : Sls → Sl → Prop}
    (h : ∀ ks : List Str, ks.Nodup → (∀ x, x ∈ ks ↔ Rc M a x) → Q [.im (mD N M), .im (.str a)] (.im (.dic (repK ks)))) : W (m_come_to [.im (mD N M), .im (.str a)]) Q := by
  delta m_come_to
  symm_saturate
  rw [ix_mD ha]
  symm_saturate
  refine w_while (fun m e => ∃ (ks L : List Str) (s4 : Sl), e = [.im (mD N M), .im (.str a), .dic (repK ks), .lst (L.map .str), s4] ∧ m = (N.length - ks.length) * 100 + L.length ∧ m ≤ 3000 ∧ ks.Nodup ∧ (∀ x ∈ ks, Rc M a x) ∧ (∀ x ∈ L, Rc M a x) ∧ (∀ x ∈ ks, ∀ y ∈ M x, y ∈ ks ∨ y ∈ L) ∧ ∀ y ∈ M a, y ∈ ks ∨ y ∈ L) ?_ (m := N.length * 100 + (M a).length) ?_ ?_
  · rintro m e ⟨ks, L, s4, rfl, rfl, km, k1, k2, k3, k4, k5⟩
    symm_saturate
    rw [ne_nilL _ (plains_strs L)]
    symm_saturate
    obtain rfl | hL := Classical.em (L = [])
    · simp only [List.map_nil, List.isEmpty_nil, Bool.not_true]
      symm_saturate
      refine h ks k1 fun x => ⟨k2 x, fun hx => ?_⟩
      have cl : ∀ x, Rc M a x → x ∈ ks := fun x hx => by
        induction hx with
        | one h => exact (k5 _ h).resolve_right fun z => nomatch z
        | more _ h ih => exact (k4 _ ih _ h).resolve_right fun z => nomatch z
      exact cl x hx
    · obtain ⟨L, x, rfl⟩ := snoc_of hL
      have e0 : ((L ++ [x]).map D.str).isEmpty = false := by simp
      rw [e0]
      symm_saturate
      rw [notin_rep]
      symm_saturate
      have hx : Rc M a x := k3 x (List.mem_append_right _ (List.mem_singleton.mpr rfl))
      have hxN := T.rc hx ha
      have fx := T.few x hxN
      have lk := nodup_len k1 fun y hy => T.rc (k2 y hy) ha
      have lN := T.len
      refine w_if (fun hc => ?_) (fun hc => ?_)
      · symm_saturate
        rw [putG_rep, ix_mD hxN]
        symm_saturate
        have e1 : ddK ks x = ks ++ [x] := if_neg hc
        have lk2 : (ks ++ [x]).length ≤ N.length := nodup_len (List.nodup_append.mpr ⟨k1, by simp, fun y hy z hz => by rw [List.mem_singleton.mp hz]; exact fun e => hc (e ▸ hy)⟩) fun y hy => by
          rcases List.mem_append.mp hy with hy | hy
          · exact T.rc (k2 y hy) ha
          · rw [List.mem_singleton.mp hy]; exact hxN
        rw [List.length_append, List.length_singleton] at lk2
        refine ⟨Nat.lt_of_le_of_lt (show _ ≤ 100 by rw [rep_len]; omega) (by decide), ?_⟩
        rw [List.length_append, List.length_singleton] at km ⊢
        refine ⟨Nat.le_trans (show _ ≤ 4000 by simp only [List.length_map]; omega) (by decide), ?_⟩
        refine ⟨_, ?_, ks ++ [x], L ++ M x, _, by rw [e1, List.map_append], rfl, ?_, ?_, ?_, ?_, ?_, ?_⟩
        · simp only [List.length_append, List.length_singleton]; omega
        · simp only [List.length_append, List.length_singleton]; omega
        · exact List.nodup_append.mpr ⟨k1, by simp, fun y hy z hz => by rw [List.mem_singleton.mp hz]; exact fun e => hc (e ▸ hy)⟩
        · intro y hy
          rcases List.mem_append.mp hy with hy | hy
          · exact k2 y hy
          · rw [List.mem_singleton.mp hy]; exact hx
        · intro y hy
          rcases List.mem_append.mp hy with hy | hy
          · exact k3 y (List.mem_append_left _ hy)
          · exact .more hx hy
        · intro y hy z hz
          have go : z ∈ ks ∨ z ∈ L ++ [x] → z ∈ ks ++ [x] ∨ z ∈ L ++ M x := fun q => by
            rcases q with q | q
            · exact .inl (List.mem_append_left _ q)
            · rcases List.mem_append.mp q with q | q
              · exact .inr (List.mem_append_left _ q)
              · exact .inl (List.mem_append_right _ q)
          rcases List.mem_append.mp hy with hy | hy
          · exact go (k4 y hy z hz)
          · rw [List.mem_singleton.mp hy] at hz
            exact .inr (List.mem_append_right _ hz)
        · intro z hz
          rcases k5 z hz with q | q
          · exact .inl (List.mem_append_left _ q)
          · rcases List.mem_append.mp q with q | q
            · exact .inr (List.mem_append_left _ q)
            · exact .inl (List.mem_append_right _ q)
      · symm_saturate
        have hc := Classical.not_not.mp hc
        rw [List.length_append, List.length_singleton]
        rw [List.length_append, List.length_singleton] at km
        refine ⟨_, ?_, ks, L, _, rfl, rfl, by omega, k1, k2, fun y hy => k3 y (List.mem_append_left _ hy), fun y hy z hz => ?_, fun y hy => ?_⟩
        · omega
        · rcases k4 y hy z hz with q | q
          · exact .inl q
          · rcases List.mem_append.mp q with q | q
            · exact .inr q
            · rw [List.mem_singleton.mp q]; exact .inl hc
        · rcases k5 y hy with q | q
          · exact .inl q
          · rcases List.mem_append.mp q with q | q
            · exact .inr q
            · rw [List.mem_singleton.mp q]; exact .inl hc
  · have := T.few a ha
    have := T.len
    omega
  · refine ⟨[], M a, _, rfl, by simp, by have := T.few a ha; have := T.len; omega, List.nodup_nil, (fun x z => nomatch z), (fun x hx => .one hx), (fun x z => nomatch z), fun y hy => .inr hy⟩

def gD (g : List Str) : D := .tup (g.map .str)
def isFr (M : Str → List Str) (P g : List Str) : Bool := g.all fun n => (M n).all fun o => decide (o ∈ g) || decide (o ∈ P)
theorem free_ok {N : List Str} {M : Str → List Str} (T : Net N M) {g P : List Str} (hg : ∀ n ∈ g, n ∈ N) {Q : Sls → Sl → Prop}
    (h : Q [.im (gD g), .im (mD N M), .im (.dic (repK P))] (.im (.bl (isFr M P g)))) : W (m_is_free [.im (gD g), .im (mD N M), .im (.dic (repK P))]) Q := by
  delta m_is_free
  simp only [gD] at h ⊢
  symm_saturate
  refine w_for (fun ds e => ∃ (done rest : List Str) (s3 s4 : Sl), ds = rest.map .str ∧ g = done ++ rest ∧ e = [.im (.tup (g.map .str)), .im (mD N M), .im (.dic (repK P)), s3, s4] ∧ ∀ n ∈ done, ∀ o ∈ M n, o ∈ g ∨ o ∈ P) ?_ ?_ ?_
  · exact ⟨[], g, _, _, rfl, rfl, rfl, fun _ z => nomatch z⟩
  · rintro d ds e ⟨done, rest, s3, s4, e1, e2, rfl, hd⟩
    obtain _ | ⟨n, rest⟩ := rest
    · cases e1
    cases e1
    symm_saturate
    have hn : n ∈ g := by rw [e2]; simp
    rw [ix_mD (hg n hn)]
    symm_saturate
    refine w_for (fun ds e => ∃ (dn rs : List Str) (s4 : Sl), ds = rs.map .str ∧ M n = dn ++ rs ∧ e = [.im (.tup (g.map .str)), .im (mD N M), .im (.dic (repK P)), .im (.str n), s4] ∧ ∀ o ∈ dn, o ∈ g ∨ o ∈ P) ?_ ?_ ?_
    · exact ⟨[], M n, _, rfl, rfl, rfl, fun _ z => nomatch z⟩
    · rintro d ds e ⟨dn, rs, s4, f1, f2, rfl, ho⟩
      obtain _ | ⟨o, rs⟩ := rs
      · cases f1
      cases f1
      symm_saturate
      simp only [notIn_strsT]
      symm_saturate
      simp only [notin_rep]
      symm_saturate
      refine w_if (fun hc => ?_) (fun hc => ?_)
      · symm_saturate
        have e0 : isFr M P g = false := by
          rw [Bool.eq_false_iff]
          intro z
          have := List.all_eq_true.mp (List.all_eq_true.mp z n hn) o (by rw [f2]; simp)
          simp only [Bool.or_eq_true, decide_eq_true_eq] at this
          rcases this with q | q
          · exact hc.1 q
          · exact hc.2 q
        rw [e0] at h
        exact h
      · symm_saturate
        refine ⟨dn ++ [o], rs, _, rfl, by rw [f2, List.append_assoc]; rfl, rfl, fun y hy => ?_⟩
        rcases List.mem_append.mp hy with hy | hy
        · exact ho y hy
        · rw [List.mem_singleton.mp hy]
          rcases Classical.em (o ∈ g) with q | q
          · exact .inl q
          · exact .inr (Classical.byContradiction fun z => hc ⟨q, z⟩)
    · rintro e ⟨dn, rs, s4, f1, f2, rfl, ho⟩
      obtain _ | ⟨o, rs⟩ := rs
      · refine ⟨done ++ [n], rest, _, _, rfl, by rw [e2, List.append_assoc]; rfl, rfl, fun y hy o hoy => ?_⟩
        rcases List.mem_append.mp hy with hy | hy
        · exact hd y hy o hoy
        · rw [List.mem_singleton.mp hy, f2, List.append_nil] at hoy
          exact ho o hoy
      · cases f1
  · rintro e ⟨done, rest, s3, s4, e1, e2, rfl, hd⟩
    obtain _ | ⟨n, rest⟩ := rest
    · symm_saturate
      have e0 : isFr M P g = true := by
        refine List.all_eq_true.mpr fun n hn => List.all_eq_true.mpr fun o ho => ?_
        simp only [Bool.or_eq_true, decide_eq_true_eq]
        rw [List.append_nil] at e2
        exact hd n (by rw [← e2]; exact hn) o ho
      rw [e0] at h
      exact h
    · cases e1

theorem gD_plain (g : List Str) : (gD g).plain = true := plains_strs g
theorem gDs_plain : ∀ gs : List (List Str), D.plains (gs.map gD) = true
  | [] => rfl
  | g :: gs => by rw [List.map_cons, D.plains, gD_plain, gDs_plain gs, Bool.and_self]
theorem gD_depth (g : List Str) : (gD g).py.depth ≤ 2 := by
  have := depth_strs g
  simp only [gD, D.py, pys_strs, PyData.depth]; omega
theorem gDs_depth : ∀ gs : List (List Str), PyData.depthAll (D.pys (gs.map gD)) ≤ 2
  | [] => by simp [D.pys, PyData.depthAll]
  | g :: gs => by
    have := gDs_depth gs
    have := gD_depth g
    simp only [List.map_cons, D.pys, PyData.depthAll]; omega
theorem gD_eqv (g k : List Str) : PyData.eqv (gD g).py (gD k).py = decide (g = k) := by
  simp only [gD, D.py, pys_strs, PyData.eqv, eqvAll_strs]
theorem place_g : ∀ {gs : List (List Str)} {g : List Str}, g ∈ gs → ∃ j, placeD (gs.map gD) (gD g) = some j ∧ (gs.map gD).eraseIdx j = (gs.erase g).map gD
  | [], _, h => nomatch h
  | k :: gs, g, h => by
    by_cases z : k = g
    · subst z
      refine ⟨0, ?_, ?_⟩
      · simp only [placeD, SeqAt.dataPlace, List.map_cons, D.pys, List.findIdx?_cons, gD_eqv, decide_true, if_true]
      · simp
    · have hg : g ∈ gs := (List.mem_cons.mp h).resolve_left fun y => z y.symm
      obtain ⟨j, h1, h2⟩ := place_g hg
      refine ⟨j + 1, ?_, ?_⟩
      · simp only [placeD, SeqAt.dataPlace] at h1
        simp only [placeD, SeqAt.dataPlace, List.map_cons, D.pys, List.findIdx?_cons, gD_eqv, decide_eq_false z, Bool.false_eq_true, if_false, h1, Option.map_some]
      · rw [List.map_cons, List.eraseIdx_cons_succ, h2, List.erase_cons_tail (by simpa using z), List.map_cons]
theorem rem_g (gs : List (List Str)) (g : List Str) : remOk (gs.map gD) (gD g) := ⟨gDs_plain gs, gD_plain g, by have := gD_depth g; omega⟩
/-- the groups in order: the first one that is free, again and again -/
def ordF (M : Str → List Str) : Nat → List (List Str) → List Str → Option (List (List Str))
  | _, [], _ => some []
  | 0, _ :: _, _ => none
  | n + 1, g0 :: L, P => match (g0 :: L).filter (isFr M P) with
    | [] => none
    | g :: _ => (ordF M n ((g0 :: L).erase g) (P ++ g)).map (g :: ·)
theorem ordF_cons {M : Str → List Str} {n : Nat} {L : List (List Str)} {P : List Str} {r : List (List Str)} (hL : L ≠ []) (h : ordF M n L P = some r) : ∃ m g gs r', n = m + 1 ∧ L.filter (isFr M P) = g :: gs ∧ ordF M m (L.erase g) (P ++ g) = some r' ∧ r = g :: r' := by
  match n, L, hL with
  | 0, g0 :: L, _ => simp [ordF] at h
  | m + 1, g0 :: L, _ =>
    rw [ordF] at h
    cases hf : (g0 :: L).filter (isFr M P) with
    | nil => rw [hf] at h; cases h
    | cons g gs =>
      rw [hf] at h
      obtain ⟨r', h1, h2⟩ := Option.map_eq_some_iff.mp h
      exact ⟨m, g, gs, r', rfl, rfl, h1, h2.symm⟩
theorem mem_dd (xs ks : List Str) : ∀ x, x ∈ xs.foldl ddK ks ↔ x ∈ ks ∨ x ∈ xs := fun x => dd_mem xs ks x
theorem isFr_congr {M : Str → List Str} {P P' : List Str} (h : ∀ x, x ∈ P ↔ x ∈ P') (g : List Str) : isFr M P g = isFr M P' g := by
  unfold isFr
  have : ∀ o : Str, decide (o ∈ P) = decide (o ∈ P') := fun o => decide_eq_decide.mpr (h o)
  simp only [this]
theorem ordF_congr {M : Str → List Str} : ∀ {n : Nat} {L : List (List Str)} {P P' : List Str}, (∀ x, x ∈ P ↔ x ∈ P') → ordF M n L P = ordF M n L P'
  | _, [], _, _, _ => by simp [ordF]
  | 0, _ :: _, _, _, _ => rfl
  | n + 1, g0 :: L, P, P', h => by
    rw [ordF, ordF]
    have e : (g0 :: L).filter (isFr M P) = (g0 :: L).filter (isFr M P') := List.filter_congr fun g _ => isFr_congr h g
    rw [e]
    cases (g0 :: L).filter (isFr M P') with
    | nil => rfl
    | cons g gs =>
      simp only
      rw [ordF_congr (n := n) (P := P ++ g) (P' := P' ++ g) fun x => by rw [List.mem_append, List.mem_append, h x]]
theorem ordered_ok {N : List Str} {M : Str → List Str} (T : Net N M) {gs r : List (List Str)} (hg : ∀ g ∈ gs, ∀ n ∈ g, n ∈ N) (hn : gs.length ≤ 20) (hr : ordF M gs.length gs [] = some r) {Q : Sls → Sl → Prop}
    (h : Q [.im (.lst (gs.map gD)), .im (mD N M)] (.lst (r.map gD))) : W (m_ordered [.im (.lst (gs.map gD)), .im (mD N M)]) Q := by
  delta m_ordered
  symm_saturate
  refine w_while (fun m e => ∃ (L fs r' : List (List Str)) (P : List Str) (s5 s6 s7 : Sl), e = [.im (.lst (gs.map gD)), .im (mD N M), .lst (L.map gD), .lst (fs.map gD), .dic (repK P), s5, s6, s7] ∧ m = L.length ∧ L.length + fs.length ≤ 20 ∧ (∀ g ∈ L, ∀ n ∈ g, n ∈ N) ∧ (∀ x ∈ P, x ∈ N) ∧ P.Nodup ∧ ordF M L.length L P = some r' ∧ r = fs ++ r') ?_ (m := gs.length) ?_ ?_
  · rintro m e ⟨L, fs, r', P, s5, s6, s7, rfl, rfl, k1, k2, k3, k4, k5, k6⟩
    symm_saturate
    rw [ne_nilL _ (gDs_plain L)]
    symm_saturate
    obtain rfl | hL := Classical.em (L = [])
    · simp only [List.map_nil, List.isEmpty_nil, Bool.not_true]
      symm_saturate
      have e1 : r' = [] := by simp [ordF] at k5; exact k5
      rw [k6, e1, List.append_nil] at h
      exact h
    · obtain ⟨m, g, gs', r2, em, ef, eo, er⟩ := ordF_cons hL k5
      have e0 : (L.map gD).isEmpty = false := by cases L with | nil => exact absurd rfl hL | cons _ _ => rfl
      rw [e0]
      symm_saturate
      have hgL : g ∈ L := (List.mem_filter.mp (by rw [ef]; exact List.mem_cons_self ..)).1
      refine w_lc (fun ds e acc => ∃ (dn rs : List (List Str)), ds = rs.map gD ∧ L = dn ++ rs ∧ acc = (dn.filter (isFr M P)).map gD ∧ e = [.im (.lst (gs.map gD)), .im (mD N M), .im (.lst (L.map gD)), .im (.lst (fs.map gD)), .im (.dic (repK P)), viewS s5, viewS s6, .un]) ?_ ?_ ?_
      · exact ⟨[], L, rfl, rfl, rfl, rfl⟩
      · rintro d ds e acc ⟨dn, rs, f1, f2, rfl, rfl⟩
        obtain _ | ⟨k, rs⟩ := rs
        · cases f1
        cases f1
        symm_saturate
        refine free_ok T (k2 k (by rw [f2]; simp)) ?_
        symm_saturate
        by_cases hf : isFr M P k = true
        · rw [hf]
          simp only [if_true]
          symm_saturate
          refine ⟨Nat.lt_of_le_of_lt (show _ ≤ 20 by rw [List.length_map]; exact Nat.le_trans (List.length_filter_le _ _) (by rw [f2, List.length_append] at k1; omega)) (by decide), dn ++ [k], rs, rfl, by rw [f2, List.append_assoc]; rfl, by rw [List.filter_append, List.filter_cons, if_pos hf, List.filter_nil, List.map_append]; rfl⟩
        · rw [Bool.eq_false_iff.mpr hf]
          simp only [Bool.false_eq_true, if_false]
          symm_saturate
          exact ⟨dn ++ [k], rs, rfl, by rw [f2, List.append_assoc]; rfl, by rw [List.filter_append, List.filter_cons, if_neg hf, List.filter_nil, List.append_nil]⟩
      · rintro e acc ⟨dn, rs, f1, f2, rfl, rfl⟩
        obtain _ | ⟨k, rs⟩ := rs
        · rw [List.append_nil] at f2
          subst f2
          rw [ef]
          have hh : D.hards ((g :: gs').map gD) = true := by
            have : ∀ ks : List (List Str), D.hards (ks.map gD) = true := fun ks => by
              induction ks with
              | nil => rfl
              | cons k ks ih =>
                rw [List.map_cons, D.hards, ih, Bool.and_true]
                simp only [gD, D.hard]
                induction k with
                | nil => rfl
                | cons x k ih2 => rw [List.map_cons, D.hards, D.hard, ih2]; rfl
            exact this _
          symm_saturate
          refine ⟨hh, ?_⟩
          symm_saturate
          refine ⟨Nat.lt_of_le_of_lt (show _ ≤ 20 by rw [List.length_map]; omega) (by decide), ?_⟩
          symm_saturate
          obtain ⟨j, p1, p2⟩ := place_g hgL
          refine ⟨rem_g L g, ?_⟩
          rw [p1]
          symm_saturate
          rw [p2]
          simp only [gD]
          symm_saturate
          have lg := List.length_erase_of_mem hgL
          have lp : 0 < L.length := List.length_pos_of_mem hgL
          refine w_for (fun ds e => ∃ (dn rs : List Str) (s6 : Sl), ds = rs.map .str ∧ g = dn ++ rs ∧ e = [.im (.lst (gs.map gD)), .im (mD N M), .lst ((L.erase g).map gD), .lst (fs.map gD ++ [.tup (g.map .str)]), .dic (repK (dn.foldl ddK P)), .lst (.tup (g.map .str) :: gs'.map gD), s6, s7]) ?_ ?_ ?_
          · exact ⟨[], g, _, rfl, rfl, rfl⟩
          · rintro d ds e ⟨dn, rs, s6, g1, g2, rfl⟩
            obtain _ | ⟨x, rs⟩ := rs
            · cases g1
            cases g1
            symm_saturate
            rw [putG_rep]
            have nd : (dn.foldl ddK P).Nodup := dd_nodup dn P k4
            have lN := T.len
            have lk := nodup_len nd (N := N) fun y hy => by
              rcases (mem_dd dn P y).mp hy with q | q
              · exact k3 y q
              · exact k2 g hgL y (by rw [g2]; exact List.mem_append_left _ q)
            refine ⟨Nat.lt_of_le_of_lt (show _ ≤ 20 by rw [rep_len]; omega) (by decide), dn ++ [x], rs, .im (.str x), rfl, by rw [g2, List.append_assoc]; rfl, by rw [List.foldl_append]; rfl⟩
          · rintro e ⟨dn, rs, s6, g1, g2, rfl⟩
            obtain _ | ⟨x, rs⟩ := rs
            · rw [List.append_nil] at g2
              subst g2
              refine ⟨_, ?_, L.erase g, fs ++ [g], r2, g.foldl ddK P, _, _, _, by rw [List.map_append]; rfl, rfl, ?_, ?_, ?_, dd_nodup g P k4, ?_, ?_⟩
              · rw [lg]; omega
              · rw [lg, List.length_append, List.length_singleton]; omega
              · exact fun k hk => k2 k (List.mem_of_mem_erase hk)
              · intro x hx
                rcases (mem_dd g P x).mp hx with q | q
                · exact k3 x q
                · exact k2 g hgL x q
              · rw [lg, show L.length - 1 = m by omega, ← eo]
                exact ordF_congr fun x => by rw [mem_dd, List.mem_append]
              · rw [k6, er, List.append_assoc]; rfl
            · cases g1
        · cases f1
  · omega
  · exact ⟨gs, [], r, [], _, _, _, rfl, rfl, by simpa using hn, hg, (fun x z => nomatch z), List.nodup_nil, hr, rfl⟩

theorem parts_of_ok {t : T} {Q : Sls → Sl → Prop} (hz : t.z ≤ 1000000) (h : Q [.im t.d] (.im (.lst (t.parts.map pD)))) : W (m_parts_of [.im t.d]) Q := by
  delta m_parts_of
  cases t with
  | num i => simp only [T.d]; symm_saturate; exact h
  | name s => simp only [T.d]; symm_saturate; exact h
  | make s => simp only [T.d]; symm_saturate; exact h
  | app a b => simp only [T.d]; symm_saturate; exact h
  | op o a b => simp only [T.d]; symm_saturate; exact h
  | fn x b => simp only [T.d]; symm_saturate; exact h
  | lt ps b =>
    have l := pl_len ps
    simp only [T.z] at hz
    simp only [T.d]
    symm_saturate
    rw [pl_d]
    refine w_lc_map plD (fun q => .str q.1) (by simp; omega) (fun d hd acc R ha hR => ?_) ?_
    · simp only [plD]
      symm_saturate
      exact ⟨ha, hR⟩
    symm_saturate
    refine w_lc_map plD (fun q => .tup [q.2.d, .tup ((plI ps).map fun q => .str q.1)]) (by simp; omega) (fun d hd acc R ha hR => ?_) ?_
    · simp only [plD]
      symm_saturate
      exact ⟨ha, hR⟩
    symm_saturate
    refine ⟨line_le (by simp; omega), ?_⟩
    simp only [T.parts, T.d, pl_parts, pl_names, List.map_append, List.map_map, List.map_cons, List.map_nil, pD, Function.comp_def] at h
    rw [pl_d] at h
    exact h
  | cs a ws =>
    have l := wl_len ws
    simp only [T.z] at hz
    simp only [T.d]
    symm_saturate
    rw [wl_d]
    refine w_lc_map wlD (fun q => .tup [q.2.2.d, .tup (q.2.1.map .str)]) (by simp; omega) (fun d hd acc R ha hR => ?_) ?_
    · simp only [wlD]
      symm_saturate
      exact ⟨ha, hR⟩
    symm_saturate
    refine ⟨line_le (by simp; omega), ?_⟩
    simp only [T.parts, T.d, wl_parts, List.map_map, List.map_cons, List.map_nil] at h
    rw [wl_d] at h
    exact h

theorem parts_of_wk {t : T} {Q : Sls → Sl → Prop} (hz : t.few 4000) (h : Q [.im t.d] (.im (.lst (t.parts.map pD)))) : W (m_parts_of [.im t.d]) Q := by
  delta m_parts_of
  cases t with
  | num i => simp only [T.d]; symm_saturate; exact h
  | name s => simp only [T.d]; symm_saturate; exact h
  | make s => simp only [T.d]; symm_saturate; exact h
  | app a b => simp only [T.d]; symm_saturate; exact h
  | op o a b => simp only [T.d]; symm_saturate; exact h
  | fn x b => simp only [T.d]; symm_saturate; exact h
  | lt ps b =>
    have l : (plI ps).length ≤ 4000 := hz
    simp only [T.d]
    symm_saturate
    rw [pl_d]
    refine w_lc_map plD (fun q => .str q.1) (by simp; omega) (fun d hd acc R ha hR => ?_) ?_
    · simp only [plD]
      symm_saturate
      exact ⟨ha, hR⟩
    symm_saturate
    refine w_lc_map plD (fun q => .tup [q.2.d, .tup ((plI ps).map fun q => .str q.1)]) (by simp; omega) (fun d hd acc R ha hR => ?_) ?_
    · simp only [plD]
      symm_saturate
      exact ⟨ha, hR⟩
    symm_saturate
    refine ⟨line_le (by simp; omega), ?_⟩
    simp only [T.parts, T.d, pl_parts, pl_names, List.map_append, List.map_map, List.map_cons, List.map_nil, pD, Function.comp_def] at h
    rw [pl_d] at h
    exact h
  | cs a ws =>
    have l : (wlI ws).length ≤ 4000 := hz
    simp only [T.d]
    symm_saturate
    rw [wl_d]
    refine w_lc_map wlD (fun q => .tup [q.2.2.d, .tup (q.2.1.map .str)]) (by simp; omega) (fun d hd acc R ha hR => ?_) ?_
    · simp only [wlD]
      symm_saturate
      exact ⟨ha, hR⟩
    symm_saturate
    refine ⟨line_le (by simp; omega), ?_⟩
    simp only [T.parts, T.d, wl_parts, List.map_map, List.map_cons, List.map_nil] at h
    rw [wl_d] at h
    exact h

def GatherOk (f : Nat) : Prop := ∀ (t : T) (bd ks : List Str) (Q : Sls → Sl → Prop), t.Wk 3900 → t.h < f → bd.length + 4000 * t.h ≤ 4000000 → ks.length + t.z ≤ 400000 →
    Q [.im t.d, .im (.tup (bd.map .str)), .dic (repK ((t.free bd).foldl ddK ks))] (.im .non) → W (m_gather f [.im t.d, .im (.tup (bd.map .str)), .dic (repK ks)]) Q
theorem gather_loop {f : Nat} (ih : GatherOk f) {t : T} {bd : List Str} (ok : t.Wk 3900) (hf : t.h ≤ f) (hb : bd.length + 4000 * t.h ≤ 4000000) : ∀ {qs : List (T × List Str)} {ks : List Str} {s3 s4 : Sl} {Q : Sls → Fl → Prop}, (∀ q ∈ qs, q ∈ t.parts) → ks.length + (qs.map fun q => q.1.z).sum ≤ 400000 →
    (∀ s3 s4, Q [.im t.d, .im (.tup (bd.map .str)), .dic (repK ((restN bd qs).foldl ddK ks)), s3, s4] .nx) →
    W (forL (bTup 2 (bCons (bName 3) (bCons (bName 4) bNil))) (sDrop (fCall (m_gather f) (aIm (fV 3 3) (aIm (fOp addD (kVar 1) (kVar 4)) (aOw 2 aNil))))) (qs.map pD) [.im t.d, .im (.tup (bd.map .str)), .dic (repK ks), s3, s4]) Q
  | [], ks, s3, s4, Q, _, _, h => ⟨_, _, rfl, h s3 s4⟩
  | q :: qs, ks, s3, s4, Q, hq, hl, h => by
    obtain ⟨g1, g3, g4⟩ := (T.parts_wk (by decide) ok).2 q (hq q (List.mem_cons_self ..))
    rw [List.map_cons, List.sum_cons] at hl
    rw [List.map_cons, forL]
    simp only [pD]
    symm_saturate
    refine ⟨line_le (by simp; omega), ?_⟩
    rw [← List.map_append]
    refine ih q.1 (bd ++ q.2) ks _ g3 (by omega) (by rw [List.length_append]; omega) (by omega) ?_
    symm_saturate
    have fl := q.1.free_len (bd ++ q.2)
    have dl := dd_len (q.1.free (bd ++ q.2)) ks
    refine gather_loop ih ok hf hb (fun x hx => hq x (List.mem_cons_of_mem _ hx)) (by omega) fun s3 s4 => ?_
    have := h s3 s4
    rw [restN_cons, List.foldl_append] at this
    exact this
theorem gather_ok : ∀ (f : Nat), GatherOk f
  | 0 => fun t bd ks Q ok hf _ _ _ => by omega
  | f + 1 => by
    intro t bd ks Q ok hf hb hk h
    have zz : t.z ≤ 1000000 := by omega
    have fe := free_eq t bd
    have psum := t.parts_sum
    have loop := fun {qs : List (T × List Str)} {ks : List Str} {s3 s4 : Sl} {Q : Sls → Fl → Prop} => gather_loop (gather_ok f) (qs := qs) (ks := ks) (s3 := s3) (s4 := s4) (Q := Q) ok (by omega) hb
    have pok := fun {Q : Sls → Sl → Prop} => parts_of_ok (t := t) (Q := Q) zz
    simp only [m_gather]
    rcases name_or t with ⟨s, rfl⟩ | ⟨ht, hown⟩
    · have e1 : (T.name s).d = .tup [.str "name", .str s] := rfl
      have pz : ((T.name s).parts.map fun q => q.1.z).sum = 0 := rfl
      have pz1 : (T.name s).z = 1 := rfl
      rw [e1] at loop pok ⊢
      symm_saturate
      rw [notIn_strsT]
      symm_saturate
      refine w_if (fun hc => ?_) (fun hc => ?_)
      · symm_saturate
        have lk : (repK ks).length = ks.length := by simp [repK]
        refine ⟨line_lt (by omega), ?_⟩
        rw [putG_rep]
        refine pok ?_
        symm_saturate
        refine loop (fun q hq => hq) (by have := ddK_len ks s; omega) fun s3 s4 => ?_
        symm_saturate
        rw [fe, e1] at h
        simpa only [ownN, if_neg hc, List.foldl_append, List.foldl_cons, List.foldl_nil] using h
      · symm_saturate
        refine pok ?_
        symm_saturate
        refine loop (fun q hq => hq) (by omega) fun s3 s4 => ?_
        symm_saturate
        have hc' : s ∈ bd := Classical.not_not.mp hc
        rw [fe, e1] at h
        simpa only [ownN, if_pos hc', List.nil_append] using h
    · obtain ⟨r, e1⟩ := tag_d t
      rw [e1] at loop pok ⊢
      symm_saturate
      simp only [ht]
      symm_saturate
      refine pok ?_
      symm_saturate
      refine loop (fun q hq => hq) (by omega) fun s3 s4 => ?_
      symm_saturate
      rw [fe, hown, List.nil_append, e1] at h
      exact h

theorem free_names_wk {t : T} {Q : Sls → Sl → Prop} (ok : t.Wk 3900) (hf : t.h < 100) (hz : t.z ≤ 400000)
    (h : Q [.im t.d] (.im (.lst ((frN t).map .str)))) : W (m_free_names [.im t.d]) Q := by
  delta m_free_names
  symm_saturate
  refine gather_ok 100 t [] [] _ ok hf (by simp only [List.length_nil]; omega) (by simp only [List.length_nil]; omega) ?_
  symm_saturate
  simp only [sortedD]
  rw [o_sortedK _ (fun s hs => by
    have hs := (dd_mem _ _ s).mp hs
    rcases hs with hs | hs
    · exact nomatch hs
    · exact asc_sOk (free_asc (by decide) t.h t [] (Nat.le_refl _) ok s hs))]
  symm_saturate
  exact h
def RwD (p : Str × List Str × T) : D := .tup [.str p.1, .tup (p.2.1.map .str), p.2.2.d]
def bodyOf : List (Str × List Str × T) → Str → T
  | [], _ => .num 0
  | (n, _, t) :: r, a => if n = a then t else bodyOf r a
def menN (ds : List (Str × List Str × T)) (a : Str) : List Str := (frN (bodyOf ds a)).filter fun x => decide (x ∈ ds.map (·.1))
theorem bodyOf_mem {ds : List (Str × List Str × T)} (nd : (ds.map (·.1)).Nodup) : ∀ {p : Str × List Str × T}, p ∈ ds → bodyOf ds p.1 = p.2.2 := by
  induction ds with
  | nil => intro p h; cases h
  | cons q r ih =>
    intro p h
    obtain ⟨n, ps, t⟩ := q
    obtain ⟨n1, n2⟩ := List.nodup_cons.mp nd
    rw [bodyOf]
    rcases List.mem_cons.mp h with rfl | h
    · rw [if_pos rfl]
    · rw [if_neg (fun z => n1 (by rw [z]; exact List.mem_map.mpr ⟨p, h, rfl⟩))]
      exact ih n2 h
theorem mentions_ok {ds : List (Str × List Str × T)} (nd : (ds.map (·.1)).Nodup) (len : ds.length ≤ 20) (ok : ∀ p ∈ ds, p.2.2.Wk 3900 ∧ p.2.2.h < 100 ∧ p.2.2.z ≤ 400000) {Q : Sls → Sl → Prop}
    (h : Q [.im (.tup (ds.map RwD))] (.im (mD (ds.map (·.1)) (menN ds)))) : W (m_mentions_of [.im (.tup (ds.map RwD))]) Q := by
  delta m_mentions_of
  symm_saturate
  refine w_dc (fun xs e acc => ∃ (dn rs : List (Str × List Str × T)), xs = rs.map RwD ∧ ds = dn ++ rs ∧ acc = repK (dn.map (·.1)) ∧ e = [.im (.tup (ds.map RwD)), .un, .un, .un, .un, .un]) ?_ ?_ ?_
  · exact ⟨[], ds, rfl, rfl, rfl, rfl⟩
  · rintro d xs e acc ⟨dn, rs, e1, e2, rfl, rfl⟩
    obtain _ | ⟨p, rs⟩ := rs
    · cases e1
    cases e1
    simp only [RwD]
    symm_saturate
    rw [putG_rep]
    have hp : p.1 ∉ dn.map (·.1) := fun z => by
      rw [e2, List.map_append, List.map_cons] at nd
      exact (List.nodup_append.mp nd).2.2 _ z _ (List.mem_cons_self ..) rfl
    have e3 : ddK (dn.map (·.1)) p.1 = (dn ++ [p]).map (·.1) := by rw [ddK, if_neg hp, List.map_append]; rfl
    rw [e3]
    refine ⟨Nat.lt_of_le_of_lt (show _ ≤ 20 by rw [rep_len, List.length_map]; rw [e2, List.length_append] at len; omega) (by decide), dn ++ [p], rs, rfl, by rw [e2, List.append_assoc]; rfl, rfl⟩
  · rintro e acc ⟨dn, rs, e1, e2, rfl, rfl⟩
    obtain _ | ⟨p, rs⟩ := rs
    · rw [List.append_nil] at e2
      subst e2
      symm_saturate
      refine w_dc (fun xs e acc => ∃ (dn rs : List (Str × List Str × T)), xs = rs.map RwD ∧ ds = dn ++ rs ∧ acc = mapK (dn.map (·.1)) (fun n => .lst ((menN ds n).map .str)) ∧ e = [.im (.tup (ds.map RwD)), .im (.dic (repK (ds.map (·.1)))), .un, .un, .un, .un]) ?_ ?_ ?_
      · exact ⟨[], ds, rfl, rfl, rfl, rfl⟩
      · rintro d xs e acc ⟨dn, rs, e1, e2, rfl, rfl⟩
        obtain _ | ⟨p, rs⟩ := rs
        · cases e1
        cases e1
        have pm : p ∈ ds := by rw [e2]; simp
        obtain ⟨o1, o2, o3⟩ := ok p pm
        simp only [RwD]
        symm_saturate
        refine free_names_wk o1 o2 o3 ?_
        symm_saturate
        refine w_lc_filt D.str D.str (fun x => decide (x ∈ ds.map (·.1))) (by have := frN_len p.2.2; simp only [List.length_nil]; omega) (fun s hs acc R ha hR => ?_) ?_
        · symm_saturate
          simp only [in_rep]
          symm_saturate
          refine w_if (fun z => ?_) (fun z => ?_)
          · rw [decide_eq_true z] at hR
            simp only [if_true] at hR
            symm_saturate
            exact ⟨ha, hR⟩
          · rw [decide_eq_false z] at hR
            simp only [Bool.false_eq_true, if_false] at hR
            symm_saturate
            exact hR
        symm_saturate
        have hp : p.1 ∉ dn.map (·.1) := fun z => by
          rw [e2, List.map_append, List.map_cons] at nd
          exact (List.nodup_append.mp nd).2.2 _ z _ (List.mem_cons_self ..) rfl
        rw [putG_mapK hp]
        refine ⟨Nat.lt_of_le_of_lt (show _ ≤ 20 by simp only [mapK, List.length_map]; rw [e2, List.length_append] at len; omega) (by decide), dn ++ [p], rs, rfl, by rw [e2, List.append_assoc]; rfl, ?_⟩
        rw [List.map_append]
        exact mapK_snoc (by rw [menN, bodyOf_mem nd pm]) fun _ _ => rfl
      · rintro e acc ⟨dn, rs, e1, e2, rfl, rfl⟩
        obtain _ | ⟨p, rs⟩ := rs
        · rw [List.append_nil] at e2
          subst e2
          symm_saturate
          exact h
        · cases e1
    · cases e1

open Classical in
noncomputable def grp (N : List Str) (M : Str → List Str) (a : Str) : List Str := N.filter fun b => decide (b = a ∨ (Rc M a b ∧ Rc M b a))
theorem grp_mem {N : List Str} {M : Str → List Str} {a b : Str} : b ∈ grp N M a ↔ b ∈ N ∧ (b = a ∨ (Rc M a b ∧ Rc M b a)) := by
  unfold grp
  rw [List.mem_filter]
  exact ⟨fun z => ⟨z.1, @of_decide_eq_true _ (_) z.2⟩, fun z => ⟨z.1, @decide_eq_true _ (_) z.2⟩⟩
theorem grp_eq {N : List Str} {M : Str → List Str} {a b : Str} (h : b ∈ grp N M a) : grp N M b = grp N M a := by
  obtain ⟨_, rfl | ⟨h1, h2⟩⟩ := grp_mem.mp h
  · rfl
  · unfold grp
    refine List.filter_congr fun c _ => ?_
    have e : (c = b ∨ (Rc M b c ∧ Rc M c b)) = (c = a ∨ (Rc M a c ∧ Rc M c a)) := by
     refine propext ⟨fun z => ?_, fun z => ?_⟩
     · rcases z with rfl | ⟨z1, z2⟩
       · exact .inr ⟨h1, h2⟩
       · exact .inr ⟨h1.trans z1, z2.trans h2⟩
     · rcases z with rfl | ⟨z1, z2⟩
       · exact .inr ⟨h2, h1⟩
       · exact .inr ⟨h2.trans z1, z2.trans h1⟩
    rw [Bool.eq_iff_iff]
    exact ⟨fun z => @decide_eq_true _ (_) (e ▸ @of_decide_eq_true _ (_) z), fun z => @decide_eq_true _ (_) (e.symm ▸ @of_decide_eq_true _ (_) z)⟩
theorem grp_self {N : List Str} {M : Str → List Str} {a : Str} (h : a ∈ N) : a ∈ grp N M a := grp_mem.mpr ⟨h, .inl rfl⟩
noncomputable def gpsF (N : List Str) (M : Str → List Str) (gs : List (List Str)) (a : Str) : List (List Str) := if grp N M a ∈ gs then gs else gs ++ [grp N M a]
noncomputable def gpsOf (N : List Str) (M : Str → List Str) : List (List Str) := N.foldl (gpsF N M) []
structure GpsOk (N : List Str) (M : Str → List Str) (dn : List Str) (gs : List (List Str)) : Prop where
  nd : gs.Nodup
  of : ∀ g ∈ gs, ∃ a ∈ dn, g = grp N M a
  all : ∀ a ∈ dn, grp N M a ∈ gs
  len : gs.length ≤ dn.length
theorem gpsF_ok {N : List Str} {M : Str → List Str} {dn : List Str} {gs : List (List Str)} (h : GpsOk N M dn gs) (a : Str) : GpsOk N M (dn ++ [a]) (gpsF N M gs a) := by
  unfold gpsF
  split
  · rename_i hm
    refine ⟨h.nd, fun g hg => ?_, fun b hb => ?_, ?_⟩
    · obtain ⟨b, hb, e⟩ := h.of g hg
      exact ⟨b, List.mem_append_left _ hb, e⟩
    · rcases List.mem_append.mp hb with hb | hb
      · exact h.all b hb
      · rw [List.mem_singleton.mp hb]; exact hm
    · rw [List.length_append]; have := h.len; omega
  · rename_i hm
    refine ⟨List.nodup_append.mpr ⟨h.nd, by simp, fun y hy z hz => by rw [List.mem_singleton.mp hz]; exact fun e => hm (e ▸ hy)⟩, fun g hg => ?_, fun b hb => ?_, ?_⟩
    · rcases List.mem_append.mp hg with hg | hg
      · obtain ⟨b, hb, e⟩ := h.of g hg
        exact ⟨b, List.mem_append_left _ hb, e⟩
      · exact ⟨a, by simp, List.mem_singleton.mp hg⟩
    · rcases List.mem_append.mp hb with hb | hb
      · exact List.mem_append_left _ (h.all b hb)
      · rw [List.mem_singleton.mp hb]; simp
    · have := h.len
      simp only [List.length_append, List.length_singleton]; omega
theorem gps_seen {N : List Str} {M : Str → List Str} {dn : List Str} {gs : List (List Str)} (h : GpsOk N M dn gs) {a : Str} (ha : a ∈ N) : (∃ g ∈ gs, a ∈ g) ↔ grp N M a ∈ gs := by
  constructor
  · rintro ⟨g, hg, hm⟩
    obtain ⟨b, _, rfl⟩ := h.of g hg
    rw [grp_eq hm]; exact hg
  · exact fun hg => ⟨_, hg, grp_self ha⟩
theorem grouped_ok {ds : List (Str × List Str × T)} (T : Net (ds.map (·.1)) (menN ds)) (ok : ∀ p ∈ ds, p.2.2.Wk 3900 ∧ p.2.2.h < 100 ∧ p.2.2.z ≤ 400000) {r : List (List Str)} (hr : ordF (menN ds) (gpsOf (ds.map (·.1)) (menN ds)).length (gpsOf (ds.map (·.1)) (menN ds)) [] = some r) {Q : Sls → Sl → Prop}
    (h : Q [.im (.tup (ds.map RwD))] (.lst (r.map gD))) : W (m_grouped [.im (.tup (ds.map RwD))]) Q := by
  have len : ds.length ≤ 20 := by have := T.len; rw [List.length_map] at this; exact this
  delta m_grouped
  symm_saturate
  refine mentions_ok T.nd len ok ?_
  generalize hN : ds.map (·.1) = N at T hr ⊢
  generalize menN ds = M at T hr ⊢
  symm_saturate
  simp only [mD]
  symm_saturate
  refine ⟨mapK_ok T.ok, ?_⟩
  simp only [mapK_keys]
  refine w_dc (fun xs e acc => ∃ (dn rs : List Str) (f : Str → List Str), xs = rs.map .str ∧ N = dn ++ rs ∧ acc = mapK dn (fun n => .dic (repK (f n))) ∧ e = [.im (.tup (ds.map RwD)), .im (mD N M), .un, .un, .un, .un, .un, .un] ∧ ∀ a ∈ dn, ∀ x, x ∈ f a ↔ Rc M a x) ?_ ?_ ?_
  · exact ⟨[], N, fun _ => [], rfl, rfl, rfl, rfl, fun _ z => nomatch z⟩
  · rintro d xs e acc ⟨dn, rs, f, e1, e2, rfl, rfl, hf⟩
    obtain _ | ⟨a, rs⟩ := rs
    · cases e1
    cases e1
    have ha : a ∈ N := by rw [e2]; simp
    have hd : a ∉ dn := fun z => by
      have nd := T.nd
      rw [e2] at nd
      exact (List.nodup_append.mp nd).2.2 _ z _ (List.mem_cons_self ..) rfl
    symm_saturate
    refine come_ok T ha fun ks k1 k2 => ?_
    symm_saturate
    rw [putG_mapK hd]
    refine ⟨Nat.lt_of_le_of_lt (show _ ≤ 20 by simp only [mapK, List.length_map]; have := T.len; rw [e2, List.length_append] at this; omega) (by decide), dn ++ [a], rs, fun n => if n = a then ks else f n, rfl, by rw [e2, List.append_assoc]; rfl, ?_, ?_⟩
    · refine mapK_snoc (by simp) fun n hn => ?_
      have : n ≠ a := fun z => hd (z ▸ hn)
      simp [this]
    · intro b hb x
      by_cases z : b = a
      · subst z; simp only [if_true]; exact k2 x
      · simp only [if_neg z]
        rcases List.mem_append.mp hb with hb | hb
        · exact hf b hb x
        · exact absurd (List.mem_singleton.mp hb) z
  · rintro e acc ⟨dn, rs, f, e1, e2, rfl, rfl, hf⟩
    obtain _ | ⟨a, rs⟩ := rs
    · rw [List.append_nil] at e2
      subst e2
      symm_saturate
      simp only [mD]
      symm_saturate
      refine ⟨mapK_ok T.ok, ?_⟩
      simp only [mapK_keys]
      refine w_for (fun xs e => ∃ (dn rs : List Str) (gs : List (List Str)) (P : List Str) (s5 s6 s7 : Sl), xs = rs.map .str ∧ N = dn ++ rs ∧ gs = dn.foldl (gpsF N M) [] ∧ e = [.im (.tup (ds.map RwD)), .im (mD N M), .im (.dic (mapK N fun n => .dic (repK (f n)))), .lst (gs.map gD), .dic (repK P), s5, s6, s7] ∧ GpsOk N M dn gs ∧ P.Nodup ∧ (∀ x, x ∈ P ↔ ∃ g ∈ gs, x ∈ g) ∧ s7.hand = false) ?_ ?_ ?_
      · exact ⟨[], N, [], [], _, _, _, rfl, rfl, rfl, rfl, ⟨List.nodup_nil, (fun _ z => nomatch z), (fun _ z => nomatch z), Nat.le_refl _⟩, List.nodup_nil, (fun x => by simp), rfl⟩
      · rintro d xs e ⟨dn, rs, gs, P, s5, s6, s7, e1, e2, eg, rfl, G, hP, hs, h7⟩
        obtain _ | ⟨a, rs⟩ := rs
        · cases e1
        cases e1
        have ha : a ∈ N := by rw [e2]; simp
        have G2 := gpsF_ok G a
        symm_saturate
        simp only [notin_rep]
        symm_saturate
        refine w_if (fun hc => ?_) (fun hc => ?_)
        · have hg : grp N M a ∉ gs := fun z => hc ((hs a).mpr ((gps_seen G ha).mpr z))
          have e3 : gpsF N M gs a = gs ++ [grp N M a] := if_neg hg
          symm_saturate
          simp only [mD]
          symm_saturate
          refine ⟨mapK_ok T.ok, ?_⟩
          simp only [mapK_keys]
          refine ⟨h7, ?_⟩
          refine w_lc_filt D.str D.str (fun b => decide (b ∈ grp N M a)) (by have := T.len; show (0 : Nat) + N.length ≤ _; omega) (fun b hb acc R hl hR => ?_) ?_
          · have hbg : decide (b ∈ grp N M a) = decide (b = a ∨ (b ∈ f a ∧ a ∈ f b)) := decide_eq_decide.mpr (by rw [grp_mem, hf a ha, hf b hb]; exact ⟨fun z => z.2, fun z => ⟨hb, z⟩⟩)
            rw [hbg] at hR
            symm_saturate
            simp only [ix_mapK ha, ix_mapK hb]
            symm_saturate
            simp only [in_rep]
            symm_saturate
            refine w_if (fun z => ?_) (fun z => ?_)
            · have e5 : decide (b = a ∨ (b ∈ f a ∧ a ∈ f b)) = true := decide_eq_true (.inl z)
              rw [e5] at hR
              simp only [if_true] at hR
              symm_saturate
              exact ⟨hl, hR⟩
            · symm_saturate
              refine w_if (fun z2 => ?_) (fun z2 => ?_)
              · symm_saturate
                simp only [ix_mapK hb]
                symm_saturate
                simp only [in_rep]
                symm_saturate
                refine w_if (fun z3 => ?_) (fun z3 => ?_)
                · have e5 : decide (b = a ∨ (b ∈ f a ∧ a ∈ f b)) = true := decide_eq_true (.inr ⟨z2, z3⟩)
                  rw [e5] at hR
                  simp only [if_true] at hR
                  symm_saturate
                  exact ⟨hl, hR⟩
                · rw [decide_eq_false (p := b = a ∨ (b ∈ f a ∧ a ∈ f b)) (fun q => q.elim z fun q => z3 q.2)] at hR
                  simp only [Bool.false_eq_true, if_false] at hR
                  symm_saturate
                  exact hR
              · rw [decide_eq_false (p := b = a ∨ (b ∈ f a ∧ a ∈ f b)) (fun q => q.elim z fun q => z2 q.1)] at hR
                simp only [Bool.false_eq_true, if_false] at hR
                symm_saturate
                exact hR
          have eN : N.filter (fun b => decide (b ∈ grp N M a)) = grp N M a := by
            have e4 : ∀ b, (b ∈ N.filter fun b => decide (b ∈ grp N M a)) ↔ b ∈ grp N M a := fun b => by
              rw [List.mem_filter, decide_eq_true_eq]
              exact ⟨fun z => z.2, fun z => ⟨(grp_mem.mp z).1, z⟩⟩
            conv => rhs; unfold grp
            refine List.filter_congr fun b hb => ?_
            rw [Bool.eq_iff_iff, decide_eq_true_eq, grp_mem]
            exact ⟨fun z => @decide_eq_true _ (_) z.2, fun z => ⟨hb, @of_decide_eq_true _ (_) z⟩⟩
          rw [eN]
          symm_saturate
          have lgs : gs.length + 1 ≤ 20 := by
            have := G.len
            have := T.len
            rw [e2, List.length_append, List.length_cons] at this
            omega
          refine ⟨Nat.lt_of_le_of_lt (show _ ≤ 20 by rw [List.length_map]; omega) (by decide), ?_⟩
          refine w_for (fun xs e => ∃ (d2 r2 : List Str) (s7 : Sl), xs = r2.map .str ∧ grp N M a = d2 ++ r2 ∧ e = [.im (.tup (ds.map RwD)), .im (mD N M), .im (.dic (mapK N fun n => .dic (repK (f n)))), .lst ((gs ++ [grp N M a]).map gD), .dic (repK (d2.foldl ddK P)), .im (.str a), .im (.tup ((grp N M a).map .str)), s7] ∧ s7.hand = false) ?_ ?_ ?_
          · exact ⟨[], grp N M a, _, rfl, rfl, by rw [List.map_append]; rfl, h7⟩
          · rintro d xs e ⟨d2, r2, s7, g1, g2, rfl, h7⟩
            obtain _ | ⟨x, r2⟩ := r2
            · cases g1
            cases g1
            symm_saturate
            rw [putG_rep]
            have lk := nodup_len (dd_nodup d2 P hP) (N := N) fun y hy => by
              rcases (mem_dd d2 P y).mp hy with q | q
              · obtain ⟨g, hg, hy2⟩ := (hs y).mp q
                obtain ⟨b, _, rfl⟩ := G.of g hg
                exact (grp_mem.mp hy2).1
              · exact (grp_mem.mp (by rw [g2]; exact List.mem_append_left _ q)).1
            have lN := T.len
            exact ⟨Nat.lt_of_le_of_lt (show _ ≤ 20 by rw [rep_len]; omega) (by decide), d2 ++ [x], r2, .im (.str x), rfl, by rw [g2, List.append_assoc]; rfl, by rw [List.foldl_append]; rfl, rfl⟩
          · rintro e ⟨d2, r2, s7, g1, g2, rfl, h7⟩
            obtain _ | ⟨x, r2⟩ := r2
            · rw [List.append_nil] at g2
              subst g2
              rw [e3] at G2
              refine ⟨dn ++ [a], rs, gs ++ [grp N M a], (grp N M a).foldl ddK P, _, _, _, rfl, by rw [e2, List.append_assoc]; rfl, by rw [List.foldl_append, ← eg]; exact e3.symm, rfl, G2, dd_nodup _ P hP, fun x => ?_, h7⟩
              rw [mem_dd, hs x]
              constructor
              · rintro (⟨g, hg, hx⟩ | hx)
                · exact ⟨g, List.mem_append_left _ hg, hx⟩
                · exact ⟨_, List.mem_append_right _ (List.mem_singleton.mpr rfl), hx⟩
              · rintro ⟨g, hg, hx⟩
                rcases List.mem_append.mp hg with hg | hg
                · exact .inl ⟨g, hg, hx⟩
                · rw [List.mem_singleton.mp hg] at hx; exact .inr hx
            · cases g1
        · have hc := Classical.not_not.mp hc
          have hg : grp N M a ∈ gs := (gps_seen G ha).mp ((hs a).mp hc)
          have e3 : gpsF N M gs a = gs := if_pos hg
          rw [e3] at G2
          symm_saturate
          exact ⟨dn ++ [a], rs, gs, P, _, _, _, rfl, by rw [e2, List.append_assoc]; rfl, by rw [List.foldl_append, ← eg]; exact e3.symm, rfl, G2, hP, hs, h7⟩
      · rintro e ⟨dn, rs, gs, P, s5, s6, s7, e1, e2, eg, rfl, G, hP, hs, h7⟩
        obtain _ | ⟨a, rs⟩ := rs
        · rw [List.append_nil] at e2
          subst e2
          have eo : gs = gpsOf N M := eg
          symm_saturate
          refine ordered_ok T (gs := gs) (r := r) (fun g hg n hn => ?_) (Nat.le_trans G.len T.len) (by rw [eo]; exact hr) ?_
          · obtain ⟨b, _, rfl⟩ := G.of g hg
            exact (grp_mem.mp hn).1
          · symm_saturate
            exact h
        · cases e1
    · cases e1

/-! a free group is always there -/
open Classical in
noncomputable def rfl' (N : List Str) (M : Str → List Str) (a : Str) : List Str := N.filter fun b => decide (b = a ∨ Rc M a b)
theorem rfl_mem {N : List Str} {M : Str → List Str} {a b : Str} : b ∈ rfl' N M a ↔ b ∈ N ∧ (b = a ∨ Rc M a b) := by
  unfold rfl'
  rw [List.mem_filter]
  exact ⟨fun z => ⟨z.1, @of_decide_eq_true _ (_) z.2⟩, fun z => ⟨z.1, @decide_eq_true _ (_) z.2⟩⟩
theorem filter_lt {α : Type} {p q : α → Bool} : ∀ {N : List α}, (∀ x ∈ N, p x = true → q x = true) → ∀ {a : α}, a ∈ N → q a = true → p a = false → (N.filter p).length < (N.filter q).length
  | [], _, _, h, _, _ => nomatch h
  | x :: N, h, a, ha, h1, h2 => by
    have le : ∀ {N : List α}, (∀ x ∈ N, p x = true → q x = true) → (N.filter p).length ≤ (N.filter q).length := fun {N} h => by
      induction N with
      | nil => exact Nat.le_refl _
      | cons y N ih =>
        have ih := ih fun x hx => h x (List.mem_cons_of_mem _ hx)
        rw [List.filter_cons, List.filter_cons]
        by_cases z : p y = true
        · rw [if_pos z, if_pos (h y (List.mem_cons_self ..) z), List.length_cons, List.length_cons]; omega
        · rw [if_neg z]
          split
          · rw [List.length_cons]; omega
          · exact ih
    have le' := le fun x hx => h x (List.mem_cons_of_mem _ hx)
    rw [List.filter_cons, List.filter_cons]
    rcases List.mem_cons.mp ha with rfl | ha
    · rw [h1, h2]
      simp only [Bool.false_eq_true, if_false, if_true, List.length_cons]; omega
    · have ih := filter_lt (N := N) (fun x hx => h x (List.mem_cons_of_mem _ hx)) ha h1 h2
      by_cases z : p x = true
      · rw [if_pos z, if_pos (h x (List.mem_cons_self ..) z), List.length_cons, List.length_cons]; omega
      · rw [if_neg z]
        split
        · rw [List.length_cons]; omega
        · exact ih
theorem isFr_iff {M : Str → List Str} {P g : List Str} : isFr M P g = true ↔ ∀ n ∈ g, ∀ o ∈ M n, o ∈ g ∨ o ∈ P := by
  unfold isFr
  simp only [List.all_eq_true, Bool.or_eq_true, decide_eq_true_eq]
theorem some_free {N : List Str} {M : Str → List Str} (T : Net N M) {L : List (List Str)} {P : List Str} (cov : ∀ a ∈ N, a ∈ P ∨ grp N M a ∈ L) : ∀ (k : Nat) (a : Str), a ∈ N → grp N M a ∈ L → (rfl' N M a).length ≤ k → ∃ g ∈ L, isFr M P g = true
  | 0, a, ha, _, hk => by
    have : a ∈ rfl' N M a := rfl_mem.mpr ⟨ha, .inl rfl⟩
    rw [List.length_eq_zero_iff.mp (Nat.le_zero.mp hk)] at this
    exact nomatch this
  | k + 1, a, ha, hg, hk => by
    by_cases hf : isFr M P (grp N M a) = true
    · exact ⟨_, hg, hf⟩
    · have : ∃ n ∈ grp N M a, ∃ o ∈ M n, o ∉ grp N M a ∧ o ∉ P := by
        refine Classical.byContradiction fun z => hf (isFr_iff.mpr fun n hn o ho => ?_)
        refine Classical.byContradiction fun z2 => z ⟨n, hn, o, ho, fun q => z2 (.inl q), fun q => z2 (.inr q)⟩
      obtain ⟨n, hn, o, ho, h1, h2⟩ := this
      obtain ⟨hnN, hna⟩ := grp_mem.mp hn
      have hoN := T.sub n hnN o ho
      have rc : Rc M a o := by
        rcases hna with rfl | ⟨q, _⟩
        · exact .one ho
        · exact .more q ho
      have nr : ¬ Rc M o a := fun z => h1 (grp_mem.mpr ⟨hoN, .inr ⟨rc, z⟩⟩)
      have ne : a ≠ o := fun z => h1 (by rw [← z]; exact grp_self ha)
      have lt : (rfl' N M o).length < (rfl' N M a).length := by
        unfold rfl'
        refine filter_lt (fun x _ hx => ?_) ha ?_ ?_
        · have hx := @of_decide_eq_true _ (_) hx
          refine @decide_eq_true _ (_) (.inr ?_)
          rcases hx with rfl | hx
          · exact rc
          · exact rc.trans hx
        · exact @decide_eq_true _ (_) (.inl rfl)
        · exact @decide_eq_false _ (_) fun z => z.elim ne nr
      exact some_free T cov k o hoN ((cov o hoN).resolve_left h2) (by omega)
theorem ordF_some {N : List Str} {M : Str → List Str} (T : Net N M) : ∀ (n : Nat) (L : List (List Str)) (P : List Str), L.length = n → (∀ g ∈ L, ∃ a ∈ N, g = grp N M a) → (∀ a ∈ N, a ∈ P ∨ grp N M a ∈ L) → ∃ r, ordF M n L P = some r
  | 0, L, P, hl, _, _ => by
    rw [List.length_eq_zero_iff.mp hl]
    exact ⟨[], by simp [ordF]⟩
  | n + 1, [], P, hl, _, _ => by simp at hl
  | n + 1, g0 :: L, P, hl, of, cov => by
    obtain ⟨a0, ha0, e0⟩ := of g0 (List.mem_cons_self ..)
    obtain ⟨g, hg, hf⟩ := some_free T cov _ a0 ha0 (by rw [← e0]; exact List.mem_cons_self ..) (Nat.le_refl _)
    rw [ordF]
    cases hx : (g0 :: L).filter (isFr M P) with
    | nil =>
      have : g ∈ (g0 :: L).filter (isFr M P) := List.mem_filter.mpr ⟨hg, hf⟩
      rw [hx] at this; exact nomatch this
    | cons k ks =>
      have hk : k ∈ g0 :: L := (List.mem_filter.mp (by rw [hx]; exact List.mem_cons_self ..)).1
      obtain ⟨r, hr⟩ := ordF_some T n ((g0 :: L).erase k) (P ++ k) (by rw [List.length_erase_of_mem hk, hl]; omega) (fun g hg => of g (List.mem_of_mem_erase hg)) fun a ha => by
        rcases cov a ha with q | q
        · exact .inl (List.mem_append_left _ q)
        · by_cases z : grp N M a = k
          · exact .inl (List.mem_append_right _ (z ▸ grp_self ha))
          · exact .inr ((List.mem_erase_of_ne z).mpr q)
      exact ⟨k :: r, by simp only [hr, Option.map_some]⟩
/-! the law's table -/
def wm (adj : Nat → Nat → Bool) : Nat → Nat → Nat → Bool
  | 0, i, j => adj i j
  | t + 1, i, j => wm adj t i j || (wm adj t i t && wm adj t t j)
theorem wm_trans {adj : Nat → Nat → Bool} : ∀ (t : Nat) {i k j : Nat}, k < t → wm adj t i k = true → wm adj t k j = true → wm adj t i j = true
  | t + 1, i, k, j, hk, h1, h2 => by
    simp only [wm, Bool.or_eq_true, Bool.and_eq_true] at h1 h2 ⊢
    by_cases z : k = t
    · subst z
      have a1 : wm adj k i k = true := h1.elim id fun q => q.1
      have a2 : wm adj k k j = true := h2.elim id fun q => q.2
      exact .inr ⟨a1, a2⟩
    · have hk' : k < t := by omega
      rcases h1 with h1 | ⟨h1, h1'⟩
      · rcases h2 with h2 | ⟨h2, h2'⟩
        · exact .inl (wm_trans t hk' h1 h2)
        · exact .inr ⟨wm_trans t hk' h1 h2, h2'⟩
      · rcases h2 with h2 | ⟨h2, h2'⟩
        · exact .inr ⟨h1, wm_trans t hk' h1' h2⟩
        · exact .inr ⟨h1, h2'⟩
theorem wm_adj {adj : Nat → Nat → Bool} {i j : Nat} (h : adj i j = true) : ∀ t : Nat, wm adj t i j = true
  | 0 => h
  | t + 1 => by rw [wm, wm_adj h t, Bool.true_or]
def nm (N : List Str) (j : Nat) : Str := N.getD j ""
theorem nm_mem {N : List Str} {j : Nat} (h : j < N.length) : nm N j ∈ N := by
  unfold nm
  rw [List.getD_eq_getElem?_getD, List.getElem?_eq_getElem h]
  exact List.getElem_mem h
theorem nm_inj {N : List Str} (nd : N.Nodup) {i j : Nat} (hi : i < N.length) (hj : j < N.length) (h : nm N i = nm N j) : i = j := by
  unfold nm at h
  rw [List.getD_eq_getElem?_getD, List.getElem?_eq_getElem hi, List.getD_eq_getElem?_getD, List.getElem?_eq_getElem hj] at h
  have nd' := List.pairwise_iff_getElem.mp nd
  rcases Nat.lt_trichotomy i j with z | z | z
  · exact absurd h (nd' i j hi hj z)
  · exact z
  · exact absurd h.symm (nd' j i hj hi z)
theorem nm_of {N : List Str} {a : Str} (h : a ∈ N) : ∃ j, j < N.length ∧ nm N j = a := by
  obtain ⟨j, hj, e⟩ := List.getElem_of_mem h
  refine ⟨j, hj, ?_⟩
  unfold nm
  rw [List.getD_eq_getElem?_getD, List.getElem?_eq_getElem hj]
  exact e
theorem nm_range (N : List Str) : (List.range N.length).map (nm N) = N := by
  refine List.ext_getElem (by simp) fun i h1 h2 => ?_
  simp [nm, List.getD_eq_getElem?_getD]
  rw [List.getElem?_eq_getElem h2]; rfl
theorem wm_rc {N : List Str} {S : Str → List Str} (T : Net N S) {adj : Nat → Nat → Bool} (ha : ∀ i j, i < N.length → j < N.length → (adj i j = true ↔ nm N j ∈ S (nm N i))) {i j : Nat} (hi : i < N.length) (hj : j < N.length) : wm adj N.length i j = true ↔ Rc S (nm N i) (nm N j) := by
  constructor
  · have key : ∀ (t : Nat), t ≤ N.length → ∀ {i j : Nat}, i < N.length → j < N.length → wm adj t i j = true → Rc S (nm N i) (nm N j) := by
      intro t
      induction t with
      | zero => exact fun _ i j hi hj h => .one ((ha i j hi hj).mp h)
      | succ t ih =>
        intro ht i j hi hj h
        simp only [wm, Bool.or_eq_true, Bool.and_eq_true] at h
        rcases h with h | ⟨h1, h2⟩
        · exact ih (by omega) hi hj h
        · exact (ih (by omega) hi (by omega) h1).trans (ih (by omega) (by omega) hj h2)
    exact key N.length (Nat.le_refl _) hi hj
  · have key : ∀ {b : Str}, Rc S (nm N i) b → ∀ j, j < N.length → nm N j = b → wm adj N.length i j = true := by
      intro b h
      induction h with
      | one h => exact fun j hj e => wm_adj ((ha i j hi hj).mpr (by rw [e]; exact h)) _
      | more h1 h2 ih =>
        intro j hj e
        obtain ⟨k, hk, ek⟩ := nm_of (T.rc h1 (nm_mem hi))
        exact wm_trans _ hk (ih k hk ek) (wm_adj ((ha k j hk hj).mpr (by rw [e, ek]; exact h2)) _)
    exact fun h => key h j hj rfl

def rD (n : Nat) (f : Nat → D) : D := .lst ((List.range n).map f)
def matD (n : Nat) (f : Nat → Nat → Bool) : D := rD n fun i => rD n fun j => .bl (f i j)
theorem ix_rD {n j : Nat} {f : Nat → D} (h : j < n) : ixD (rD n f) (.int (j : Int)) = some (f j) := by
  have e : ixN ((List.range n).map f).length (j : Int) = some j := by
    rw [List.length_map, List.length_range]
    unfold ixN
    rw [if_pos (by omega), if_pos (by omega)]
    rfl
  exact ix_at e (by rw [List.getElem?_map, List.getElem?_range h]; rfl)
theorem ix_rg {n j : Nat} {f : Nat → D} (h : j < n) : ixD (.lst ((List.range n).map f)) (.int (j : Int)) = some (f j) := ix_rD h
theorem map_nm {α : Type} (N : List Str) (F : Str → α) : N.map F = (List.range N.length).map fun i => F (nm N i) := by
  have h := congrArg (List.map F) (nm_range N)
  rw [List.map_map] at h
  exact h.symm
def sD (N : List Str) (S : Str → List Str) : D := .dic (mapK N fun n => .lst ((S n).map .str))
theorem ix_sD {N : List Str} {S : Str → List Str} {a : Str} (h : a ∈ N) : ixD (sD N S) (.str a) = some (.lst ((S a).map .str)) := ix_mapK h
def adjN (N : List Str) (S : Str → List Str) (i j : Nat) : Bool := decide (nm N j ∈ S (nm N i))
def nD (N : List Str) : D := .lst (N.map .str)
def rgI (n : Nat) : List D := (List.range n).map fun (i : Nat) => .int (i : Int)
theorem rng_n (n : Nat) : rngD 0 ((n : Nat) : Int).toNat = rgI n := by
  unfold rngD rgI
  rw [Int.toNat_natCast]
  exact List.map_congr_left fun i _ => by rw [Int.zero_add]
theorem due0_ok {N : List Str} {S : Str → List Str} (T : Net N S) {Q : Sls → Fl → Prop} {s2 s3 s4 s5 s6 s7 s8 s9 s10 s11 s12 : Sl} (h9 : s9.hand = false) (h10 : s10.hand = false)
    (h : W (b__law_due_1 [.im (nD N), .im (sD N S), .im (matD N.length (adjN N S)), s3, s4, s5, s6, s7, s8, s9, s10, s11, s12]) Q) :
    W (b__law_due [.im (nD N), .im (sD N S), s2, s3, s4, s5, s6, s7, s8, s9, s10, s11, s12]) Q := by
  simp only [nD] at h ⊢
  simp only [b__law_due]
  symm_saturate
  refine ⟨h9, ?_⟩
  refine w_lc_map D.str (fun a => .lst (N.map fun b => .bl (decide (b ∈ S a)))) (by have := T.len; show (0 : Nat) + N.length ≤ _; omega) (fun a ha acc R hl hR => ?_) ?_
  · symm_saturate
    refine ⟨h10, ?_⟩
    refine w_lc_map D.str (fun b => .bl (decide (b ∈ S a))) (by have := T.len; show (0 : Nat) + N.length ≤ _; omega) (fun b hb acc R hl hR => ?_) ?_
    · symm_saturate
      simp only [ix_sD ha, in_strsL]
      symm_saturate
      simp only [in_strsL]
      symm_saturate
      exact ⟨hl, hR⟩
    · symm_saturate
      exact ⟨hl, hR⟩
  · symm_saturate
    have e : D.lst (N.map fun a => .lst (N.map fun b => .bl (decide (b ∈ S a)))) = matD N.length (adjN N S) := by
      unfold matD rD adjN
      rw [map_nm N]
      congr 1
      exact List.map_congr_left fun i _ => by rw [map_nm N]
    rw [e]
    exact h
theorem due1_ok {N : List Str} {S : Str → List Str} (T : Net N S) {Q : Sls → Fl → Prop} {s3 s4 s5 s6 s7 s8 s9 s10 s11 s12 : Sl} (h11 : s11.hand = false) (h12 : s12.hand = false)
    (h : ∀ s3, W (b__law_due_2 [.im (nD N), .im (sD N S), .im (matD N.length (wm (adjN N S) N.length)), s3, s4, s5, s6, s7, s8, s9, s10, s11, s12]) Q) :
    W (b__law_due_1 [.im (nD N), .im (sD N S), .im (matD N.length (adjN N S)), s3, s4, s5, s6, s7, s8, s9, s10, s11, s12]) Q := by
  have lN := T.len
  simp only [nD] at h ⊢
  simp only [b__law_due_1]
  symm_saturate
  simp only [List.length_map]
  refine ⟨rngB_n (by omega), ?_⟩
  rw [rng_n]
  refine w_for (fun ds e => ∃ (k : Nat) (s3 : Sl), ds = ((List.range' k (N.length - k)).map fun (i : Nat) => D.int (i : Int)) ∧ k ≤ N.length ∧ e = [.im (nD N), .im (sD N S), .im (matD N.length (wm (adjN N S) k)), s3, s4, s5, s6, s7, s8, s9, s10, s11, s12]) ?_ ?_ ?_
  · exact ⟨0, _, by rw [rgI, List.range_eq_range', Nat.sub_zero], Nat.zero_le _, rfl⟩
  · rintro d ds e ⟨k, s3, e1, hk, rfl⟩
    obtain ⟨c, ec⟩ : ∃ c, N.length - k = c + 1 := by
      cases z : N.length - k with
      | zero => rw [z] at e1; simp at e1
      | succ c => exact ⟨c, rfl⟩
    rw [ec, List.range'_succ, List.map_cons] at e1
    cases e1
    simp only [nD, matD, rD]
    symm_saturate
    refine ⟨h11, ?_⟩
    refine w_lc_map (fun i => .lst ((List.range N.length).map fun j => .bl (wm (adjN N S) k i j))) (fun i => .lst ((List.range N.length).map fun j => .bl (wm (adjN N S) (k + 1) i j))) (by rw [List.length_range]; show (0 : Nat) + N.length ≤ _; omega) (fun i hi acc R hl hR => ?_) ?_
    · have hi := List.mem_range.mp hi
      symm_saturate
      simp only [List.length_map]
      refine ⟨rngB_n (by omega), h12, ?_⟩
      rw [rng_n]
      refine w_lc_map (fun j : Nat => D.int (j : Int)) (fun j => .bl (wm (adjN N S) (k + 1) i j)) (by rw [List.length_range]; show (0 : Nat) + N.length ≤ _; omega) (fun j hj acc R hl hR => ?_) ?_
      · have hj := List.mem_range.mp hj
        symm_saturate
        have hkn : k < N.length := by omega
        rw [ix_rg hj]
        symm_saturate
        refine w_if (fun z => ?_) (fun z => ?_)
        · symm_saturate
          refine ⟨hl, ?_⟩
          rw [wm, z, Bool.true_or] at hR
          exact hR
        · symm_saturate
          rw [ix_rg hkn]
          symm_saturate
          have z := Bool.eq_false_iff.mpr z
          rw [wm, z, Bool.false_or] at hR
          refine w_if (fun z2 => ?_) (fun z2 => ?_)
          · symm_saturate
            rw [ix_rg hkn]
            symm_saturate
            rw [ix_rg hj]
            symm_saturate
            refine ⟨hl, ?_⟩
            rw [z2, Bool.true_and] at hR
            exact hR
          · symm_saturate
            refine ⟨hl, ?_⟩
            rw [Bool.eq_false_iff.mpr z2, Bool.false_and] at hR
            exact hR
      · symm_saturate
        exact ⟨hl, hR⟩
    · symm_saturate
      refine ⟨k + 1, _, ?_, by omega, rfl⟩
      rw [show N.length - (k + 1) = c by omega]
  · rintro e ⟨k, s3, e1, hk, rfl⟩
    have hk' : k = N.length := by
      rcases Nat.lt_or_ge k N.length with z | z
      · obtain ⟨c, ec⟩ : ∃ c, N.length - k = c + 1 := ⟨N.length - k - 1, by omega⟩
        rw [ec, List.range'_succ, List.map_cons] at e1; cases e1
      · omega
    subst hk'
    symm_saturate
    exact h s3
/-! groups as rows of places -/
def iD (g : List Nat) : D := .lst (g.map fun (j : Nat) => .int (j : Int))
def igrp (n : Nat) (w : Nat → Nat → Bool) (k : Nat) : List Nat := (List.range n).filter fun j => decide (j = k) || (w k j && w j k)
def igF (n : Nat) (w : Nat → Nat → Bool) (gs : List (List Nat)) (k : Nat) : List (List Nat) := if igrp n w k ∈ gs then gs else gs ++ [igrp n w k]
theorem plains_ints2 (g : List Nat) : D.plains (g.map fun (j : Nat) => .int (j : Int)) = true := plains_ints g
theorem iDs_plain : ∀ gs : List (List Nat), D.plains (gs.map iD) = true
  | [] => rfl
  | g :: gs => by rw [List.map_cons, D.plains, iDs_plain gs, Bool.and_true]; exact plains_ints g
theorem iD_depth (g : List Nat) : (iD g).py.depth ≤ 2 := by
  have := depth_ints g
  simp only [iD, D.py, PyData.depth]; omega
theorem iD_eqv (g k : List Nat) : PyData.eqv (iD g).py (iD k).py = decide (g = k) := by
  simp only [iD, D.py, PyData.eqv]
  exact eqvAll_ints g k
theorem notin_i (g : List Nat) (gs : List (List Nat)) : notInW (iD g) (.lst (gs.map iD)) = some (.bl (!decide (g ∈ gs))) := by
  have e : inQW (iD g) (.lst (gs.map iD)) = some ((D.pys (gs.map iD)).any fun y => PyData.eqv y (iD g).py) := if_pos ⟨plains_ints g, iDs_plain gs, by have := iD_depth g; omega⟩
  rw [notInW, e]
  have e2 : ((D.pys (gs.map iD)).any fun y => PyData.eqv y (iD g).py) = decide (g ∈ gs) := by
    induction gs with
    | nil => simp [D.pys]
    | cons k gs ih =>
      have ih := ih (if_pos ⟨plains_ints g, iDs_plain gs, by have := iD_depth g; omega⟩)
      rw [List.map_cons, D.pys, List.any_cons, ih, iD_eqv, Bool.eq_iff_iff]
      simp only [Bool.or_eq_true, decide_eq_true_eq, List.mem_cons]
      exact ⟨fun q => q.imp Eq.symm id, fun q => q.imp Eq.symm id⟩
  rw [e2]; rfl
theorem fvs_ints : ∀ g : List Nat, D.fvs (g.map fun (j : Nat) => .int (j : Int)) = some (g.map fun (j : Nat) => V.int (j : Int))
  | [] => rfl
  | s :: ns => by simp only [List.map_cons, D.fvs, D.fv, fvs_ints ns, Option.bind_some]
theorem inV_ints (j : Nat) : ∀ g : List Nat, inV (V.int (j : Int)) (g.map fun (j : Nat) => V.int (j : Int)) = decide (j ∈ g)
  | [] => by simp [inV]
  | s :: ns => by
    have ih := inV_ints j ns
    simp only [inV] at ih
    have e : ∀ a b : Nat, eqV (V.int (a : Int)) (V.int (b : Int)) = decide (a = b) := fun a b => by
      show ((a : Int) == (b : Int)) = _
      rw [Bool.eq_iff_iff]
      simp only [beq_iff_eq, decide_eq_true_eq]
      omega
    simp only [inV, List.map_cons, List.any_cons, ih, e]
    rw [Bool.eq_iff_iff]
    simp only [Bool.or_eq_true, decide_eq_true_eq, List.mem_cons]
    exact ⟨fun q => q.imp Eq.symm id, fun q => q.imp Eq.symm id⟩
theorem in_intsL (j : Nat) (g : List Nat) : inD (.int (j : Int)) (.lst (g.map fun (j : Nat) => .int (j : Int))) = some (.bl (decide (j ∈ g))) := by
  simp only [inD, inQ, fvs_ints, D.fv, Option.bind_some, Option.map_some, inV_ints]
theorem place_i : ∀ {gs : List (List Nat)} {g : List Nat}, g ∈ gs → ∃ j, placeD (gs.map iD) (iD g) = some j ∧ (gs.map iD).eraseIdx j = (gs.erase g).map iD
  | [], _, h => nomatch h
  | k :: gs, g, h => by
    by_cases z : k = g
    · subst z
      refine ⟨0, ?_, ?_⟩
      · simp only [placeD, SeqAt.dataPlace, List.map_cons, D.pys, List.findIdx?_cons, iD_eqv, decide_true, if_true]
      · simp
    · have hg : g ∈ gs := (List.mem_cons.mp h).resolve_left fun y => z y.symm
      obtain ⟨j, h1, h2⟩ := place_i hg
      refine ⟨j + 1, ?_, ?_⟩
      · simp only [placeD, SeqAt.dataPlace] at h1
        simp only [placeD, SeqAt.dataPlace, List.map_cons, D.pys, List.findIdx?_cons, iD_eqv, decide_eq_false z, Bool.false_eq_true, if_false, h1, Option.map_some]
      · rw [List.map_cons, List.eraseIdx_cons_succ, h2, List.erase_cons_tail (by simpa using z), List.map_cons]

theorem due3_ok {N : List Str} {S : Str → List Str} {w : Nat → Nat → Bool} (lN : N.length ≤ 20) {Q : Sls → Fl → Prop} {s3 s5 s6 s7 s8 s9 s10 s11 s12 : Sl} (h12 : s12.hand = false)
    (h : ∀ s3 s5, W (b__law_due_4 [.im (nD N), .im (sD N S), .im (matD N.length w), s3, .lst (((List.range N.length).foldl (igF N.length w) []).map iD), s5, s6, s7, s8, s9, s10, s11, s12]) Q) :
    W (b__law_due_3 [.im (nD N), .im (sD N S), .im (matD N.length w), s3, .lst [], s5, s6, s7, s8, s9, s10, s11, s12]) Q := by
  simp only [nD] at h ⊢
  simp only [b__law_due_3]
  symm_saturate
  simp only [List.length_map]
  refine ⟨rngB_n (by omega), ?_⟩
  rw [rng_n]
  refine w_for (fun ds e => ∃ (k : Nat) (s3 s5 : Sl), ds = ((List.range' k (N.length - k)).map fun (i : Nat) => D.int (i : Int)) ∧ k ≤ N.length ∧ e = [.im (nD N), .im (sD N S), .im (matD N.length w), s3, .lst (((List.range k).foldl (igF N.length w) []).map iD), s5, s6, s7, s8, s9, s10, s11, s12]) ?_ ?_ ?_
  · exact ⟨0, _, _, by rw [rgI, List.range_eq_range', Nat.sub_zero], Nat.zero_le _, rfl⟩
  · rintro d ds e ⟨k, s3, s5, e1, hk, rfl⟩
    obtain ⟨c, ec⟩ : ∃ c, N.length - k = c + 1 := by
      cases z : N.length - k with
      | zero => rw [z] at e1; simp at e1
      | succ c => exact ⟨c, rfl⟩
    rw [ec, List.range'_succ, List.map_cons] at e1
    cases e1
    have hkn : k < N.length := by omega
    simp only [nD, matD, rD]
    symm_saturate
    simp only [List.length_map]
    refine ⟨rngB_n (by omega), h12, ?_⟩
    rw [rng_n]
    refine w_lc_filt (fun (j : Nat) => D.int (j : Int)) (fun (j : Nat) => D.int (j : Int)) (fun j => decide (j = k) || (w k j && w j k)) (by rw [List.length_range]; show (0 : Nat) + N.length ≤ _; omega) (fun j hj acc R hl hR => ?_) ?_
    · have hj := List.mem_range.mp hj
      symm_saturate
      have ek : (((j : Int) = (k : Int))) ↔ j = k := Int.ofNat_inj
      simp only [ek]
      refine w_if (fun z => ?_) (fun z => ?_)
      · rw [decide_eq_true z, Bool.true_or] at hR
        simp only [if_true] at hR
        symm_saturate
        exact ⟨hl, hR⟩
      · rw [decide_eq_false z, Bool.false_or] at hR
        symm_saturate
        rw [ix_rg hkn]
        symm_saturate
        rw [ix_rg hj]
        symm_saturate
        refine w_if (fun z2 => ?_) (fun z2 => ?_)
        · symm_saturate
          rw [ix_rg hj]
          symm_saturate
          rw [ix_rg hkn]
          symm_saturate
          rw [z2, Bool.true_and] at hR
          refine w_if (fun z3 => ?_) (fun z3 => ?_)
          · rw [z3] at hR
            simp only [if_true] at hR
            symm_saturate
            exact ⟨hl, hR⟩
          · rw [Bool.eq_false_iff.mpr z3] at hR
            simp only [Bool.false_eq_true, if_false] at hR
            symm_saturate
            exact hR
        · rw [Bool.eq_false_iff.mpr z2, Bool.false_and] at hR
          simp only [Bool.false_eq_true, if_false] at hR
          symm_saturate
          exact hR
    · symm_saturate
      have en := notin_i (igrp N.length w k) ((List.range k).foldl (igF N.length w) [])
      simp only [iD, igrp] at en
      have en : notInW (.lst (((List.range N.length).filter fun j => decide (j = k) || (w k j && w j k)).map fun (j : Nat) => .int (j : Int))) (.lst (((List.range k).foldl (igF N.length w) []).map iD)) = _ := en
      rw [en]
      symm_saturate
      have lg : ((List.range k).foldl (igF N.length w) []).length ≤ k := by
        have : ∀ (xs : List Nat) (gs : List (List Nat)), (xs.foldl (igF N.length w) gs).length ≤ gs.length + xs.length := by
          intro xs
          induction xs with
          | nil => exact fun gs => Nat.le_refl _
          | cons x xs ih =>
            intro gs
            have := ih (igF N.length w gs x)
            have h2 : (igF N.length w gs x).length ≤ gs.length + 1 := by
              unfold igF
              split
              · omega
              · rw [List.length_append, List.length_singleton]; omega
            rw [List.foldl_cons, List.length_cons]; omega
        have := this (List.range k) []
        rw [List.length_range] at this
        simpa using this
      have ef : (List.range (k + 1)).foldl (igF N.length w) [] = igF N.length w ((List.range k).foldl (igF N.length w) []) k := by
        rw [List.range_succ, List.foldl_append]; rfl
      refine w_if (fun z => ?_) (fun z => ?_)
      · symm_saturate
        refine ⟨Nat.lt_of_le_of_lt (show _ ≤ 20 by rw [List.length_map]; omega) (by decide), k + 1, .im (.int (k : Int)), .im (iD (igrp N.length w k)), by rw [show N.length - (k + 1) = c by omega], by omega, ?_⟩
        have z' : igrp N.length w k ∉ (List.range k).foldl (igF N.length w) [] := of_decide_eq_false z
        rw [ef, igF, if_neg z', List.map_append]
        rfl
      · symm_saturate
        refine ⟨k + 1, .im (.int (k : Int)), .im (iD (igrp N.length w k)), by rw [show N.length - (k + 1) = c by omega], by omega, ?_⟩
        have z' : igrp N.length w k ∈ (List.range k).foldl (igF N.length w) [] := Classical.byContradiction fun q => z (decide_eq_false q)
        rw [ef, igF, if_pos z']
        rfl
  · rintro e ⟨k, s3, s5, e1, hk, rfl⟩
    have hk' : k = N.length := by
      rcases Nat.lt_or_ge k N.length with z | z
      · obtain ⟨c, ec⟩ : ∃ c, N.length - k = c + 1 := ⟨N.length - k - 1, by omega⟩
        rw [ec, List.range'_succ, List.map_cons] at e1; cases e1
      · omega
    subst hk'
    symm_saturate
    exact h s3 s5

/-! from places to names -/
theorem map_nm_inj {N : List Str} (nd : N.Nodup) : ∀ {g k : List Nat}, (∀ j ∈ g, j < N.length) → (∀ j ∈ k, j < N.length) → g.map (nm N) = k.map (nm N) → g = k
  | [], [], _, _, _ => rfl
  | [], _ :: _, _, _, h => by simp at h
  | _ :: _, [], _, _, h => by simp at h
  | a :: g, b :: k, h1, h2, h => by
    simp only [List.map_cons, List.cons.injEq] at h
    rw [nm_inj nd (h1 a (List.mem_cons_self ..)) (h2 b (List.mem_cons_self ..)) h.1, map_nm_inj nd (fun j hj => h1 j (List.mem_cons_of_mem _ hj)) (fun j hj => h2 j (List.mem_cons_of_mem _ hj)) h.2]
theorem erase_map {α β : Type} [BEq α] [LawfulBEq α] [BEq β] [LawfulBEq β] {f : α → β} {g : α} : ∀ {L : List α}, (∀ x ∈ L, f x = f g → x = g) → (L.erase g).map f = (L.map f).erase (f g)
  | [], _ => rfl
  | x :: L, h => by
    by_cases z : x = g
    · subst z; simp
    · have z' : f x ≠ f g := fun q => z (h x (List.mem_cons_self ..) q)
      rw [List.erase_cons_tail (by simpa using z), List.map_cons, List.map_cons, List.erase_cons_tail (by simpa using z'), erase_map fun y hy => h y (List.mem_cons_of_mem _ hy)]
def ifree (n : Nat) (w : Nat → Nat → Bool) (pl g : List Nat) : Bool := ((List.range n).filter (w (g.headD 0))).all fun j => decide (j ∈ pl) || decide (j ∈ g)
section
variable {N : List Str} {S : Str → List Str}
theorem igrp_lt {n : Nat} {w : Nat → Nat → Bool} {k : Nat} : ∀ j ∈ igrp n w k, j < n := fun j hj => List.mem_range.mp (List.mem_filter.mp hj).1
theorem igrp_grp (T : Net N S) {w : Nat → Nat → Bool} (hw : ∀ i j, i < N.length → j < N.length → (w i j = true ↔ Rc S (nm N i) (nm N j))) {k : Nat} (hk : k < N.length) : (igrp N.length w k).map (nm N) = grp N S (nm N k) := by
  have e : grp N S (nm N k) = (((List.range N.length).map (nm N))).filter fun b => decide (b ∈ grp N S (nm N k)) := by
    rw [nm_range]
    conv => lhs; unfold grp
    refine List.filter_congr fun b hb => ?_
    rw [Bool.eq_iff_iff]
    exact ⟨fun z => decide_eq_true (grp_mem.mpr ⟨hb, @of_decide_eq_true _ (_) z⟩), fun z => @decide_eq_true _ (_) (grp_mem.mp (of_decide_eq_true z)).2⟩
  rw [e, List.filter_map]
  unfold igrp
  congr 1
  refine List.filter_congr fun j hj => ?_
  have hj := List.mem_range.mp hj
  rw [Bool.eq_iff_iff]
  simp only [Function.comp, Bool.or_eq_true, Bool.and_eq_true, decide_eq_true_eq, grp_mem]
  rw [hw k j hk hj, hw j k hj hk]
  constructor
  · rintro (rfl | q)
    · exact ⟨nm_mem hj, .inl rfl⟩
    · exact ⟨nm_mem hj, .inr q⟩
  · rintro ⟨_, q | q⟩
    · exact .inl (nm_inj T.nd hj hk q)
    · exact .inr q
theorem ifree_free (T : Net N S) {w : Nat → Nat → Bool} (hw : ∀ i j, i < N.length → j < N.length → (w i j = true ↔ Rc S (nm N i) (nm N j))) {pl : List Nat} (hpl : ∀ j ∈ pl, j < N.length) (hc : ∀ x ∈ pl.map (nm N), ∀ y ∈ S x, y ∈ pl.map (nm N)) {k : Nat} (hk : k < N.length) :
    ifree N.length w pl (igrp N.length w k) = isFr S (pl.map (nm N)) ((igrp N.length w k).map (nm N)) := by
  have hkm : k ∈ igrp N.length w k := List.mem_filter.mpr ⟨List.mem_range.mpr hk, by simp⟩
  obtain ⟨a, r, er⟩ : ∃ a r, igrp N.length w k = a :: r := by
    cases z : igrp N.length w k with
    | nil => rw [z] at hkm; exact nomatch hkm
    | cons a r => exact ⟨a, r, rfl⟩
  have ham : a ∈ igrp N.length w k := by rw [er]; exact List.mem_cons_self ..
  have ha := igrp_lt a ham
  have mm : ∀ {l : List Nat} {j : Nat}, (∀ j ∈ l, j < N.length) → j < N.length → (nm N j ∈ l.map (nm N) ↔ j ∈ l) := fun {l j} hl hj => by
    rw [List.mem_map]
    exact ⟨fun ⟨i, hi, e⟩ => nm_inj T.nd (hl i hi) hj e ▸ hi, fun h => ⟨j, h, rfl⟩⟩
  have e0 : ifree N.length w pl (igrp N.length w k) = true ↔ ∀ b, Rc S (nm N a) b → b ∈ pl.map (nm N) ∨ b ∈ (igrp N.length w k).map (nm N) := by
    unfold ifree
    have eh : (igrp N.length w k).headD 0 = a := by rw [er]; rfl
    rw [eh]
    simp only [List.all_eq_true, List.mem_filter, List.mem_range, Bool.or_eq_true, decide_eq_true_eq]
    constructor
    · intro h b hb
      obtain ⟨j, hj, rfl⟩ := nm_of (T.rc hb (nm_mem ha))
      rcases h j ⟨hj, (hw a j ha hj).mpr hb⟩ with q | q
      · exact .inl ((mm hpl hj).mpr q)
      · exact .inr ((mm igrp_lt hj).mpr q)
    · rintro h j ⟨hj, hwj⟩
      rcases h _ ((hw a j ha hj).mp hwj) with q | q
      · exact .inl ((mm hpl hj).mp q)
      · exact .inr ((mm igrp_lt hj).mp q)
  rw [Bool.eq_iff_iff, e0, isFr_iff, igrp_grp T hw hk]
  have hag : nm N a ∈ grp N S (nm N k) := by rw [← igrp_grp T hw hk]; exact (mm igrp_lt ha).mpr ham
  have ge := grp_eq hag
  constructor
  · intro h n hn o ho
    rw [← ge] at hn
    rcases (grp_mem.mp hn).2 with rfl | ⟨q, _⟩
    · exact (h o (.one ho)).symm
    · exact (h o (.more q ho)).symm
  · intro h b hb
    induction hb with
    | one hb => exact (h _ hag _ hb).symm
    | more h1 h2 ih =>
      rcases ih with q | q
      · exact .inl (hc _ q _ h2)
      · exact (h _ q _ h2).symm
end

theorem ix_nD {N : List Str} {j : Nat} (h : j < N.length) : ixD (.lst (N.map .str)) (.int (j : Int)) = some (.str (nm N j)) := by
  rw [map_nm N]
  exact ix_rg (f := fun i => .str (nm N i)) h
theorem due6_ok {N : List Str} {S : Str → List Str} (T : Net N S) {w : Nat → Nat → Bool} (hw : ∀ i j, i < N.length → j < N.length → (w i j = true ↔ Rc S (nm N i) (nm N j))) {IL : List (List Nat)} (hI : ∀ g ∈ IL, ∃ k, k < N.length ∧ g = igrp N.length w k) (hlen : IL.length ≤ 20) {r : List (List Str)}
    (hr : ordF S IL.length (IL.map fun g => g.map (nm N)) [] = some r) {Q : Sls → Fl → Prop} {s3 s5 s8 s9 s10 s11 s12 : Sl} (h12 : s12.hand = false)
    (h : ∀ e, 2 ≤ e.length → Q e (.rt (.lst (r.map gD)))) :
    W (b__law_due_6 [.im (nD N), .im (sD N S), .im (matD N.length w), s3, .lst (IL.map iD), s5, .lst [], .im (.lst []), s8, s9, s10, s11, s12]) Q := by
  have lN := T.len
  simp only [b__law_due_6]
  symm_saturate
  refine w_while (fun m e => ∃ (IL : List (List Nat)) (fs r' : List (List Str)) (pl : List Nat) (s5 s8 s12 : Sl), e = [.im (nD N), .im (sD N S), .im (matD N.length w), s3, .lst (IL.map iD), s5, .lst (fs.map gD), .im (iD pl), s8, s9, s10, s11, s12] ∧ m = IL.length ∧ IL.length + fs.length ≤ 20 ∧ (∀ g ∈ IL, ∃ k, k < N.length ∧ g = igrp N.length w k) ∧ (∀ j ∈ pl, j < N.length) ∧ (∀ x ∈ pl.map (nm N), ∀ y ∈ S x, y ∈ pl.map (nm N)) ∧ pl.length + IL.length * 20 ≤ 400 ∧ ordF S IL.length (IL.map fun g => g.map (nm N)) (pl.map (nm N)) = some r' ∧ r = fs ++ r' ∧ s12.hand = false) ?_ (m := IL.length) ?_ ?_
  · rintro m e ⟨IL, fs, r', pl, s5, s8, s12, rfl, rfl, k1, k2, k3, k4, k5, k6, k7, h12⟩
    symm_saturate
    rw [ne_nilL _ (iDs_plain IL)]
    symm_saturate
    obtain rfl | hL := Classical.em (IL = [])
    · simp only [List.map_nil, List.isEmpty_nil, Bool.not_true]
      symm_saturate
      have e1 : r' = [] := by simp [ordF] at k6; exact k6
      rw [k7, e1, List.append_nil] at h
      simp only [b__law_due_7]
      symm_saturate
      exact h _ (by simp)
    · have e0 : (IL.map iD).isEmpty = false := by cases IL with | nil => exact absurd rfl hL | cons _ _ => rfl
      rw [e0]
      symm_saturate
      refine w_forO (fun ds e => ∃ (dn rs : List (List Nat)) (s5 s12 : Sl), ds = rs.map iD ∧ IL = dn ++ rs ∧ e = [.im (nD N), .im (sD N S), .im (matD N.length w), s3, .lst (IL.map iD), s5, .lst (fs.map gD), .im (iD pl), .lst ((dn.filter (ifree N.length w pl)).map iD), s9, s10, s11, s12] ∧ s12.hand = false) ?_ ?_ ?_ ?_
      · exact ⟨[], IL, _, _, rfl, rfl, rfl, h12⟩
      · rintro ds e ⟨dn, rs, s5, s12, f1, f2, rfl, h12⟩
        rfl
      · rintro d ds e ⟨dn, rs, s5, s12, f1, f2, rfl, h12⟩
        obtain _ | ⟨g, rs⟩ := rs
        · cases f1
        cases f1
        obtain ⟨k, hk, eg⟩ := k2 g (by rw [f2]; simp)
        have hkm : k ∈ g := by rw [eg]; exact List.mem_filter.mpr ⟨List.mem_range.mpr hk, by simp⟩
        obtain ⟨a, g', rfl⟩ : ∃ a g', g = a :: g' := by
          cases g with
          | nil => exact nomatch hkm
          | cons a g' => exact ⟨a, g', rfl⟩
        have ha : a < N.length := igrp_lt (k := k) (w := w) a (by rw [← eg]; exact List.mem_cons_self ..)
        simp only [nD, matD, rD, iD]
        symm_saturate
        simp only [List.length_map]
        refine ⟨rngB_n (by omega), h12, ?_⟩
        rw [rng_n]
        refine w_lc_filt (fun (j : Nat) => D.int (j : Int)) (fun (j : Nat) => D.bl (decide (j ∈ pl) || decide (j ∈ a :: g'))) (fun j => w a j) (by rw [List.length_range]; show (0 : Nat) + N.length ≤ _; omega) (fun j hj acc R hl hR => ?_) ?_
        · have hj := List.mem_range.mp hj
          symm_saturate
          rw [ix_rg ha]
          symm_saturate
          rw [ix_rg hj]
          symm_saturate
          refine w_if (fun z => ?_) (fun z => ?_)
          · rw [z] at hR
            simp only [if_true] at hR
            symm_saturate
            rw [in_intsL]
            symm_saturate
            refine w_if (fun z1 => ?_) (fun z1 => ?_)
            · rw [decide_eq_true z1, Bool.true_or] at hR
              symm_saturate
              exact ⟨hl, hR⟩
            · rw [decide_eq_false z1, Bool.false_or] at hR
              rw [show inD (.int (j : Int)) (.lst (.int (a : Int) :: g'.map fun (j : Nat) => .int (j : Int))) = some (.bl (decide (j ∈ a :: g'))) from in_intsL j (a :: g')]
              symm_saturate
              exact ⟨hl, hR⟩
          · rw [Bool.eq_false_iff.mpr z] at hR
            simp only [Bool.false_eq_true, if_false] at hR
            symm_saturate
            exact hR
        · symm_saturate
          rw [all_map (fun j => decide (j ∈ pl) || decide (j ∈ a :: g')) ((List.range N.length).filter fun j => w a j)]
          rw [show ((List.range N.length).filter fun j => w a j).all (fun j => decide (j ∈ pl) || decide (j ∈ a :: g')) = ifree N.length w pl (a :: g') from rfl]
          have lf : (dn.filter (ifree N.length w pl)).length ≤ 20 := by
            have := List.length_filter_le (ifree N.length w pl) dn
            rw [f2, List.length_append] at k1
            omega
          cases z : ifree N.length w pl (a :: g') with
          | true =>
            symm_saturate
            refine ⟨Nat.lt_of_le_of_lt (show _ ≤ 20 by rw [List.length_map]; exact lf) (by decide), ?_⟩
            refine ⟨dn ++ [a :: g'], rs, _, _, rfl, by rw [f2, List.append_assoc]; rfl, by rw [List.filter_append, List.filter_cons, if_pos z, List.filter_nil, List.map_append]; rfl, h12⟩
          | false =>
            symm_saturate
            exact ⟨dn ++ [a :: g'], rs, _, _, rfl, by rw [f2, List.append_assoc]; rfl, by rw [List.filter_append, List.filter_cons, if_neg (by rw [z]; decide), List.filter_nil, List.append_nil], h12⟩
      · rintro e ⟨dn, rs, s5, s12, f1, f2, rfl, h12⟩
        obtain _ | ⟨g, rs⟩ := rs
        · rw [List.append_nil] at f2
          subst f2
          obtain ⟨m, G, Gs, r2, em, ef, eo, er⟩ := ordF_cons (by simpa using hL) k6
          have efi : IL.filter (fun g => isFr S (pl.map (nm N)) (g.map (nm N))) = IL.filter (ifree N.length w pl) := List.filter_congr fun g hg => by
            obtain ⟨k, hk, rfl⟩ := k2 g hg
            exact (ifree_free T hw k3 k4 hk).symm
          rw [List.filter_map] at ef
          have ef : (IL.filter (fun g => isFr S (pl.map (nm N)) (g.map (nm N)))).map (fun g => g.map (nm N)) = G :: Gs := ef
          rw [efi] at ef
          obtain ⟨g, gs', eg, e1, e2⟩ : ∃ g gs', IL.filter (ifree N.length w pl) = g :: gs' ∧ g.map (nm N) = G ∧ gs'.map (fun g => g.map (nm N)) = Gs := by
            cases zz : IL.filter (ifree N.length w pl) with
            | nil => rw [zz] at ef; simp at ef
            | cons g gs' => rw [zz] at ef; simp only [List.map_cons, List.cons.injEq] at ef; exact ⟨g, gs', rfl, ef⟩
          subst e1
          have hgm : g ∈ IL.filter (ifree N.length w pl) := by rw [eg]; exact List.mem_cons_self ..
          obtain ⟨hgI, hgf⟩ := List.mem_filter.mp hgm
          obtain ⟨k, hk, egk⟩ := k2 g hgI
          have hglt : ∀ j ∈ g, j < N.length := by rw [egk]; exact igrp_lt
          have hgl : g.length ≤ 20 := by
            rw [egk]
            have := List.length_filter_le (fun j => decide (j = k) || (w k j && w j k)) (List.range N.length)
            rw [List.length_range] at this
            exact Nat.le_trans this lN
          rw [eg]
          simp only [nD, matD, rD, iD, List.map_cons]
          symm_saturate
          refine ⟨h12, ?_⟩
          refine w_lc_map (fun (j : Nat) => D.int (j : Int)) (fun j => D.str (nm N j)) (by show (0 : Nat) + g.length ≤ _; omega) (fun j hj acc R hl hR => ?_) ?_
          · symm_saturate
            rw [ix_nD (hglt j hj)]
            symm_saturate
            exact ⟨hl, hR⟩
          · symm_saturate
            obtain ⟨j, p1, p2⟩ := place_i hgI
            have lg := List.length_erase_of_mem hgI
            have lp : 0 < IL.length := List.length_pos_of_mem hgI
            have fr : isFr S (pl.map (nm N)) (g.map (nm N)) = true := by
              rw [egk, ← ifree_free T hw k3 k4 hk, ← egk]; exact hgf
            have fr := isFr_iff.mp fr
            have rk : remOk (IL.map iD) (D.lst (g.map fun (j : Nat) => D.int (j : Int))) := ⟨iDs_plain IL, plains_ints2 g, by have : (D.lst (g.map fun (j : Nat) => D.int (j : Int))).py.depth ≤ 2 := iD_depth g; omega⟩
            refine ⟨Nat.lt_of_le_of_lt (show _ ≤ 20 by rw [List.length_map]; omega) (by decide), Nat.le_trans (show _ ≤ 500 by rw [List.length_map, List.length_map]; omega) (by decide), rk, ?_⟩
            rw [show placeD (IL.map iD) (D.lst (g.map fun (j : Nat) => D.int (j : Int))) = some j from p1]
            symm_saturate
            rw [p2]
            refine ⟨(IL.erase g).length, by rw [lg]; omega, IL.erase g, fs ++ [g.map (nm N)], r2, pl ++ g, s5, .lst ((g :: gs').map iD), s12, ?_, rfl, ?_, ?_, ?_, ?_, ?_, ?_, ?_, h12⟩
            · rw [List.map_append, List.map_append]
              simp only [List.map_cons, List.map_nil, gD, List.map_map]
              rfl
            · rw [lg, List.length_append, List.length_singleton]; omega
            · exact fun x hx => k2 x (List.mem_of_mem_erase hx)
            · intro j hj
              rcases List.mem_append.mp hj with hj | hj
              · exact k3 j hj
              · exact hglt j hj
            · intro x hx y hy
              rw [List.map_append] at hx ⊢
              rcases List.mem_append.mp hx with hx | hx
              · exact List.mem_append_left _ (k4 x hx y hy)
              · exact List.mem_append.mpr ((fr x hx y hy).symm)
            · rw [lg, List.length_append]; omega
            · rw [lg, show IL.length - 1 = m by omega, ← eo, List.map_append, erase_map (f := fun g : List Nat => g.map (nm N)) (g := g) (L := IL) fun x hx e => by
                obtain ⟨kx, hkx, ex⟩ := k2 x hx
                exact map_nm_inj T.nd (by rw [ex]; exact igrp_lt) hglt e]
            · rw [k7, er, List.append_assoc]; rfl
        · cases f1
  · omega
  · exact ⟨IL, [], r, [], _, _, _, rfl, rfl, by simpa using hlen, hI, (fun _ z => nomatch z), (fun _ z => nomatch z), by simp; omega, hr, rfl, h12⟩

theorem ig_fold {N : List Str} {S : Str → List Str} (T : Net N S) {w : Nat → Nat → Bool} (hw : ∀ i j, i < N.length → j < N.length → (w i j = true ↔ Rc S (nm N i) (nm N j))) : ∀ (xs : List Nat) (gs : List (List Nat)), (∀ x ∈ xs, x < N.length) → (∀ g ∈ gs, ∃ k, k < N.length ∧ g = igrp N.length w k) →
    (∀ g ∈ xs.foldl (igF N.length w) gs, ∃ k, k < N.length ∧ g = igrp N.length w k) ∧ (xs.foldl (igF N.length w) gs).map (fun g => g.map (nm N)) = (xs.map (nm N)).foldl (gpsF N S) (gs.map fun g => g.map (nm N)) ∧ (xs.foldl (igF N.length w) gs).length ≤ gs.length + xs.length
  | [], gs, _, hg => ⟨hg, rfl, Nat.le_refl _⟩
  | x :: xs, gs, hx, hg => by
    have hx0 := hx x (List.mem_cons_self ..)
    have eg := igrp_grp T hw hx0
    have em : grp N S (nm N x) ∈ gs.map (fun g => g.map (nm N)) ↔ igrp N.length w x ∈ gs := by
      rw [← eg, List.mem_map]
      constructor
      · rintro ⟨g, h1, h2⟩
        obtain ⟨k, hk, e⟩ := hg g h1
        rw [← map_nm_inj T.nd (by rw [e]; exact igrp_lt) igrp_lt h2]
        exact h1
      · exact fun z => ⟨_, z, rfl⟩
    have e1 : (igF N.length w gs x).map (fun g => g.map (nm N)) = gpsF N S (gs.map fun g => g.map (nm N)) (nm N x) := by
      unfold igF gpsF
      by_cases z : igrp N.length w x ∈ gs
      · rw [if_pos z, if_pos (em.mpr z)]
      · rw [if_neg z, if_neg (fun q => z (em.mp q)), List.map_append, ← eg]
        rfl
    obtain ⟨h1, h2, h3⟩ := ig_fold T hw xs (igF N.length w gs x) (fun y hy => hx y (List.mem_cons_of_mem _ hy)) (fun g hgm => by
      unfold igF at hgm
      split at hgm
      · exact hg g hgm
      · rcases List.mem_append.mp hgm with q | q
        · exact hg g q
        · exact ⟨x, hx0, List.mem_singleton.mp q⟩)
    refine ⟨h1, ?_, ?_⟩
    · rw [List.foldl_cons, List.map_cons, List.foldl_cons, ← e1]
      exact h2
    · have : (igF N.length w gs x).length ≤ gs.length + 1 := by
        unfold igF
        split
        · omega
        · rw [List.length_append, List.length_singleton]; omega
      rw [List.foldl_cons, List.length_cons]; omega
theorem due_ok {N : List Str} {S : Str → List Str} (T : Net N S) {r : List (List Str)} (hr : ordF S (gpsOf N S).length (gpsOf N S) [] = some r) {Q : Sls → Sl → Prop}
    (h : Q [.im (nD N), .im (sD N S)] (.im (.lst (r.map gD)))) : W (m__law_due [.im (nD N), .im (sD N S)]) Q := by
  have hw : ∀ i j, i < N.length → j < N.length → (wm (adjN N S) N.length i j = true ↔ Rc S (nm N i) (nm N j)) := fun i j hi hj => wm_rc T (fun i j _ _ => by unfold adjN; rw [decide_eq_true_iff]) hi hj
  obtain ⟨f1, f2, f3⟩ := ig_fold T hw (List.range N.length) [] (fun x hx => List.mem_range.mp hx) (fun _ z => nomatch z)
  have f2 : ((List.range N.length).foldl (igF N.length (wm (adjN N S) N.length)) []).map (fun g => g.map (nm N)) = gpsOf N S := by
    rw [f2, nm_range]; rfl
  have lN := T.len
  rw [List.length_range, List.length_nil, Nat.zero_add] at f3
  delta m__law_due
  unfold callF
  rw [if_pos ⟨rfl, by decide⟩, W_bind]
  show W (b__law_due [.im (nD N), .im (sD N S), .un, .un, .un, .un, .un, .un, .un, .un, .un, .un, .un]) _
  refine due0_ok T rfl rfl (due1_ok T rfl rfl fun s3 => ?_)
  simp only [b__law_due_2]
  symm_saturate
  refine due3_ok lN rfl fun s3 s5 => ?_
  simp only [b__law_due_4]
  symm_saturate
  simp only [b__law_due_5]
  symm_saturate
  refine due6_ok T hw f1 (by omega) (r := r) ?_ rfl fun e he => ?_
  · rw [f2, ← hr, ← f2, List.length_map]
  · symm_saturate
    exact ⟨he, h⟩

def Ok5 (q : Sd) (n : Nat) : Prop := 0 ≤ q.b ∧ q.b < 2147483647 ∧ 0 ≤ q.c ∧ q.c + n ≤ 2 ^ 30
theorem Ok5.le {q : Sd} {n m : Nat} (h : Ok5 q n) (hm : m ≤ n) : Ok5 q m := by
  obtain ⟨a, b, c, d⟩ := h
  exact ⟨a, b, c, by omega⟩
theorem draw_ok {q : Sd} {n : Nat} {k : Int} {Q : Sls → Sl → Prop} (hq : Ok5 q (n + 1)) (hk : 0 < k) (hl : k.natAbs.log2 < 9000)
    (h : ∀ q' r, Ok5 q' n → 0 ≤ r → r < k → Q [sdS q', .im (.int k)] (.im (.int r))) : W (m__law_draw [sdS q, .im (.int k)]) Q := by
  obtain ⟨qa, qb, qc⟩ := q
  obtain ⟨b0, b1, c0, c1⟩ := hq
  simp only at b0 b1 c0 c1
  delta m__law_draw
  symm_saturate
  simp only [sdS]
  symm_saturate
  refine w_if (fun hc => ?_) (fun hc => ?_)
  · symm_saturate
    refine ⟨hk, ⟨hk, hl⟩, ?_⟩
    exact h ⟨qa / k, qb, qc⟩ _ ⟨b0, b1, c0, by simp only; omega⟩ (Int.emod_nonneg _ (by omega)) (Int.emod_lt_of_pos _ hk)
  · symm_saturate
    have e0 : (0 : Int) ≤ ((qb + 15485863 * (qc + 1)) ^ 5) % 2147483647 := Int.emod_nonneg _ (by decide)
    have e1 : ((qb + 15485863 * (qc + 1)) ^ 5) % 2147483647 < 2147483647 := Int.emod_lt_of_pos _ (by decide)
    refine ⟨bitsOk_of (k := 40) (m := 81) (by decide) (by decide) (by omega) (by omega) (by decide), by omega, by decide, hk, ?_⟩
    exact h ⟨qa, _, qc + 1⟩ _ ⟨e0, e1, by simp only; omega, by simp only; omega⟩ (Int.emod_nonneg _ (by omega)) (Int.emod_lt_of_pos _ hk)
theorem bag_ok {z : Int} {p : Nat} {Q : Sls → Sl → Prop} (h1 : p ≤ 1000)
    (h : ∀ q', Ok5 q' (2 ^ 29) → Q [.im (.int z), .im (.int (p : Int))] (sdS q')) : W (m__law_bag [.im (.int z), .im (.int (p : Int))]) Q := by
  delta m__law_bag
  symm_saturate
  have p3 : ((p : Int) + 1) ^ 3 = (((p + 1) ^ 3 : Nat) : Int) := by rw [Int.natCast_pow]; rfl
  have p3b : (p + 1) ^ 3 ≤ 1001 ^ 3 := Nat.pow_le_pow_left (by omega) 3
  have p3c : (1001 : Nat) ^ 3 = 1003003001 := by decide
  have e0 : (0 : Int) ≤ (z % 2147483647 * 69621 + 7919 * ((p : Int) + 1) ^ 3) % 2147483647 := Int.emod_nonneg _ (by decide)
  have e1 : (z % 2147483647 * 69621 + 7919 * ((p : Int) + 1) ^ 3) % 2147483647 < 2147483647 := Int.emod_lt_of_pos _ (by decide)
  refine ⟨bitsOk_of (k := 40) (m := 81) (Int.emod_nonneg _ (by decide)) (Int.lt_trans (Int.emod_lt_of_pos _ (by decide)) (by decide)) (by decide) (by decide) (by decide), by omega, ?_, by decide, ?_⟩
  · rw [p3]
    exact bitsOk_of (k := 40) (m := 81) (by decide) (by decide) (by omega) (by omega) (by decide)
  · exact h ⟨_, _, p⟩ ⟨e0, e1, by simp only; omega, by simp only; omega⟩

theorem asc_lit (s : String) (n : Nat) (h : (∀ c ∈ (Str.ofString s).cps.toList, c < 128) ∧ (Str.ofString s).length ≤ n := by decide +kernel) : Asc (Str.ofString s) n := h
def HoldP (dn : List Str) (t : T) : Prop := t.Wk 3900 ∧ t.h ≤ 1 + 5 * dn.length ∧ t.z ≤ 1 + 20 * dn.length ∧ ∀ bd x, x ∈ t.free bd ↔ x ∈ dn ∧ x ∉ bd
def N3 (x : Str) : Prop := x ≠ "q" ∧ x ≠ "r" ∧ x ≠ "s"
theorem op_mem {s : Str} (h : s = "+" ∨ s = "<") : s ∈ opsL := by
  rcases h with rfl | rfl <;> simp [opsL]
theorem num_hold {r : Int} (h0 : 0 ≤ r) (h : r < 50) : HoldP [] (.num r) := ⟨⟨h0, Int.lt_trans h (by decide)⟩, by simp [T.h], by simp [T.z], fun bd x => by simp [T.free]⟩
theorem free_nm {o x : Str} {bd : List Str} : x ∈ (T.name o).free bd ↔ x = o ∧ x ∉ bd := by
  rw [T.free]
  by_cases z : o ∈ bd
  · rw [if_pos z]; exact ⟨(fun q => nomatch q), fun q => absurd z (q.1 ▸ q.2)⟩
  · rw [if_neg z, List.mem_singleton]; exact ⟨fun q => ⟨q, q ▸ z⟩, fun q => q.1⟩
theorem fr_app (bd : List Str) (a b : T) : (T.app a b).free bd = a.free bd ++ b.free bd := by rw [T.free]
theorem fr_lt (bd : List Str) (ps : PL) (b : T) : (T.lt ps b).free bd = ps.free (bd ++ ps.names) ++ b.free (bd ++ ps.names) := by rw [T.free]
theorem fr_cs (bd : List Str) (a : T) (ws : WL) : (T.cs a ws).free bd = a.free bd ++ ws.free bd := by rw [T.free]
theorem fr_mk (bd : List Str) (s : Str) : (T.make s).free bd = [] := by rw [T.free]
theorem fr_pn (bd : List Str) : PL.nil.free bd = [] := by rw [PL.free]
theorem fr_pc (bd : List Str) (x : Str) (t : T) (r : PL) : (PL.cons x t r).free bd = t.free bd ++ r.free bd := by rw [PL.free]
theorem fr_wn (bd : List Str) : WL.nil.free bd = [] := by rw [WL.free]
theorem fr_wc (bd xs : List Str) (c : Str) (t : T) (r : WL) : (WL.cons c xs t r).free bd = t.free (bd ++ xs) ++ r.free bd := by rw [WL.free]
theorem hold_mem {dn : List Str} {o x : Str} : x ∈ dn ++ [o] ↔ x ∈ dn ∨ x = o := by rw [List.mem_append, List.mem_singleton]
section
variable {dn : List Str} {t : T} {o : Str}
theorem hold_0 (h : HoldP dn t) (ao : Asc o 40) (no : N3 o) : HoldP (dn ++ [o]) (.app t (.fn "q" (.op "+" (.name o) (.name "q")))) := by
  obtain ⟨w, hh, zz, fr⟩ := h
  refine ⟨⟨w, asc_lit "q" 40, op_mem (.inl rfl), ao, asc_lit "q" 40⟩, ?_, ?_, fun bd x => ?_⟩
  · simp only [T.h, List.length_append, List.length_singleton]; omega
  · simp only [T.z, List.length_append, List.length_singleton]; omega
  · rw [T.free, T.free, T.free, List.mem_append, List.mem_append, fr bd x, free_nm, free_nm, hold_mem]
    simp only [List.mem_append, List.mem_singleton]
    constructor
    · rintro (q | ⟨q1, q2⟩ | ⟨q1, q2⟩)
      · exact ⟨.inl q.1, q.2⟩
      · exact ⟨.inr q1, fun z => q2 (.inl z)⟩
      · exact absurd (.inr q1) q2
    · rintro ⟨q | q, q2⟩
      · exact .inl ⟨q, q2⟩
      · exact .inr (.inl ⟨q, fun z => z.elim q2 fun z => no.1 (q.symm.trans z)⟩)
theorem hold_1 (h : HoldP dn t) (ao : Asc o 40) (no : N3 o) (hd : ∀ x ∈ dn, N3 x) : HoldP (dn ++ [o]) (.lt (.cons "r" (.name o) (.cons "s" (.name "r") .nil)) (.app (.name "s") t)) := by
  obtain ⟨w, hh, zz, fr⟩ := h
  refine ⟨⟨show 2 ≤ 3900 by decide, ⟨asc_lit "r" 40, ao, asc_lit "s" 40, asc_lit "r" 40, trivial⟩, asc_lit "s" 40, w⟩, ?_, ?_, fun bd x => ?_⟩
  · simp only [T.h, PL.h, List.length_append, List.length_singleton]; omega
  · simp only [T.z, PL.z, List.length_append, List.length_singleton]; omega
  · simp only [fr_lt, fr_pc, fr_pn, fr_app, List.mem_append, fr _ x, free_nm, PL.names, List.not_mem_nil, or_false, List.mem_cons, List.mem_singleton]
    constructor
    · rintro ((⟨q1, q2⟩ | ⟨q1, q2⟩) | ⟨q1, q2⟩ | ⟨q1, q2⟩)
      · exact ⟨.inr q1, fun z => q2 (.inl z)⟩
      · exact absurd (.inr (.inl q1)) q2
      · exact absurd (.inr (.inr q1)) q2
      · exact ⟨.inl q1, fun z => q2 (.inl z)⟩
    · rintro ⟨q | q, q2⟩
      · exact .inr (.inr ⟨q, fun z => by
          rcases z with z | z | z
          · exact q2 z
          · exact (hd x q).2.1 z
          · exact (hd x q).2.2 z⟩)
      · exact .inl (.inl ⟨q, fun z => by
          rcases z with z | z | z
          · exact q2 z
          · exact no.2.1 (q.symm.trans z)
          · exact no.2.2 (q.symm.trans z)⟩)
theorem hold_2 (h : HoldP dn t) (ao : Asc o 40) : HoldP (dn ++ [o]) (.cs t (.cons "True" [] (.name o) (.cons "False" [] (.make "True") .nil))) := by
  obtain ⟨w, hh, zz, fr⟩ := h
  refine ⟨⟨w, show 2 ≤ 3900 by decide, asc_lit "True" 40, (fun _ z => nomatch z), Nat.zero_le _, ao, asc_lit "False" 40, (fun _ z => nomatch z), Nat.zero_le _, asc_lit "True" 40, trivial⟩, ?_, ?_, fun bd x => ?_⟩
  · simp only [T.h, WL.h, List.length_append, List.length_singleton]; omega
  · simp only [T.z, WL.z, List.length_append, List.length_singleton, List.length_nil]; omega
  · simp only [fr_cs, fr_wc, fr_wn, fr_mk, List.mem_append, fr _ x, free_nm, List.append_nil, List.mem_singleton]
    constructor
    · rintro (q | q)
      · exact ⟨.inl q.1, q.2⟩
      · exact ⟨.inr q.1, q.2⟩
    · rintro ⟨q | q, q2⟩
      · exact .inl ⟨q, q2⟩
      · exact .inr ⟨q, q2⟩
theorem hold_3 (h : HoldP dn t) (ao : Asc o 40) {s : Str} (hs : s = "+" ∨ s = "<") : HoldP (dn ++ [o]) (.op s (.name o) t) := by
  obtain ⟨w, hh, zz, fr⟩ := h
  refine ⟨⟨op_mem hs, ao, w⟩, ?_, ?_, fun bd x => ?_⟩
  · simp only [T.h, List.length_append, List.length_singleton]; omega
  · simp only [T.z, List.length_append, List.length_singleton]; omega
  · rw [T.free, List.mem_append, fr bd x, free_nm, hold_mem]
    exact ⟨fun q => q.elim (fun q => ⟨.inr q.1, q.2⟩) fun q => ⟨.inl q.1, q.2⟩, fun ⟨q, q2⟩ => q.elim (fun q => .inr ⟨q, q2⟩) fun q => .inl ⟨q, q2⟩⟩
theorem hold_4 (h : HoldP dn t) (ao : Asc o 40) : HoldP (dn ++ [o]) (.app (.name o) t) := by
  obtain ⟨w, hh, zz, fr⟩ := h
  refine ⟨⟨ao, w⟩, ?_, ?_, fun bd x => ?_⟩
  · simp only [T.h, List.length_append, List.length_singleton]; omega
  · simp only [T.z, List.length_append, List.length_singleton]; omega
  · rw [T.free, List.mem_append, fr bd x, free_nm, hold_mem]
    exact ⟨fun q => q.elim (fun q => ⟨.inr q.1, q.2⟩) fun q => ⟨.inl q.1, q.2⟩, fun ⟨q, q2⟩ => q.elim (fun q => .inr ⟨q, q2⟩) fun q => .inl ⟨q, q2⟩⟩
theorem hold_5 (h : HoldP dn t) (ao : Asc o 40) : HoldP (dn ++ [o]) (.app t (.name o)) := by
  obtain ⟨w, hh, zz, fr⟩ := h
  refine ⟨⟨w, ao⟩, ?_, ?_, fun bd x => ?_⟩
  · simp only [T.h, List.length_append, List.length_singleton]; omega
  · simp only [T.z, List.length_append, List.length_singleton]; omega
  · rw [T.free, List.mem_append, fr bd x, free_nm, hold_mem]
    exact ⟨fun q => q.elim (fun q => ⟨.inl q.1, q.2⟩) fun q => ⟨.inr q.1, q.2⟩, fun ⟨q, q2⟩ => q.elim (fun q => .inl ⟨q, q2⟩) fun q => .inr ⟨q, q2⟩⟩
end
theorem pick2 {a b : D} {r : Int} (h0 : 0 ≤ r) (h : r < 2) : ixD (.lst [a, b]) (.int r) = some (if r = 0 then a else b) := by
  have : r = 0 ∨ r = 1 := by omega
  rcases this with rfl | rfl <;> rfl
theorem holding_ok {q : Sd} {n : Nat} {some_ ps : List Str} {Q : Sls → Sl → Prop} (hq : Ok5 q (n + 20)) (hl : some_.length + ps.length ≤ 5) (ha : ∀ x ∈ some_ ++ ps, Asc x 40 ∧ N3 x)
    (h : ∀ q' t, Ok5 q' n → HoldP (some_ ++ ps) t → Q [sdS q', .im (.lst (some_.map .str)), .im (.tup (ps.map .str))] (.im t.d)) : W (m__law_holding [sdS q, .im (.lst (some_.map .str)), .im (.tup (ps.map .str))]) Q := by
  delta m__law_holding
  symm_saturate
  refine draw_ok (n := n + 19) hq (by decide) (by decide) fun q1 r1 h1 l1 u1 => ?_
  simp only [b__law_holding_1]
  symm_saturate
  rw [← List.map_append]
  refine ⟨Nat.le_trans (show _ ≤ 100 by simp only [List.length_map]; omega) (by decide), ?_⟩
  refine w_for (fun ds e => ∃ (dn rs : List Str) (t : T) (q : Sd) (s4 s5 s6 : Sl), ds = rs.map .str ∧ some_ ++ ps = dn ++ rs ∧ e = [sdS q, .im (.lst (some_.map .str)), .im (.tup (ps.map .str)), .im t.d, s4, s5, s6] ∧ Ok5 q (n + 2 * rs.length) ∧ HoldP dn t) ?_ ?_ ?_
  · exact ⟨[], some_ ++ ps, .num r1, q1, _, _, _, rfl, rfl, rfl, h1.le (by rw [List.length_append]; omega), num_hold l1 u1⟩
  · rintro d ds e ⟨dn, rs, t, q2, s4, s5, s6, e1, e2, rfl, h2, hp⟩
    obtain _ | ⟨o, rs⟩ := rs
    · cases e1
    cases e1
    obtain ⟨ao, no⟩ := ha o (by rw [e2]; simp)
    have hd : ∀ x ∈ dn, N3 x := fun x hx => (ha x (by rw [e2]; exact List.mem_append_left _ hx)).2
    rw [List.length_cons] at h2
    symm_saturate
    refine draw_ok (n := n + 2 * rs.length + 1) (h2.le (by omega)) (by decide) (by decide) fun q3 r3 h3 l3 u3 => ?_
    symm_saturate
    have : r3 = 0 ∨ r3 = 1 ∨ r3 = 2 ∨ r3 = 3 ∨ r3 = 4 ∨ r3 = 5 := by omega
    have fin : ∀ {t' : T} {q' : Sd}, HoldP (dn ++ [o]) t' → Ok5 q' (n + 2 * rs.length) → ∃ (dn rs_1 : List Str) (t : T) (q : Sd) (s4 s5 s6 : Sl), rs.map D.str = rs_1.map D.str ∧ some_ ++ ps = dn ++ rs_1 ∧ [sdS q', .im (.lst (some_.map .str)), .im (.tup (ps.map .str)), .im t'.d, .im (.str o), .im (T.name o).d, .im (.int r3)] = [sdS q, .im (.lst (some_.map .str)), .im (.tup (ps.map .str)), .im t.d, s4, s5, s6] ∧ Ok5 q (n + 2 * rs_1.length) ∧ HoldP dn t := fun {t' q'} ht hq => ⟨dn ++ [o], rs, t', q', _, _, _, rfl, by rw [e2, List.append_assoc]; rfl, rfl, hq, ht⟩
    rcases this with rfl | rfl | rfl | rfl | rfl | rfl
    · symm_saturate
      exact fin (hold_0 hp ao no) (h3.le (by omega))
    · symm_saturate
      exact fin (hold_1 hp ao no hd) (h3.le (by omega))
    · symm_saturate
      exact fin (hold_2 hp ao) (h3.le (by omega))
    · symm_saturate
      refine draw_ok (n := n + 2 * rs.length) h3 (by decide) (by decide) fun q4 r4 h4 l4 u4 => ?_
      symm_saturate
      rw [pick2 l4 u4]
      symm_saturate
      by_cases z : r4 = 0
      · rw [if_pos z]
        exact fin (hold_3 hp ao (.inl rfl)) h4
      · rw [if_neg z]
        exact fin (hold_3 hp ao (.inr rfl)) h4
    · symm_saturate
      rw [show (4 : Int) - 4 = 0 from rfl]
      symm_saturate
      exact fin (hold_4 hp ao) (h3.le (by omega))
    · symm_saturate
      rw [show (5 : Int) - 4 = 1 from rfl]
      symm_saturate
      exact fin (hold_5 hp ao) (h3.le (by omega))
  · rintro e ⟨dn, rs, t, q2, s4, s5, s6, e1, e2, rfl, h2, hp⟩
    obtain _ | ⟨o, rs⟩ := rs
    · rw [List.append_nil] at e2
      subst e2
      simp only [b__law_holding_2]
      symm_saturate
      exact h q2 t h2 hp
    · cases e1

def f1 (s : Str) : Nat := s.cps.toList.headD 0
def lettersN : List Nat := [97, 98, 101, 102, 103, 104, 106, 107, 109]
theorem letter_ok {k : Nat} (h : k < 9) : ∃ c, ixD (.str "abefghjkm") (.int (k : Int)) = some (.str ⟨#[c]⟩) ∧ lettersN.take (k + 1) = lettersN.take k ++ [c] ∧ c ∈ lettersN := by
  match k, h with
  | 0, _ => exact ⟨97, rfl, rfl, by decide⟩
  | 1, _ => exact ⟨98, rfl, rfl, by decide⟩
  | 2, _ => exact ⟨101, rfl, rfl, by decide⟩
  | 3, _ => exact ⟨102, rfl, rfl, by decide⟩
  | 4, _ => exact ⟨103, rfl, rfl, by decide⟩
  | 5, _ => exact ⟨104, rfl, rfl, by decide⟩
  | 6, _ => exact ⟨106, rfl, rfl, by decide⟩
  | 7, _ => exact ⟨107, rfl, rfl, by decide⟩
  | 8, _ => exact ⟨109, rfl, rfl, by decide⟩
theorem f1_app (c : Nat) (z : Str) : f1 ((⟨#[c]⟩ : Str) ++ z) = c := by
  simp [f1, Str.cps_append]
theorem letter_asc {c : Nat} (h : c ∈ lettersN) : Asc (⟨#[c]⟩ : Str) 1 := by
  refine ⟨fun x hx => ?_, by simp [Str.length]⟩
  simp only [List.mem_singleton] at hx
  simp only [lettersN, List.mem_cons, List.not_mem_nil, or_false] at h
  omega
structure NmsOk (N : List Str) (k : Nat) : Prop where
  perm : (N.map f1).Perm (lettersN.take k)
  asc : ∀ s ∈ N, Asc s 4
theorem NmsOk.nd {N : List Str} {k : Nat} (h : NmsOk N k) : N.Nodup := by
  have : (N.map f1).Nodup := h.perm.nodup_iff.mpr ((show lettersN.Nodup by decide).sublist (List.take_sublist ..))
  exact List.Pairwise.of_map f1 (fun a b q e => q (congrArg f1 e)) this
theorem NmsOk.f1m {N : List Str} {k : Nat} (h : NmsOk N k) {s : Str} (hs : s ∈ N) : f1 s ∈ lettersN :=
  List.mem_of_mem_take (h.perm.mem_iff.mp (List.mem_map.mpr ⟨s, hs, rfl⟩))
theorem NmsOk.n3 {N : List Str} {k : Nat} (h : NmsOk N k) {s : Str} (hs : s ∈ N) : N3 s ∧ s ≠ "x" ∧ s ≠ "y" := by
  have g := h.f1m hs
  refine ⟨⟨fun e => ?_, fun e => ?_, fun e => ?_⟩, fun e => ?_, fun e => ?_⟩
  all_goals
    rw [e] at g
    revert g
    decide +kernel
theorem NmsOk.len {N : List Str} {k : Nat} (h : NmsOk N k) (hk : k ≤ 9) : N.length = k := by
  have := h.perm.length_eq
  rw [List.length_map, List.length_take] at this
  have e : lettersN.length = 9 := rfl
  omega
theorem NmsOk.ins {N : List Str} {k i : Nat} (h : NmsOk N k) (hk : k < 9) {s : Str} (hc : lettersN.take (k + 1) = lettersN.take k ++ [f1 s]) (ha : Asc s 4) : NmsOk (N.take i ++ [s] ++ N.drop i) (k + 1) := by
  refine ⟨?_, fun x hx => ?_⟩
  · rw [hc, List.map_append, List.map_append]
    have e1 : ((N.take i).map f1 ++ [s].map f1 ++ (N.drop i).map f1).Perm ((N.take i).map f1 ++ (N.drop i).map f1 ++ [s].map f1) := by
      rw [List.append_assoc, List.append_assoc]
      exact List.Perm.append_left _ List.perm_append_comm
    refine e1.trans ?_
    rw [← List.map_append, List.take_append_drop]
    exact h.perm.append_right _
  · rcases List.mem_append.mp hx with hx | hx
    · rcases List.mem_append.mp hx with hx | hx
      · exact h.asc x (List.mem_of_mem_take hx)
      · rw [List.mem_singleton.mp hx]; exact ha
    · exact h.asc x (List.mem_of_mem_drop hx)
def nf : Nat → List Str → List D
  | _, [] => []
  | k, y :: ys => .tup [.int (k : Int), .str y] :: nf (k + 1) ys
theorem numbered_nf (ys : List Str) : M.numbered (ys.map .str) = nf 0 ys := by
  have key : ∀ (ys : List Str) (k : Nat), pairs (rngD (k : Int) ys.length) (ys.map .str) = nf k ys := by
    intro ys
    induction ys with
    | nil => intro k; rfl
    | cons y ys ih =>
      intro k
      have e : rngD (k : Int) (ys.length + 1) = .int (k : Int) :: rngD ((k + 1 : Nat) : Int) ys.length := by
        unfold rngD
        rw [List.range_succ_eq_map, List.map_cons, List.map_map]
        refine congr (congrArg List.cons ?_) (List.map_congr_left fun i _ => ?_)
        · show D.int ((k : Int) + ((0 : Nat) : Int)) = _
          rw [show ((0 : Nat) : Int) = 0 from rfl, Int.add_zero]
        · show D.int ((k : Int) + ((i + 1 : Nat) : Int)) = D.int (((k + 1 : Nat) : Int) + (i : Int))
          congr 1; omega
      rw [List.length_cons, e, List.map_cons, pairs, ih (k + 1), nf]
  have := key ys 0
  rw [M.numbered, List.length_map]
  exact this
theorem natlog {z : Int} (h : 0 ≤ z ∧ z ≤ 100) : z.natAbs.log2 ≤ 100 := by
  refine Nat.le_trans (Nat.log2_le_self _) (by omega)
theorem part1_ok {q : Sd} {n m : Nat} (hm : m ≤ 9) (hq : Ok5 q (n + 2 * m)) {Q : Sls → Fl → Prop} {s3 s4 s5 s6 s7 s8 s9 s10 s11 : Sl}
    (h : ∀ q' N s3, Ok5 q' n → NmsOk N m → W (b__law_program_3 [sdS q', .im (.int (m : Int)), .lst (N.map .str), s3, s4, s5, s6, s7, s8, s9, s10, s11]) Q) : W (b__law_program_2 [sdS q, .im (.int (m : Int)), .lst [], s3, s4, s5, s6, s7, s8, s9, s10, s11]) Q := by
  simp only [b__law_program_2]
  symm_saturate
  refine ⟨rngB_n (by omega), ?_⟩
  rw [rng_n]
  refine w_for (fun ds e => ∃ (k : Nat) (q : Sd) (N : List Str) (s3 : Sl), ds = ((List.range' k (m - k)).map fun (i : Nat) => D.int (i : Int)) ∧ k ≤ m ∧ e = [sdS q, .im (.int (m : Int)), .lst (N.map .str), s3, s4, s5, s6, s7, s8, s9, s10, s11] ∧ Ok5 q (n + 2 * (m - k)) ∧ NmsOk N k) ?_ ?_ ?_
  · exact ⟨0, q, [], _, by rw [rgI, List.range_eq_range', Nat.sub_zero], Nat.zero_le _, rfl, hq, ⟨List.Perm.refl _, fun _ z => nomatch z⟩⟩
  · rintro d ds e ⟨k, q, N, s3, e1, hk, rfl, h1, hN⟩
    obtain ⟨c, ec⟩ : ∃ c, m - k = c + 1 := by
      cases z : m - k with
      | zero => rw [z] at e1; simp at e1
      | succ c => exact ⟨c, rfl⟩
    rw [ec] at h1
    rw [ec, List.range'_succ, List.map_cons] at e1
    cases e1
    have lN := hN.len (by omega)
    obtain ⟨c1, x1, x2, x3⟩ := letter_ok (k := k) (by omega)
    symm_saturate
    rw [List.length_map]
    refine draw_ok (n := n + 2 * c + 1) (h1.le (by omega)) (by omega) (Nat.lt_of_le_of_lt (natlog ⟨by omega, by omega⟩) (by decide)) fun q2 r2 h2 l2 u2 => ?_
    symm_saturate
    rw [x1]
    symm_saturate
    refine draw_ok (n := n + 2 * c) (h2.le (by omega)) (by decide) (by decide) fun q3 r3 h3 l3 u3 => ?_
    symm_saturate
    have az : Asc (cutS "nop" none (some r3)) 3 := cutS_asc (asc_lit "nop" 3) _ _
    have as := (letter_asc x3).app az
    refine ⟨by decide +kernel, Nat.le_trans (show _ ≤ 1 + 3 from Nat.add_le_add (by simp [Str.length]) az.2) (by decide), ⟨Nat.lt_of_le_of_lt (show _ ≤ 20 by rw [List.length_map]; omega) (by decide), l2, by omega⟩, ?_⟩
    refine ⟨k + 1, q3, N.take r2.toNat ++ [(⟨#[c1]⟩ : Str) ++ cutS "nop" none (some r3)] ++ N.drop r2.toNat, .im (.int (k : Int)), by rw [show m - (k + 1) = c by omega], by omega, ?_, h3.le (by omega), hN.ins (by omega) (by rw [f1_app]; exact x2) as⟩
    rw [List.map_append, List.map_append, List.map_take, List.map_drop]
    rfl
  · rintro e ⟨k, q, N, s3, e1, hk, rfl, h1, hN⟩
    have hk' : k = m := by
      rcases Nat.lt_or_ge k m with z | z
      · obtain ⟨c, ec⟩ : ∃ c, m - k = c + 1 := ⟨m - k - 1, by omega⟩
        rw [ec, List.range'_succ, List.map_cons] at e1; cases e1
      · omega
    subst hk'
    symm_saturate
    exact h q N s3 (h1.le (by omega)) hN
structure RowOk (N : List Str) (S : Str → List Str) (p : Str × List Str × T) : Prop where
  wk : p.2.2.Wk 3900
  h : p.2.2.h < 100
  z : p.2.2.z ≤ 400000
  fr : ∀ x ∈ N, x ∈ p.2.2.free [] ↔ x ∈ S p.1
theorem xy_ok {r : Int} (h0 : 0 ≤ r) (h : r < 3) : ∃ ps : List Str, cutG [D.str "x", D.str "y"] none (some r) = ps.map .str ∧ ps.length ≤ 2 ∧ ∀ x ∈ ps, Asc x 40 ∧ N3 x ∧ (x = "x" ∨ x = "y") := by
  have ax : Asc (Str.ofString "x") 40 ∧ N3 "x" := ⟨asc_lit "x" 40, by unfold N3; decide +kernel⟩
  have ay : Asc (Str.ofString "y") 40 ∧ N3 "y" := ⟨asc_lit "y" 40, by unfold N3; decide +kernel⟩
  have : r = 0 ∨ r = 1 ∨ r = 2 := by omega
  rcases this with rfl | rfl | rfl
  · exact ⟨[], rfl, by decide, fun _ z => nomatch z⟩
  · exact ⟨["x"], rfl, by decide, fun x hx => by rw [List.mem_singleton.mp hx]; exact ⟨ax.1, ax.2, .inl rfl⟩⟩
  · refine ⟨["x", "y"], rfl, by decide, fun x hx => ?_⟩
    rcases List.mem_cons.mp hx with rfl | hx
    · exact ⟨ax.1, ax.2, .inl rfl⟩
    · rw [List.mem_singleton.mp hx]; exact ⟨ay.1, ay.2, .inr rfl⟩
theorem ix_nm {N : List Str} {r : Int} (h0 : 0 ≤ r) (h : r < N.length) : ∃ s ∈ N, ixD (.lst (N.map .str)) (.int r) = some (.str s) := by
  obtain ⟨d, hd, he⟩ := ix_lst (xs := N.map .str) h0 (by rw [List.length_map]; exact h)
  obtain ⟨s, hs, rfl⟩ := List.mem_map.mp hd
  exact ⟨s, hs, he⟩
theorem notin_strsL (s : Str) (L : List Str) : notInD (.str s) (.lst (L.map .str)) = some (.bl (!decide (s ∈ L))) := by
  simp only [notInD, inQ, fvs_strs, D.fv, Option.bind_some, Option.map_some, inV_strs]
theorem picks_ok {N : List Str} {m k : Nat} (hN : NmsOk N m) (hm : m ≤ 9) (hk : k < m) {near : Int} {n t : Nat} (ht : t ≤ 3) {q : Sd} (hq : Ok5 q (n + 2 * t)) {Q : Sls → Fl → Prop} {s4 s5 s7 s9 s10 s11 : Sl}
    (h : ∀ q' (L : List Str) s9 s10, Ok5 q' n → (∀ x ∈ L, x ∈ N) → L.length ≤ t → Q [sdS q', .im (.int (m : Int)), .im (.lst (N.map .str)), .im (.int (k : Int)), s4, s5, .im (.int near), s7, .lst (L.map .str), s9, s10, s11] .nx) :
    W (forL (bName 9) (sSeq (sSet (fOp ixD (kVar 2) (kE (fCall m__law_draw (aOw 0 (aIm (fV 1 1) aNil))))) (bName 10)) (sSeq (sIf (fTest (fOp eqD (kVar 6) (kE (fC (.int 0))))) (sSet (fOp ixD (kVar 2) (kE (fOp modD (kE (fOp addD (kVar 3) (kE (fC (.int 1))))) (kVar 1)))) (bName 10)) sNil) (sSeq (sIf (fTest (fOp eqD (kVar 6) (kE (fC (.int 1))))) (sSet (fOp ixD (kVar 2) (kE (fCB maxD (kCons (kE (fC (.int 0))) (kCons (kE (fOp subD (kE (fOp subD (kVar 3) (kE (fC (.int 1))))) (kE (fCall m__law_draw (aOw 0 (aIm (fC (.int 2)) aNil)))))) kNil))))) (bName 10)) sNil) (sIf (fTest (fOp notInD (kVar 10) (kVar 8))) (sDrop (fAppend 8 (fV 1 10))) sNil)))) (rgI t) [sdS q, .im (.int (m : Int)), .im (.lst (N.map .str)), .im (.int (k : Int)), s4, s5, .im (.int near), s7, .lst [], s9, s10, s11]) Q := by
  have lN := hN.len hm
  refine w_for (fun ds e => ∃ (L : List Str) (q : Sd) (s9 s10 : Sl), ds.length ≤ t ∧ e = [sdS q, .im (.int (m : Int)), .im (.lst (N.map .str)), .im (.int (k : Int)), s4, s5, .im (.int near), s7, .lst (L.map .str), s9, s10, s11] ∧ Ok5 q (n + 2 * ds.length) ∧ (∀ x ∈ L, x ∈ N) ∧ L.length + ds.length ≤ t) ?_ ?_ ?_
  · have : (rgI t).length = t := by simp [rgI]
    exact ⟨[], q, _, _, by omega, rfl, by rw [this]; exact hq, (fun _ z => nomatch z), by simp; omega⟩
  · rintro d ds e ⟨L, q, s9, s10, ht, rfl, h1, hL, hl⟩
    rw [List.length_cons] at ht h1 hl
    symm_saturate
    refine draw_ok (n := n + 2 * ds.length + 1) (h1.le (by omega)) (by omega) (Nat.lt_of_le_of_lt (natlog ⟨by omega, by omega⟩) (by decide)) fun q2 r2 h2 l2 u2 => ?_
    symm_saturate
    obtain ⟨s, hs, es⟩ := ix_nm (N := N) l2 (by omega)
    rw [es]
    symm_saturate
    by_cases n0 : near = 0
    · subst n0
      symm_saturate
      have em : ((k : Int) + 1) % (m : Int) = (((k + 1) % m : Nat) : Int) := by rw [Int.natCast_emod]; rfl
      obtain ⟨s', hs', es'⟩ := ix_nm (N := N) (r := ((k : Int) + 1) % (m : Int)) (Int.emod_nonneg _ (by omega)) (by have := Int.emod_lt_of_pos ((k : Int) + 1) (show (0 : Int) < m by omega); omega)
      refine ⟨by omega, ?_⟩
      rw [es']
      symm_saturate
      rw [notin_strsL]
      symm_saturate
      refine w_if (fun z => ?_) (fun z => ?_)
      · symm_saturate
        refine ⟨Nat.lt_of_le_of_lt (show _ ≤ 20 by rw [List.length_map]; omega) (by decide), L ++ [s'], q2, _, _, by omega, by rw [List.map_append]; rfl, (h2.le (by omega)), ?_, by rw [List.length_append, List.length_singleton]; omega⟩
        intro x hx
        rcases List.mem_append.mp hx with hx | hx
        · exact hL x hx
        · rw [List.mem_singleton.mp hx]; exact hs'
      · symm_saturate
        exact ⟨L, q2, _, _, by omega, rfl, (h2.le (by omega)), hL, by omega⟩
    · by_cases n1 : near = 1
      · subst n1
        symm_saturate
        refine draw_ok (n := n + 2 * ds.length) h2 (by decide) (by decide) fun q4 r4 h4 l4 u4 => ?_
        symm_saturate
        obtain ⟨s', hs', es'⟩ := ix_nm (N := N) (r := if (k : Int) - 1 - r4 > 0 then (k : Int) - 1 - r4 else 0) (by split <;> omega) (by split <;> omega)
        rw [es']
        symm_saturate
        rw [notin_strsL]
        symm_saturate
        refine w_if (fun z => ?_) (fun z => ?_)
        · symm_saturate
          refine ⟨Nat.lt_of_le_of_lt (show _ ≤ 20 by rw [List.length_map]; omega) (by decide), L ++ [s'], q4, _, _, by omega, by rw [List.map_append]; rfl, h4, ?_, by rw [List.length_append, List.length_singleton]; omega⟩
          intro x hx
          rcases List.mem_append.mp hx with hx | hx
          · exact hL x hx
          · rw [List.mem_singleton.mp hx]; exact hs'
        · symm_saturate
          exact ⟨L, q4, _, _, by omega, rfl, h4, hL, by omega⟩
      · simp only [if_neg n0, if_neg n1]
        symm_saturate
        simp only [if_neg n0, if_neg n1]
        symm_saturate
        rw [notin_strsL]
        symm_saturate
        refine w_if (fun z => ?_) (fun z => ?_)
        · symm_saturate
          refine ⟨Nat.lt_of_le_of_lt (show _ ≤ 20 by rw [List.length_map]; omega) (by decide), L ++ [s], q2, _, _, by omega, by rw [List.map_append]; rfl, (h2.le (by omega)), ?_, by rw [List.length_append, List.length_singleton]; omega⟩
          intro x hx
          rcases List.mem_append.mp hx with hx | hx
          · exact hL x hx
          · rw [List.mem_singleton.mp hx]; exact hs
        · symm_saturate
          exact ⟨L, q2, _, _, by omega, rfl, (h2.le (by omega)), hL, by omega⟩
  · rintro e ⟨L, q, s9, s10, ht, rfl, h1, hL, hl⟩
    symm_saturate
    exact h q L s9 s10 h1 hL hl

theorem set_cong {S : Str → List Str} {dn : List Str} {a : Str} {L : List Str} (ha : a ∉ dn) : ∀ n ∈ dn, (if n = a then L else S n) = S n := fun n hn => if_neg fun (z : n = a) => ha (z ▸ hn)
theorem prog_ok {q : Sd} {n : Nat} (hq : Ok5 q (n + 1000)) {Q : Sls → Sl → Prop}
    (h : ∀ q' (ds : List (Str × List Str × T)) (S : Str → List Str), Ok5 q' n → ds.length ≤ 9 → (ds.map (·.1)).Nodup → (∀ s ∈ ds.map (·.1), Asc s 4) → (∀ p ∈ ds, RowOk (ds.map (·.1)) S p) → (∀ a x, x ∈ S a → x ∈ ds.map (·.1)) → (∀ a, (S a).length ≤ 3) → (∀ a, a ∉ ds.map (·.1) → S a = []) →
      Q [sdS q'] (.im (.tup [.tup [.tup [], .tup (ds.map RwD)], sD (ds.map (·.1)) S]))) : W (m__law_program [sdS q]) Q := by
  delta m__law_program
  symm_saturate
  refine draw_ok (n := n + 999) hq (by decide) (by decide) fun q1 r1 h1 l1 u1 => ?_
  symm_saturate
  obtain ⟨r, rfl⟩ := Int.eq_ofNat_of_zero_le l1
  rw [show 1 + ((r : Nat) : Int) = ((r + 1 : Nat) : Int) by omega]
  have hm : r + 1 ≤ 9 := by omega
  generalize r + 1 = m at hm
  simp only [b__law_program_1]
  symm_saturate
  refine part1_ok (n := n + 900) hm (h1.le (by omega)) fun q2 N s3 h2 hN => ?_
  have lN := hN.len hm
  simp only [b__law_program_3]
  symm_saturate
  simp only [b__law_program_4]
  symm_saturate
  simp only [b__law_program_5]
  symm_saturate
  refine draw_ok (n := n + 899) h2 (by decide) (by decide) fun q3 near h3 l3 u3 => ?_
  symm_saturate
  simp only [b__law_program_6]
  symm_saturate
  rw [numbered_nf]
  refine w_for (fun xs e => ∃ (dn rs : List Str) (ps : List (Str × List Str × T)) (S : Str → List Str) (q : Sd) (s3 s7 s8 s9 s10 s11 : Sl), xs = nf dn.length rs ∧ N = dn ++ rs ∧ e = [sdS q, .im (.int (m : Int)), .im (.lst (N.map .str)), s3, .lst (ps.map RwD), .dic (mapK dn fun n => .lst ((S n).map .str)), .im (.int near), s7, s8, s9, s10, s11] ∧ ps.map (·.1) = dn ∧ Ok5 q (n + 50 * rs.length) ∧ (∀ p ∈ ps, RowOk N S p) ∧ (∀ a x, x ∈ S a → x ∈ N) ∧ (∀ a, (S a).length ≤ 3) ∧ (∀ a, a ∉ dn → S a = [])) ?_ ?_ ?_
  · exact ⟨[], N, [], fun _ => [], q3, _, _, _, _, _, _, rfl, rfl, rfl, rfl, h3.le (by omega), (fun _ z => nomatch z), (fun _ _ z => nomatch z), (fun _ => Nat.zero_le _), fun _ _ => rfl⟩
  · rintro d xs e ⟨dn, rs, ps, S, q4, s3, s7, s8, s9, s10, s11, e1, e2, rfl, ed, h4, hp, hs, hl, hz⟩
    obtain _ | ⟨a, rs⟩ := rs
    · cases e1
    cases e1
    rw [List.length_cons] at h4
    have hkm : dn.length < m := by rw [← lN, e2, List.length_append, List.length_cons]; omega
    have ha : a ∈ N := by rw [e2]; simp
    have hd : a ∉ dn := fun z => by
      have nd := hN.nd
      rw [e2] at nd
      exact (List.nodup_append.mp nd).2.2 _ z _ (List.mem_cons_self ..) rfl
    symm_saturate
    refine draw_ok (n := n + 50 * rs.length + 49) (h4.le (by omega)) (by decide) (by decide) fun q5 r5 h5 l5 u5 => ?_
    symm_saturate
    obtain ⟨t, rfl⟩ := Int.eq_ofNat_of_zero_le l5
    refine ⟨rngB_n (by omega), ?_⟩
    rw [rng_n]
    refine picks_ok hN hm hkm (near := near) (n := n + 50 * rs.length + 40) (t := t) (by omega) (h5.le (by omega)) fun q6 L s9 s10 h6 hL lL => ?_
    symm_saturate
    rw [putG_mapK hd]
    have mk : mapK dn (fun n => .lst ((S n).map .str)) ++ [(.inr a, .lst (L.map .str))] = mapK (dn ++ [a]) fun n => .lst ((if n = a then L else S n).map .str) := mapK_snoc (by simp) fun x hx => by rw [set_cong hd x hx]
    rw [mk]
    refine ⟨Nat.lt_of_le_of_lt (show _ ≤ 20 by simp only [mapK, List.length_map]; omega) (by decide), ?_⟩
    refine draw_ok (n := n + 50 * rs.length + 39) h6 (by decide) (by decide) fun q7 r7 h7 l7 u7 => ?_
    symm_saturate
    obtain ⟨pp, p1, p2, p3⟩ := xy_ok l7 u7
    simp only [M.cutD]
    rw [p1]
    symm_saturate
    have hh : ∀ x ∈ L ++ pp, Asc x 40 ∧ N3 x := fun x hx => by
      rcases List.mem_append.mp hx with hx | hx
      · exact ⟨(hN.asc x (hL x hx)).le (by decide), (hN.n3 (hL x hx)).1⟩
      · exact ⟨(p3 x hx).1, (p3 x hx).2.1⟩
    refine holding_ok (n := n + 50 * rs.length) (h7.le (by omega)) (by omega) hh fun q8 t8 h8 p8 => ?_
    symm_saturate
    have lps : ps.length ≤ 20 := by
      have : ps.length = dn.length := by rw [← ed, List.length_map]
      omega
    have hpa : ∀ p ∈ ps, p.1 ≠ a := fun p hp z => hd (by rw [← ed, ← z]; exact List.mem_map.mpr ⟨p, hp, rfl⟩)
    refine ⟨Nat.lt_of_le_of_lt (show _ ≤ 20 by rw [List.length_map]; exact lps) (by decide), dn ++ [a], rs, ps ++ [(a, pp, t8)], (fun n => if n = a then L else S n), q8, _, _, _, _, _, _, by rw [List.length_append]; rfl, by rw [e2, List.append_assoc]; rfl, by rw [List.map_append]; rfl, by rw [List.map_append, ed]; rfl, h8, ?_, ?_, ?_, ?_⟩
    · intro p hpm
      rcases List.mem_append.mp hpm with hpm | hpm
      · obtain ⟨g1, g2, g3, g4⟩ := hp p hpm
        exact ⟨g1, g2, g3, fun x hx => by rw [if_neg (hpa p hpm)]; exact g4 x hx⟩
      · rw [List.mem_singleton.mp hpm]
        obtain ⟨g1, g2, g3, g4⟩ := p8
        rw [List.length_append] at g2 g3
        refine ⟨g1, by simp only; omega, by simp only; omega, fun x hx => ?_⟩
        simp only [if_true]
        rw [g4 [] x, List.mem_append]
        constructor
        · rintro ⟨g | g, _⟩
          · exact g
          · obtain ⟨_, _, g5⟩ := p3 x g
            obtain ⟨_, n1, n2⟩ := hN.n3 hx
            exact (g5.elim n1 n2).elim
        · exact fun g => ⟨.inl g, List.not_mem_nil⟩
    · intro b x hx
      simp only at hx
      split at hx
      · exact hL x hx
      · exact hs b x hx
    · intro b
      simp only
      split
      · omega
      · exact hl b
    · intro b hb
      simp only
      rw [if_neg fun z => hb (by rw [z]; simp)]
      exact hz b fun z => hb (List.mem_append_left _ z)
  · rintro e ⟨dn, rs, ps, S, q4, s3, s7, s8, s9, s10, s11, e1, e2, rfl, ed, h4, hp, hs, hl, hz⟩
    obtain _ | ⟨a, rs⟩ := rs
    · rw [List.append_nil] at e2
      subst e2
      subst ed
      simp only [b__law_program_7]
      symm_saturate
      refine h q4 ps S (h4.le (by omega)) ?_ hN.nd hN.asc hp hs hl hz
      rw [List.length_map] at lN
      omega
    · cases e1

section
variable {M S : Str → List Str}
theorem rc_congr (h : ∀ a x, x ∈ M a ↔ x ∈ S a) {a b : Str} : Rc M a b ↔ Rc S a b := by
  have key : ∀ {M S : Str → List Str}, (∀ a x, x ∈ M a → x ∈ S a) → ∀ {b}, Rc M a b → Rc S a b := by
    intro M S h b q
    induction q with
    | one q => exact .one (h _ _ q)
    | more _ q ih => exact .more ih (h _ _ q)
  exact ⟨key fun a x => (h a x).mp, key fun a x => (h a x).mpr⟩
theorem grp_congr (h : ∀ a x, x ∈ M a ↔ x ∈ S a) (N : List Str) (a : Str) : grp N M a = grp N S a := by
  have e : ∀ b, (b = a ∨ (Rc M a b ∧ Rc M b a)) = (b = a ∨ (Rc S a b ∧ Rc S b a)) := fun b => by rw [propext (rc_congr h (a := a) (b := b)), propext (rc_congr h (a := b) (b := a))]
  unfold grp
  refine List.filter_congr fun b _ => ?_
  rw [Bool.eq_iff_iff]
  exact ⟨fun z => @decide_eq_true _ (_) (e b ▸ @of_decide_eq_true _ (_) z), fun z => @decide_eq_true _ (_) ((e b).symm ▸ @of_decide_eq_true _ (_) z)⟩
theorem gps_congr (h : ∀ a x, x ∈ M a ↔ x ∈ S a) (N : List Str) : gpsOf N M = gpsOf N S := by
  unfold gpsOf
  have : gpsF N M = gpsF N S := funext fun gs => funext fun a => by unfold gpsF; rw [grp_congr h N a]
  rw [this]
theorem fr_congr (h : ∀ a x, x ∈ M a ↔ x ∈ S a) (P : List Str) : isFr M P = isFr S P := funext fun g => by
  rw [Bool.eq_iff_iff, isFr_iff, isFr_iff]
  simp only [h]
theorem ord_congr (h : ∀ a x, x ∈ M a ↔ x ∈ S a) : ∀ (n : Nat) (L : List (List Str)) (P : List Str), ordF M n L P = ordF S n L P
  | 0, [], _ => rfl
  | 0, _ :: _, _ => rfl
  | _ + 1, [], _ => by simp [ordF]
  | n + 1, g :: L, P => by
    rw [ordF, ordF, fr_congr h P]
    cases (g :: L).filter (isFr S P) with
    | nil => rfl
    | cons k ks => simp only; rw [ord_congr h n]
end
theorem bodyOf_not : ∀ {ds : List (Str × List Str × T)} {a : Str}, a ∉ ds.map (·.1) → bodyOf ds a = .num 0
  | [], _, _ => rfl
  | (n, _, t) :: r, a, h => by
    rw [bodyOf, if_neg (fun z => h (by rw [← z]; simp)), bodyOf_not fun z => h (List.mem_cons_of_mem _ z)]
theorem men_iff {ds : List (Str × List Str × T)} {S : Str → List Str} (nd : (ds.map (·.1)).Nodup) (hr : ∀ p ∈ ds, RowOk (ds.map (·.1)) S p) (hs : ∀ a x, x ∈ S a → x ∈ ds.map (·.1)) (hz : ∀ a, a ∉ ds.map (·.1) → S a = []) (a x : Str) : x ∈ menN ds a ↔ x ∈ S a := by
  unfold menN
  rw [List.mem_filter, frN_mem, decide_eq_true_iff]
  by_cases ha : a ∈ ds.map (·.1)
  · obtain ⟨p, hp, rfl⟩ := List.mem_map.mp ha
    rw [bodyOf_mem nd hp]
    exact ⟨fun z => ((hr p hp).fr x z.2).mp z.1, fun z => ⟨((hr p hp).fr x (hs _ _ z)).mpr z, hs _ _ z⟩⟩
  · rw [bodyOf_not ha, hz a ha]
    simp [T.free]
theorem men_len {ds : List (Str × List Str × T)} (l : ds.length ≤ 9) (a : Str) (nd : (ds.map (·.1)).Nodup) : (menN ds a).length ≤ 60 := by
  have h1 : (menN ds a).Nodup := (frN_nodup _).sublist (List.filter_sublist ..)
  have := nodup_len h1 (N := ds.map (·.1)) fun x hx => of_decide_eq_true (List.mem_filter.mp hx).2
  rw [List.length_map] at this
  omega
theorem eq_g (r : List (List Str)) : eqD (.lst (r.map gD)) (.lst (r.map gD)) = some (.bl true) := by
  have hq : (D.lst (r.map gD)).plain = true := gDs_plain r
  have hd : (D.lst (r.map gD)).py.depth ≤ 5 := by
    have := gDs_depth r
    simp only [D.py, PyData.depth]; omega
  simp only [eqD, eqQ, eqG]
  rw [if_pos ⟨hq, hq, by omega⟩, eqv_refl _ hq]
  rfl
theorem ne_g (r : List (List Str)) : neD (.lst (r.map gD)) (.lst (r.map gD)) = some (.bl false) := by
  have hq : (D.lst (r.map gD)).plain = true := gDs_plain r
  have hd : (D.lst (r.map gD)).py.depth ≤ 5 := by
    have := gDs_depth r
    simp only [D.py, PyData.depth]; omega
  simp only [neD, neQ, eqG]
  rw [if_pos ⟨hq, hq, by omega⟩, eqv_refl _ hq]
  rfl
theorem groups_ok {ds : List (Str × List Str × T)} (T : Net (ds.map (·.1)) (menN ds)) (ok : ∀ p ∈ ds, p.2.2.Wk 3900 ∧ p.2.2.h < 100 ∧ p.2.2.z ≤ 400000) {r : List (List Str)} (hr : ordF (menN ds) (gpsOf (ds.map (·.1)) (menN ds)).length (gpsOf (ds.map (·.1)) (menN ds)) [] = some r) {Q : Sls → Sl → Prop}
    (h : Q [.im (.tup [.tup [], .tup (ds.map RwD)])] (.lst (r.map gD))) : W (m_groups_of [.im (.tup [.tup [], .tup (ds.map RwD)])]) Q := by
  delta m_groups_of
  symm_saturate
  refine grouped_ok T ok hr ?_
  symm_saturate
  exact h
theorem right_ok {q : Sd} {n : Nat} (hq : Ok5 q (n + 1000)) {Q : Sls → Sl → Prop} (h : ∀ q', Q [sdS q'] (.im (.bl true))) : W (m__law_right [sdS q]) Q := by
  delta m__law_right
  symm_saturate
  refine prog_ok (n := n) hq fun q1 ds S h1 len nd asc rows hs hl hz => ?_
  have mi := men_iff nd rows hs hz
  have sok : ∀ s ∈ ds.map (·.1), sOk s := fun s hs => asc_sOk (asc s hs)
  have len2 : (ds.map (·.1)).length ≤ 20 := by rw [List.length_map]; omega
  have T1 : Net (ds.map (·.1)) (menN ds) := ⟨nd, fun a _ b hb => hs a b ((mi a b).mp hb), fun a _ => men_len len a nd, len2, sok⟩
  have T2 : Net (ds.map (·.1)) S := ⟨nd, fun a _ b hb => hs a b hb, fun a _ => Nat.le_trans (hl a) (by decide), len2, sok⟩
  have G : GpsOk (ds.map (·.1)) S (ds.map (·.1)) (gpsOf (ds.map (·.1)) S) := by
    have key : ∀ (xs dn : List Str) (gs : List (List Str)), GpsOk (ds.map (·.1)) S dn gs → GpsOk (ds.map (·.1)) S (dn ++ xs) (xs.foldl (gpsF (ds.map (·.1)) S) gs) := by
      intro xs
      induction xs with
      | nil => intro dn gs h; rw [List.append_nil]; exact h
      | cons x xs ih => intro dn gs h; have := ih _ _ (gpsF_ok h x); rw [List.append_assoc] at this; exact this
    exact key (ds.map (·.1)) [] [] ⟨List.nodup_nil, (fun _ z => nomatch z), (fun _ z => nomatch z), Nat.le_refl _⟩
  obtain ⟨r, hr⟩ := ordF_some T2 (gpsOf (ds.map (·.1)) S).length (gpsOf (ds.map (·.1)) S) [] rfl (fun g hg => G.of g hg) fun a ha => .inr (G.all a ha)
  have hr1 : ordF (menN ds) (gpsOf (ds.map (·.1)) (menN ds)).length (gpsOf (ds.map (·.1)) (menN ds)) [] = some r := by
    rw [ord_congr mi, gps_congr mi]; exact hr
  have rl : r.length ≤ 20 := by
    have key : ∀ (n : Nat) (L : List (List Str)) (P : List Str) (r : List (List Str)), ordF S n L P = some r → r.length ≤ n := by
      intro n
      induction n with
      | zero => intro L P r h; cases L with
        | nil => cases h; exact Nat.le_refl _
        | cons _ _ => cases h
      | succ n ih =>
        intro L P r h
        by_cases z : L = []
        · subst z; simp [ordF] at h; subst h; exact Nat.zero_le _
        · obtain ⟨m, g, gs, r', em, _, eo, er⟩ := ordF_cons z h
          cases em
          have := ih _ _ _ eo
          rw [er, List.length_cons]; omega
    have := key _ _ _ _ hr
    have := G.len
    omega
  have wks : ∀ p ∈ ds, p.2.2.Wk 3900 ∧ p.2.2.h < 100 ∧ p.2.2.z ≤ 400000 := fun p hp => ⟨(rows p hp).wk, (rows p hp).h, (rows p hp).z⟩
  symm_saturate
  refine groups_ok T1 wks hr1 ?_
  symm_saturate
  refine w_lc_map RwD (fun p => .str p.1) (by simp only [List.length_nil]; omega) (fun p hp acc R hl hR => ?_) ?_
  · simp only [RwD] at hR ⊢
    symm_saturate
    exact ⟨hl, hR⟩
  symm_saturate
  have e1 : D.lst (ds.map fun p => .str p.1) = nD (ds.map (·.1)) := by
    unfold nD
    rw [List.map_map]
    rfl
  rw [e1]
  refine due_ok T2 hr ?_
  symm_saturate
  rw [show isaD [D.lst (r.map gD), D.ty "list"] = some (.bl true) from rfl]
  symm_saturate
  refine w_lc_map gD (fun _ => .bl true) (by simp only [List.length_nil]; omega) (fun p hp acc R hl hR => ?_) ?_
  · simp only [gD] at hR ⊢
    symm_saturate
    rw [show ∀ z, isaD [D.tup z, D.ty "tuple"] = some (.bl true) from fun _ => rfl]
    symm_saturate
    exact ⟨hl, hR⟩
  symm_saturate
  rw [all_map (fun _ => true) r, show (r.all fun _ => true) = true from by simp]
  symm_saturate
  rw [ne_g]
  symm_saturate
  refine ⟨Nat.lt_of_le_of_lt (show _ ≤ 20 by rw [List.length_reverse, List.length_map]; exact rl) (by decide), ?_⟩
  refine groups_ok T1 wks hr1 ?_
  symm_saturate
  rw [eq_g]
  symm_saturate
  exact h q1
theorem cell_ok {ns : List Int} (hb : ns.length ≤ 63) {k : Nat} {Q : Sls → Sl → Prop} (h : ∀ z, Q [.im (.lst (ns.map .int)), .im (.int (k : Int))] (.im (.int z))) : W (m__law_cell_at [.im (.lst (ns.map .int)), .im (.int (k : Int))]) Q := by
  delta m__law_cell_at
  symm_saturate
  refine w_if (fun c => ?_) (fun c => ?_)
  · symm_saturate
    rw [List.length_map] at c
    have hk : k < ns.length := by omega
    obtain ⟨d, hd, he⟩ := ix_lst (xs := ns.map .int) (r := (k : Int)) (by omega) (by rw [List.length_map]; omega)
    obtain ⟨z, _, rfl⟩ := List.mem_map.mp hd
    rw [he]
    symm_saturate
    exact h z
  · symm_saturate
    exact h 0
theorem math_law : ∀ ns : List Int, ns.length ≤ 63 → (∀ z ∈ ns, Builtin.Int.intBits z ≤ 1048576) → ∃ es', m_law [.im (scriptD ns)] = some (es', .im (.bl true)) := by
  intro ns hn hb
  suffices h : W (m_law [.im (scriptD ns)]) fun _ d => d = .im (.bl true) by
    obtain ⟨e, d, h1, rfl⟩ := h
    exact ⟨e, h1⟩
  delta m_law
  simp only [scriptD]
  symm_saturate
  simp only [List.length_map]
  obtain ⟨m, hm, em⟩ : ∃ m : Nat, m ≤ 8 ∧ (if (if (8 : Int) < (ns.length : Int) then (8 : Int) else (ns.length : Int)) > 1 then (if (8 : Int) < (ns.length : Int) then (8 : Int) else (ns.length : Int)) else 1) = (m : Int) := by
    by_cases z : (8 : Int) < (ns.length : Int)
    · rw [if_pos z]; exact ⟨8, by decide, rfl⟩
    · rw [if_neg z]
      split
      · exact ⟨ns.length, by omega, rfl⟩
      · exact ⟨1, by decide, rfl⟩
  rw [em, rng_n]
  refine ⟨rngB_n (by omega), ?_⟩
  refine w_for (fun ds e => ∃ s1, e = [.im (.lst (ns.map D.int)), s1] ∧ ∀ d ∈ ds, ∃ k : Nat, d = .int (k : Int) ∧ k ≤ 1000) ?_ ?_ ?_
  · refine ⟨_, rfl, fun d hd => ?_⟩
    obtain ⟨k, hk, rfl⟩ := List.mem_map.mp hd
    exact ⟨k, rfl, by have := List.mem_range.mp hk; omega⟩
  · rintro d ds e ⟨s1, rfl, hd⟩
    obtain ⟨k, rfl, hk⟩ := hd _ (List.mem_cons_self ..)
    symm_saturate
    refine cell_ok hn fun z => ?_
    symm_saturate
    refine bag_ok hk fun q hq => ?_
    symm_saturate
    refine right_ok (n := 0) (hq.le (by decide)) fun q' => ?_
    symm_saturate
    exact ⟨_, rfl, fun d hd2 => hd d (List.mem_cons_of_mem _ hd2)⟩
  · rintro e ⟨s1, rfl, hd⟩
    symm_saturate

set_option maxHeartbeats 4000000 in
theorem all_mk {l : PySem.W.OpenLaw} {w : World} {K : PySem.W.Frag} {h : Heap} {mg : Str → Option Value} {fa : Addr} (X : K.In h) (G : h.Ns mainGlobals mg) (hfa : mg "law" = some (.ref fa))  {f0 : Addr} {od0 an0 : Option Addr} {sl0 : Array (Option Value)} {oc0 kV0 dc0 pm0 cd0 ct0 : Value} {f1 : Addr} {od1 an1 : Option Addr} {sl1 : Array (Option Value)} {oc1 kV1 dc1 pm1 cd1 ct1 : Value} {f2 : Addr} {od2 an2 : Option Addr} {sl2 : Array (Option Value)} {oc2 kV2 dc2 pm2 cd2 ct2 : Value} {f3 : Addr} {od3 an3 : Option Addr} {sl3 : Array (Option Value)} {oc3 kV3 dc3 pm3 cd3 ct3 : Value} {f4 : Addr} {od4 an4 : Option Addr} {sl4 : Array (Option Value)} {oc4 kV4 dc4 pm4 cd4 ct4 : Value} {f5 : Addr} {od5 an5 : Option Addr} {sl5 : Array (Option Value)} {oc5 kV5 dc5 pm5 cd5 ct5 : Value} {f6 : Addr} {od6 an6 : Option Addr} {sl6 : Array (Option Value)} {oc6 kV6 dc6 pm6 cd6 ct6 : Value} {f7 : Addr} {od7 an7 : Option Addr} {sl7 : Array (Option Value)} {oc7 kV7 dc7 pm7 cd7 ct7 : Value} {f8 : Addr} {od8 an8 : Option Addr} {sl8 : Array (Option Value)} {oc8 kV8 dc8 pm8 cd8 ct8 : Value} {f9 : Addr} {od9 an9 : Option Addr} {sl9 : Array (Option Value)} {oc9 kV9 dc9 pm9 cd9 ct9 : Value} {f10 : Addr} {od10 an10 : Option Addr} {sl10 : Array (Option Value)} {oc10 kV10 dc10 pm10 cd10 ct10 : Value} {f11 : Addr} {od11 an11 : Option Addr} {sl11 : Array (Option Value)} {oc11 kV11 dc11 pm11 cd11 ct11 : Value} {f12 : Addr} {od12 an12 : Option Addr} {sl12 : Array (Option Value)} {oc12 kV12 dc12 pm12 cd12 ct12 : Value} {f13 : Addr} {od13 an13 : Option Addr} {sl13 : Array (Option Value)} {oc13 kV13 dc13 pm13 cd13 ct13 : Value} {f14 : Addr} {od14 an14 : Option Addr} {sl14 : Array (Option Value)} {oc14 kV14 dc14 pm14 cd14 ct14 : Value} {f15 : Addr} {od15 an15 : Option Addr} {sl15 : Array (Option Value)} {oc15 kV15 dc15 pm15 cd15 ct15 : Value} {f16 : Addr} {od16 an16 : Option Addr} {sl16 : Array (Option Value)} {oc16 kV16 dc16 pm16 cd16 ct16 : Value}
     (a0 : PySem.W.nsIn K mainGlobals "parts_of" = some (some (.ref f0))) (l0 : K.lookup f0 = some ⟨oc0, od0, .func (PySem.W.fnOf "parts_of" "parts_of" (defArgs (topS 1)) (defBody (topS 1)) (defScope (topS 1)) .none kV0 dc0 pm0 an0 cd0 ct0), sl0⟩) (c0 : PySem.W.codeIn K cd0 "parts_of" = true) (k0 : PySem.W.keepIn K (.ref f0) = true) (a1 : PySem.W.nsIn K mainGlobals "gather" = some (some (.ref f1))) (l1 : K.lookup f1 = some ⟨oc1, od1, .func (PySem.W.fnOf "gather" "gather" (defArgs (topS 3)) (defBody (topS 3)) (defScope (topS 3)) .none kV1 dc1 pm1 an1 cd1 ct1), sl1⟩) (c1 : PySem.W.codeIn K cd1 "gather" = true) (k1 : PySem.W.keepIn K (.ref f1) = true) (a2 : PySem.W.nsIn K mainGlobals "free_names" = some (some (.ref f2))) (l2 : K.lookup f2 = some ⟨oc2, od2, .func (PySem.W.fnOf "free_names" "free_names" (defArgs (topS 4)) (defBody (topS 4)) (defScope (topS 4)) .none kV2 dc2 pm2 an2 cd2 ct2), sl2⟩) (c2 : PySem.W.codeIn K cd2 "free_names" = true) (k2 : PySem.W.keepIn K (.ref f2) = true) (a3 : PySem.W.nsIn K mainGlobals "mentions_of" = some (some (.ref f3))) (l3 : K.lookup f3 = some ⟨oc3, od3, .func (PySem.W.fnOf "mentions_of" "mentions_of" (defArgs (topS 6)) (defBody (topS 6)) (defScope (topS 6)) .none kV3 dc3 pm3 an3 cd3 ct3), sl3⟩) (c3 : PySem.W.codeIn K cd3 "mentions_of" = true) (k3 : PySem.W.keepIn K (.ref f3) = true) (a4 : PySem.W.nsIn K mainGlobals "come_to" = some (some (.ref f4))) (l4 : K.lookup f4 = some ⟨oc4, od4, .func (PySem.W.fnOf "come_to" "come_to" (defArgs (topS 7)) (defBody (topS 7)) (defScope (topS 7)) .none kV4 dc4 pm4 an4 cd4 ct4), sl4⟩) (c4 : PySem.W.codeIn K cd4 "come_to" = true) (k4 : PySem.W.keepIn K (.ref f4) = true) (a5 : PySem.W.nsIn K mainGlobals "grouped" = some (some (.ref f5))) (l5 : K.lookup f5 = some ⟨oc5, od5, .func (PySem.W.fnOf "grouped" "grouped" (defArgs (topS 8)) (defBody (topS 8)) (defScope (topS 8)) .none kV5 dc5 pm5 an5 cd5 ct5), sl5⟩) (c5 : PySem.W.codeIn K cd5 "grouped" = true) (k5 : PySem.W.keepIn K (.ref f5) = true) (a6 : PySem.W.nsIn K mainGlobals "ordered" = some (some (.ref f6))) (l6 : K.lookup f6 = some ⟨oc6, od6, .func (PySem.W.fnOf "ordered" "ordered" (defArgs (topS 9)) (defBody (topS 9)) (defScope (topS 9)) .none kV6 dc6 pm6 an6 cd6 ct6), sl6⟩) (c6 : PySem.W.codeIn K cd6 "ordered" = true) (k6 : PySem.W.keepIn K (.ref f6) = true) (a7 : PySem.W.nsIn K mainGlobals "is_free" = some (some (.ref f7))) (l7 : K.lookup f7 = some ⟨oc7, od7, .func (PySem.W.fnOf "is_free" "is_free" (defArgs (topS 10)) (defBody (topS 10)) (defScope (topS 10)) .none kV7 dc7 pm7 an7 cd7 ct7), sl7⟩) (c7 : PySem.W.codeIn K cd7 "is_free" = true) (k7 : PySem.W.keepIn K (.ref f7) = true) (a8 : PySem.W.nsIn K mainGlobals "groups_of" = some (some (.ref f8))) (l8 : K.lookup f8 = some ⟨oc8, od8, .func (PySem.W.fnOf "groups_of" "groups_of" (defArgs (topS 12)) (defBody (topS 12)) (defScope (topS 12)) .none kV8 dc8 pm8 an8 cd8 ct8), sl8⟩) (c8 : PySem.W.codeIn K cd8 "groups_of" = true) (k8 : PySem.W.keepIn K (.ref f8) = true) (a9 : PySem.W.nsIn K mainGlobals "_law_cell_at" = some (some (.ref f9))) (l9 : K.lookup f9 = some ⟨oc9, od9, .func (PySem.W.fnOf "_law_cell_at" "_law_cell_at" (defArgs (topS 14)) (defBody (topS 14)) (defScope (topS 14)) .none kV9 dc9 pm9 an9 cd9 ct9), sl9⟩) (c9 : PySem.W.codeIn K cd9 "_law_cell_at" = true) (k9 : PySem.W.keepIn K (.ref f9) = true) (a10 : PySem.W.nsIn K mainGlobals "_law_bag" = some (some (.ref f10))) (l10 : K.lookup f10 = some ⟨oc10, od10, .func (PySem.W.fnOf "_law_bag" "_law_bag" (defArgs (topS 15)) (defBody (topS 15)) (defScope (topS 15)) .none kV10 dc10 pm10 an10 cd10 ct10), sl10⟩) (c10 : PySem.W.codeIn K cd10 "_law_bag" = true) (k10 : PySem.W.keepIn K (.ref f10) = true) (a11 : PySem.W.nsIn K mainGlobals "_law_draw" = some (some (.ref f11))) (l11 : K.lookup f11 = some ⟨oc11, od11, .func (PySem.W.fnOf "_law_draw" "_law_draw" (defArgs (topS 16)) (defBody (topS 16)) (defScope (topS 16)) .none kV11 dc11 pm11 an11 cd11 ct11), sl11⟩) (c11 : PySem.W.codeIn K cd11 "_law_draw" = true) (k11 : PySem.W.keepIn K (.ref f11) = true) (a12 : PySem.W.nsIn K mainGlobals "_law_holding" = some (some (.ref f12))) (l12 : K.lookup f12 = some ⟨oc12, od12, .func (PySem.W.fnOf "_law_holding" "_law_holding" (defArgs (topS 17)) (defBody (topS 17)) (defScope (topS 17)) .none kV12 dc12 pm12 an12 cd12 ct12), sl12⟩) (c12 : PySem.W.codeIn K cd12 "_law_holding" = true) (k12 : PySem.W.keepIn K (.ref f12) = true) (a13 : PySem.W.nsIn K mainGlobals "_law_program" = some (some (.ref f13))) (l13 : K.lookup f13 = some ⟨oc13, od13, .func (PySem.W.fnOf "_law_program" "_law_program" (defArgs (topS 18)) (defBody (topS 18)) (defScope (topS 18)) .none kV13 dc13 pm13 an13 cd13 ct13), sl13⟩) (c13 : PySem.W.codeIn K cd13 "_law_program" = true) (k13 : PySem.W.keepIn K (.ref f13) = true) (a14 : PySem.W.nsIn K mainGlobals "_law_due" = some (some (.ref f14))) (l14 : K.lookup f14 = some ⟨oc14, od14, .func (PySem.W.fnOf "_law_due" "_law_due" (defArgs (topS 19)) (defBody (topS 19)) (defScope (topS 19)) .none kV14 dc14 pm14 an14 cd14 ct14), sl14⟩) (c14 : PySem.W.codeIn K cd14 "_law_due" = true) (k14 : PySem.W.keepIn K (.ref f14) = true) (a15 : PySem.W.nsIn K mainGlobals "_law_right" = some (some (.ref f15))) (l15 : K.lookup f15 = some ⟨oc15, od15, .func (PySem.W.fnOf "_law_right" "_law_right" (defArgs (topS 20)) (defBody (topS 20)) (defScope (topS 20)) .none kV15 dc15 pm15 an15 cd15 ct15), sl15⟩) (c15 : PySem.W.codeIn K cd15 "_law_right" = true) (k15 : PySem.W.keepIn K (.ref f15) = true) (a16 : PySem.W.nsIn K mainGlobals "law" = some (some (.ref f16))) (l16 : K.lookup f16 = some ⟨oc16, od16, .func (PySem.W.fnOf "law" "law" (defArgs (topS 21)) (defBody (topS 21)) (defScope (topS 21)) .none kV16 dc16 pm16 an16 cd16 ct16), sl16⟩) (c16 : PySem.W.codeIn K cd16 "law" = true) (k16 : PySem.W.keepIn K (.ref f16) = true)  (z0 : PySem.W.nsIn K mainGlobals "all" = some none) (z1 : PySem.W.nsIn K mainGlobals "enumerate" = some none) (z2 : PySem.W.nsIn K mainGlobals "isinstance" = some none) (z3 : PySem.W.nsIn K mainGlobals "len" = some none) (z4 : PySem.W.nsIn K mainGlobals "list" = some none) (z5 : PySem.W.nsIn K mainGlobals "max" = some none) (z6 : PySem.W.nsIn K mainGlobals "min" = some none) (z7 : PySem.W.nsIn K mainGlobals "range" = some none) (z8 : PySem.W.nsIn K mainGlobals "sorted" = some none) (z9 : PySem.W.nsIn K mainGlobals "tuple" = some none) :
    ∃ fd : FuncData, (∀ (s : Shared) (v : Value), BindsTo s fd ⟨[v], []⟩ [("_law_script", v)]) ∧ ∀ base : Heap, K.In base → base.Ns mainGlobals mg → FnOk l.prog w K mg base CX0 37 fa fd ["_law_script"] (spTrue K) := by
  have e := hfa.symm.trans (PySem.W.mg_of X G a16)
  cases e
  have S0 : Src K mg "parts_of" (topS 1) ["term"] := src_mk X G a0 l0 c0 k0 (fun _ _ _ _ _ _ us hl => match us, hl with | [_], _ => rfl) (fun _ _ _ _ _ _ us hl => match us, hl with | [_], _ => rfl) (by simp)
  have S1 : Src K mg "gather" (topS 3) ["term", "bound", "found"] := src_mk X G a1 l1 c1 k1 (fun _ _ _ _ _ _ us hl => match us, hl with | [_, _, _], _ => rfl) (fun _ _ _ _ _ _ us hl => match us, hl with | [_, _, _], _ => rfl) (by simp)
  have S2 : Src K mg "free_names" (topS 4) ["term"] := src_mk X G a2 l2 c2 k2 (fun _ _ _ _ _ _ us hl => match us, hl with | [_], _ => rfl) (fun _ _ _ _ _ _ us hl => match us, hl with | [_], _ => rfl) (by simp)
  have S3 : Src K mg "mentions_of" (topS 6) ["defs"] := src_mk X G a3 l3 c3 k3 (fun _ _ _ _ _ _ us hl => match us, hl with | [_], _ => rfl) (fun _ _ _ _ _ _ us hl => match us, hl with | [_], _ => rfl) (by simp)
  have S4 : Src K mg "come_to" (topS 7) ["mentions", "name"] := src_mk X G a4 l4 c4 k4 (fun _ _ _ _ _ _ us hl => match us, hl with | [_, _], _ => rfl) (fun _ _ _ _ _ _ us hl => match us, hl with | [_, _], _ => rfl) (by simp)
  have S5 : Src K mg "grouped" (topS 8) ["defs"] := src_mk X G a5 l5 c5 k5 (fun _ _ _ _ _ _ us hl => match us, hl with | [_], _ => rfl) (fun _ _ _ _ _ _ us hl => match us, hl with | [_], _ => rfl) (by simp)
  have S6 : Src K mg "ordered" (topS 9) ["groups", "mentions"] := src_mk X G a6 l6 c6 k6 (fun _ _ _ _ _ _ us hl => match us, hl with | [_, _], _ => rfl) (fun _ _ _ _ _ _ us hl => match us, hl with | [_, _], _ => rfl) (by simp)
  have S7 : Src K mg "is_free" (topS 10) ["group", "mentions", "placed"] := src_mk X G a7 l7 c7 k7 (fun _ _ _ _ _ _ us hl => match us, hl with | [_, _, _], _ => rfl) (fun _ _ _ _ _ _ us hl => match us, hl with | [_, _, _], _ => rfl) (by simp)
  have S8 : Src K mg "groups_of" (topS 12) ["program"] := src_mk X G a8 l8 c8 k8 (fun _ _ _ _ _ _ us hl => match us, hl with | [_], _ => rfl) (fun _ _ _ _ _ _ us hl => match us, hl with | [_], _ => rfl) (by simp)
  have S9 : Src K mg "_law_cell_at" (topS 14) ["_law_script", "_law_k"] := src_mk X G a9 l9 c9 k9 (fun _ _ _ _ _ _ us hl => match us, hl with | [_, _], _ => rfl) (fun _ _ _ _ _ _ us hl => match us, hl with | [_, _], _ => rfl) (by simp)
  have S10 : Src K mg "_law_bag" (topS 15) ["_law_seed", "_law_place"] := src_mk X G a10 l10 c10 k10 (fun _ _ _ _ _ _ us hl => match us, hl with | [_, _], _ => rfl) (fun _ _ _ _ _ _ us hl => match us, hl with | [_, _], _ => rfl) (by simp)
  have S11 : Src K mg "_law_draw" (topS 16) ["_law_bag_here", "_law_many"] := src_mk X G a11 l11 c11 k11 (fun _ _ _ _ _ _ us hl => match us, hl with | [_, _], _ => rfl) (fun _ _ _ _ _ _ us hl => match us, hl with | [_, _], _ => rfl) (by simp)
  have S12 : Src K mg "_law_holding" (topS 17) ["_law_bag_here", "_law_some", "_law_params"] := src_mk X G a12 l12 c12 k12 (fun _ _ _ _ _ _ us hl => match us, hl with | [_, _, _], _ => rfl) (fun _ _ _ _ _ _ us hl => match us, hl with | [_, _, _], _ => rfl) (by simp)
  have S13 : Src K mg "_law_program" (topS 18) ["_law_bag_here"] := src_mk X G a13 l13 c13 k13 (fun _ _ _ _ _ _ us hl => match us, hl with | [_], _ => rfl) (fun _ _ _ _ _ _ us hl => match us, hl with | [_], _ => rfl) (by simp)
  have S14 : Src K mg "_law_due" (topS 19) ["_law_names", "_law_named"] := src_mk X G a14 l14 c14 k14 (fun _ _ _ _ _ _ us hl => match us, hl with | [_, _], _ => rfl) (fun _ _ _ _ _ _ us hl => match us, hl with | [_, _], _ => rfl) (by simp)
  have S15 : Src K mg "_law_right" (topS 20) ["_law_bag_here"] := src_mk X G a15 l15 c15 k15 (fun _ _ _ _ _ _ us hl => match us, hl with | [_], _ => rfl) (fun _ _ _ _ _ _ us hl => match us, hl with | [_], _ => rfl) (by simp)
  have S16 : Src K mg "law" (topS 21) ["_law_script"] := src_mk X G a16 l16 c16 k16 (fun _ _ _ _ _ _ us hl => match us, hl with | [_], _ => rfl) (fun _ _ _ _ _ _ us hl => match us, hl with | [_], _ => rfl) (by simp)
  have h0 := PySem.W.mg_none_of X G z0
  have h1 := PySem.W.mg_none_of X G z1
  have h2 := PySem.W.mg_none_of X G z2
  have h3 := PySem.W.mg_none_of X G z3
  have h4 := PySem.W.mg_none_of X G z4
  have h5 := PySem.W.mg_none_of X G z5
  have h6 := PySem.W.mg_none_of X G z6
  have h7 := PySem.W.mg_none_of X G z7
  have h8 := PySem.W.mg_none_of X G z8
  have h9 := PySem.W.mg_none_of X G z9
  exact law_end (by decide) h (fun base => w_all (P := l.prog) (w := w) (base := base) S0 S1 S2 S3 S4 S5 S6 S7 S8 S9 S10 S11 S12 S13 S14 S15 S16 h0 h1 h2 h3 h4 h5 h6 h7 h8 h9   ) (PySem.W.mg_of X G a16) math_law
end K21
open PySem PySem.W PyProof.Rows
set_option maxRecDepth 100000 in
set_option maxHeartbeats 0 in
theorem PySem.Challenge.cw_lateloom_k21_groups_holds : PySem.Challenge.rw_lateloom_k21_groups.Holds := by
  w_on; o_law; k_head; (case hw => w_witness2)
  k_fill
  refine L2.walk_ofB (l := PySem.Challenge.rw_lateloom_k21_groups) (n := 63) (x := "_law_script") (k := 37) (CX := fun _ => L2.CX0) (sp := fun w => M.spTrue _) rfl (by decide) rfl ⟨rfl, by decide, by decide⟩ (fun w h Y => PySem.W.kIn_of Y) ?F (fun _ _ a ns hl hb _ hS => ⟨a, ns, rfl, hS, hl, hb, fun _ => rfl⟩) (fun _ _ _ _ _ h => h)
  case F =>
    intro w mg fa h KX G hmg
    refine' K21.all_mk KX G hmg ?a0 ?l0 ?c0 ?k0 ?a1 ?l1 ?c1 ?k1 ?a2 ?l2 ?c2 ?k2 ?a3 ?l3 ?c3 ?k3 ?a4 ?l4 ?c4 ?k4 ?a5 ?l5 ?c5 ?k5 ?a6 ?l6 ?c6 ?k6 ?a7 ?l7 ?c7 ?k7 ?a8 ?l8 ?c8 ?k8 ?a9 ?l9 ?c9 ?k9 ?a10 ?l10 ?c10 ?k10 ?a11 ?l11 ?c11 ?k11 ?a12 ?l12 ?c12 ?k12 ?a13 ?l13 ?c13 ?k13 ?a14 ?l14 ?c14 ?k14 ?a15 ?l15 ?c15 ?k15 ?a16 ?l16 ?c16 ?k16 ?z0 ?z1 ?z2 ?z3 ?z4 ?z5 ?z6 ?z7 ?z8 ?z9
    (case a0 => k_is); (case l0 => k_is); (case c0 => k_is); (case k0 => k_is); (case a1 => k_is); (case l1 => k_is); (case c1 => k_is); (case k1 => k_is); (case a2 => k_is); (case l2 => k_is); (case c2 => k_is); (case k2 => k_is); (case a3 => k_is); (case l3 => k_is); (case c3 => k_is); (case k3 => k_is); (case a4 => k_is); (case l4 => k_is); (case c4 => k_is); (case k4 => k_is); (case a5 => k_is); (case l5 => k_is); (case c5 => k_is); (case k5 => k_is); (case a6 => k_is); (case l6 => k_is); (case c6 => k_is); (case k6 => k_is); (case a7 => k_is); (case l7 => k_is); (case c7 => k_is); (case k7 => k_is); (case a8 => k_is); (case l8 => k_is); (case c8 => k_is); (case k8 => k_is); (case a9 => k_is); (case l9 => k_is); (case c9 => k_is); (case k9 => k_is); (case a10 => k_is); (case l10 => k_is); (case c10 => k_is); (case k10 => k_is); (case a11 => k_is); (case l11 => k_is); (case c11 => k_is); (case k11 => k_is); (case a12 => k_is); (case l12 => k_is); (case c12 => k_is); (case k12 => k_is); (case a13 => k_is); (case l13 => k_is); (case c13 => k_is); (case k13 => k_is); (case a14 => k_is); (case l14 => k_is); (case c14 => k_is); (case k14 => k_is); (case a15 => k_is); (case l15 => k_is); (case c15 => k_is); (case k15 => k_is); (case a16 => k_is); (case l16 => k_is); (case c16 => k_is); (case k16 => k_is); (case z0 => k_is); (case z1 => k_is); (case z2 => k_is); (case z3 => k_is); (case z4 => k_is); (case z5 => k_is); (case z6 => k_is); (case z7 => k_is); (case z8 => k_is); (case z9 => k_is)
