import PyProof.Rows.All
import Wide.All
import OpenK.AllK
import Wide.FinOn
import HandS.ForMost
import HandS.Flow
import HandS.Wide
import HandS.IsInst
import HandS.TupAny
import HandS.Conv
import HandS.Walk
import HandS.EndBits
import HandS.More
import HandS.HeadHook3
import HandS.RaiseMore
import PyProof.Rows.ReprOcc
import PyProof.FitsInt
import PyProof.EnumMake
import KE.GoesMore
import HandS.SortOrd
import HandS.SortInts
import HandS.Style
import HandS.CallLocal
import HandS.Codes
import HandS.Strs
import PyProof.DictUpdate
import HandS.DictComp
import PyProof.AutoSeq1
import PyProof.ListStr
import PyProof.TupleOfStr
import PySem.Challenge.RW_lateloom_k52_rows_without_functions
set_option Elab.async false
set_option linter.all false
set_option maxRecDepth 100000
/-! The mirror layer: plain data D, slots Sl, and what it means that a reading does as a Lean function says. -/
namespace M
open PySem PySem.Spec PyProof.Rows L2

/-! ### data -/
inductive D where
  | non | bl (b : Bool) | int (i : Int) | str (s : Str) | lst (xs : List D) | tup (xs : List D) | dic (kvs : List (Key × D))
  | ty (n : String) | fn (x : Str) | ob (c : Str) (es : List (Key × D))

/-- signs of a text -/
def sOk (x : Str) : Prop := ∀ c ∈ x.cps.toList, c < 1114112
instance (x : Str) : Decidable (sOk x) := inferInstanceAs (Decidable (∀ c ∈ x.cps.toList, c < 1114112))
mutual
inductive Rp (K : PySem.W.Frag) (F : Hp) : V → D → Prop
  | non : Rp K F .non .non
  | bl (b : Bool) : Rp K F (.bl b) (.bl b)
  | int (i : Int) : Rp K F (.int i) (.int i)
  | str (x : Str) : sOk x → Rp K F (.str x) (.str x)
  | ty (n : String) : Rp K F (.ty n) (.ty n)
  | fn (x : Str) {a : Addr} : PySem.W.nsIn K mainGlobals x = some (some (.ref a)) → Rp K F (.ref a) (.fn x)
  | lst {a : Addr} {xs : List V} {ds : List D} : SqL K F a xs → Rps K F xs ds → Rp K F (.ref a) (.lst ds)
  | tup {a : Addr} {xs : List V} {ds : List D} : SqT K F a xs → Rps K F xs ds → Rp K F (.ref a) (.tup ds)
  | dic {a : Addr} {kvs : List (Key × V)} {es : List (Key × D)} : Rd F a (.dK kvs) → Rpk K F kvs es → Rp K F (.ref a) (.dic es)
  | ob {a C dx : Addr} {c : Str} {kvs : List (Str × V)} {es : List (Key × D)} : PySem.W.nsIn K mainGlobals c = some (some (.ref C)) → F a = some (.ins C dx kvs) → Rpk K F (kvs.map fun p => ((.inr p.1 : Key), p.2)) es → Rp K F (.ref a) (.ob c es)
inductive Rps (K : PySem.W.Frag) (F : Hp) : List V → List D → Prop
  | nil : Rps K F [] []
  | cons {v : V} {vs : List V} {d : D} {ds : List D} : Rp K F v d → Rps K F vs ds → Rps K F (v :: vs) (d :: ds)
inductive Rpk (K : PySem.W.Frag) (F : Hp) : List (Key × V) → List (Key × D) → Prop
  | nil : Rpk K F [] []
  | cons {k : Key} {v : V} {vs : List (Key × V)} {d : D} {ds : List (Key × D)} : Rp K F v d → Rpk K F vs ds → Rpk K F ((k, v) :: vs) ((k, d) :: ds)
end

theorem rd_mono {F F' : Hp} {a : Addr} {u : HO} (h : Same F F') (r : Rd F a u) : Rd F' a u := by
  rcases r with r | ⟨o, r⟩
  · exact .inl (h _ _ r)
  · exact .inr ⟨o, h _ _ r⟩
theorem sqt_mono {K : PySem.W.Frag} {F F' : Hp} {a : Addr} {xs : List V} (h : Same F F') (r : SqT K F a xs) : SqT K F' a xs := by
  rcases r with r | r
  · exact .inl (rd_mono h r)
  · exact .inr r
mutual
theorem Rp.mono {K : PySem.W.Frag} {F F' : Hp} (h : Same F F') : ∀ {v : V} {d : D}, Rp K F v d → Rp K F' v d
  | _, _, .non => .non
  | _, _, .bl b => .bl b
  | _, _, .int i => .int i
  | _, _, .str x h => .str x h
  | _, _, .ty n => .ty n
  | _, _, .fn x h => .fn x h
  | _, _, .lst s r => .lst (h.seq s) (Rps.mono h r)
  | _, _, .tup s r => .tup (sqt_mono h s) (Rps.mono h r)
  | _, _, .dic s r => .dic (rd_mono h s) (Rpk.mono h r)
  | _, _, .ob n s r => .ob n (h _ _ s) (Rpk.mono h r)
theorem Rps.mono {K : PySem.W.Frag} {F F' : Hp} (h : Same F F') : ∀ {v : List V} {d : List D}, Rps K F v d → Rps K F' v d
  | _, _, .nil => .nil
  | _, _, .cons a b => .cons (Rp.mono h a) (Rps.mono h b)
theorem Rpk.mono {K : PySem.W.Frag} {F F' : Hp} (h : Same F F') : ∀ {v : List (Key × V)} {d : List (Key × D)}, Rpk K F v d → Rpk K F' v d
  | _, _, .nil => .nil
  | _, _, .cons a b => .cons (Rp.mono h a) (Rpk.mono h b)
end
section
variable {K : PySem.W.Frag} {F : Hp}
theorem Rps.length : ∀ {xs : List V} {ds : List D}, Rps K F xs ds → xs.length = ds.length
  | _, _, .nil => rfl
  | _, _, .cons _ r => congrArg (· + 1) (Rps.length r)
theorem Rps.get : ∀ {xs : List V} {ds : List D} {i : Nat} {x : V}, Rps K F xs ds → xs[i]? = some x → ∃ d, ds[i]? = some d ∧ Rp K F x d
  | _, _, _, _, .nil, e => by simp at e
  | _, _, 0, _, .cons r _, e => by simp at e; subst e; exact ⟨_, rfl, r⟩
  | _, _, i + 1, x, .cons _ t, e => by
    obtain ⟨u, h1, h2⟩ := Rps.get (i := i) (x := x) t (by simpa using e)
    exact ⟨u, by simpa using h1, h2⟩
theorem Rps.getD : ∀ {xs : List V} {ds : List D} {i : Nat} {d : D}, Rps K F xs ds → ds[i]? = some d → ∃ x, xs[i]? = some x ∧ Rp K F x d
  | _, _, _, _, .nil, e => by simp at e
  | _, _, 0, _, .cons r _, e => by simp at e; subst e; exact ⟨_, rfl, r⟩
  | _, _, i + 1, x, .cons _ t, e => by
    obtain ⟨u, h1, h2⟩ := Rps.getD (i := i) (d := x) t (by simpa using e)
    exact ⟨u, by simpa using h1, h2⟩
theorem Rps.append : ∀ {xs ys : List V} {ds es : List D}, Rps K F xs ds → Rps K F ys es → Rps K F (xs ++ ys) (ds ++ es)
  | _, _, _, _, .nil, s => s
  | _, _, _, _, .cons r t, s => .cons r (Rps.append t s)
theorem Rps.drop : ∀ {xs : List V} {ds : List D} (n : Nat), Rps K F xs ds → Rps K F (xs.drop n) (ds.drop n)
  | _, _, 0, r => r
  | _, _, _ + 1, .nil => .nil
  | _, _, n + 1, .cons _ t => Rps.drop n t
theorem Rps.take : ∀ {xs : List V} {ds : List D} (n : Nat), Rps K F xs ds → Rps K F (xs.take n) (ds.take n)
  | _, _, 0, _ => .nil
  | _, _, _ + 1, .nil => .nil
  | _, _, n + 1, .cons r t => .cons r (Rps.take n t)
theorem Rps.set {x : V} {d : D} (r : Rp K F x d) : ∀ {xs : List V} {ds : List D} (i : Nat), Rps K F xs ds → Rps K F (xs.set i x) (ds.set i d)
  | _, _, _, .nil => .nil
  | _, _, 0, .cons _ t => .cons r t
  | _, _, i + 1, .cons q t => .cons q (Rps.set r i t)
theorem Rps.reverse : ∀ {xs : List V} {ds : List D}, Rps K F xs ds → Rps K F xs.reverse ds.reverse
  | _, _, .nil => .nil
  | _, _, .cons r t => by
    rw [List.reverse_cons, List.reverse_cons]
    exact Rps.append (Rps.reverse t) (.cons r .nil)
end

/-! ### slots -/
inductive Sl where
  /-- not known -/
  | un
  /-- data that stay -/
  | im (d : D)
  /-- a list, a dict of one's own, which may change -/
  | lst (ds : List D)
  | dic (kvs : List (Key × D))
def Sl.own : Sl → Bool
  | .lst _ => true
  | .dic _ => true
  | _ => false
abbrev Sls := List Sl

/-- a function's base: the frozen part and the heap at its entry, what it is not to touch, its leading parameters' values -/
structure Bs where
  F : Hp
  H : Hp
  G : Hp
  A : List V
  np : Nat

/-- an own object's content -/
inductive Ow (K : PySem.W.Frag) (F H : Hp) (a : Addr) : Sl → Prop
  | lst {xs : List V} {ds : List D} : H a = some (.lst xs) → Rps K F xs ds → Ow K F H a (.lst ds)
  | dic {kvs : List (Key × V)} {es : List (Key × D)} : H a = some (.dK kvs) → Rpk K F kvs es → Ow K F H a (.dic es)
/-- what a slot's value is -/
inductive SlV (K : PySem.W.Frag) (B : Bs) (F H : Hp) (anc : Bool) : Option V → Sl → Prop
  | un {v : Option V} : SlV K B F H anc v .un
  | im {v : V} {d : D} : Rp K F v d → SlV K B F H anc (some v) (.im d)
  | ow {a : Addr} {s : Sl} : Ow K F H a s → F a = none → B.G a = none → (anc = false → B.H a = none) → SlV K B F H anc (some (.ref a)) s

structure IV (K : PySem.W.Frag) (B : Bs) (F : Hp) (e : Sls) (σ : L2.St) (H : Hp) : Prop where
  sf : Same F H
  sg : Same B.G H
  g1 : Same B.F F
  g2 : ∀ b, F b = B.F b ∨ (B.F b = none ∧ B.H b = none ∧ B.G b = none)
  g3 : ∀ b, H b = none → B.H b = none
  len : e.length = σ.length
  sl : ∀ i s v, e[i]? = some s → σ[i]? = some v → SlV K B F H (decide (i < B.np)) v s
  ap : ∀ (i j : Nat) (s t : Sl), i ≠ j → e[i]? = some s → e[j]? = some t → s.own = true → t.own = true → σ[i]? ≠ σ[j]?
  an : ∀ i v, i < B.np → B.A[i]? = some v → σ[i]? = some (some v)

theorem Ow.own {K : PySem.W.Frag} {F H : Hp} {a : Addr} {s : Sl} (h : Ow K F H a s) : s.own = true := by cases h <;> rfl
theorem Ow.some {K : PySem.W.Frag} {F H : Hp} {a : Addr} {s : Sl} (h : Ow K F H a s) : H a ≠ none := by
  cases h with
  | lst h _ => rw [h]; exact fun z => nomatch z
  | dic h _ => rw [h]; exact fun z => nomatch z
theorem Ow.mono {K : PySem.W.Frag} {F F' H H' : Hp} {a : Addr} {s : Sl} (h : Ow K F H a s) (hf : Same F F') (hh : H' a = H a) : Ow K F' H' a s := by
  cases h with
  | lst h r => exact .lst (hh.trans h) (r.mono hf)
  | dic h r => exact .dic (hh.trans h) (r.mono hf)

/-- an own slot's address -/
theorem SlV.of_own {K : PySem.W.Frag} {B : Bs} {F H : Hp} {anc : Bool} {v : Option V} {s : Sl} (h : SlV K B F H anc v s) (o : s.own = true) :
    ∃ a, v = some (.ref a) ∧ Ow K F H a s ∧ F a = none ∧ B.G a = none ∧ (anc = false → B.H a = none) := by
  cases h with
  | un => cases o
  | im _ => cases o
  | ow h1 h2 h3 h4 => exact ⟨_, rfl, h1, h2, h3, h4⟩
theorem SlV.of_im {K : PySem.W.Frag} {B : Bs} {F H : Hp} {anc : Bool} {v : Option V} {d : D} (h : SlV K B F H anc v (.im d)) : ∃ x, v = some x ∧ Rp K F x d := by
  cases h with
  | im r => exact ⟨_, rfl, r⟩
  | ow h1 _ _ _ => cases h1

section
variable {K : PySem.W.Frag} {B : Bs} {F : Hp} {e : Sls} {σ : L2.St} {H : Hp}
theorem IV.slot (I : IV K B F e σ H) {i : Nat} {s : Sl} (h : e[i]? = some s) : ∃ v, σ[i]? = some v ∧ SlV K B F H (decide (i < B.np)) v s := by
  have hi : i < e.length := by
    rcases Nat.lt_or_ge i e.length with q | q
    · exact q
    · rw [List.getElem?_eq_none q] at h; cases h
  have hs : i < σ.length := by rw [← I.len]; exact hi
  exact ⟨σ[i], List.getElem?_eq_getElem hs, I.sl i s _ h (List.getElem?_eq_getElem hs)⟩
theorem IV.free (I : IV K B F e σ H) {p : Addr} (h : H p = none) : F p = none ∧ B.G p = none ∧ B.F p = none ∧ B.H p = none :=
  ⟨I.sf.free h, I.sg.free h, (I.g1.trans I.sf).free h, I.g3 p h⟩
/-- a new frozen object -/
theorem same_upd {H : Hp} {p : Addr} {o : HO} (h : H p = none) : Same H (upd H p o) := fun b u q => by
  rw [upd_ne (ne_of_none q h)]; exact q
theorem same_both {F H : Hp} {p : Addr} {o : HO} (h : Same F H) : Same (upd F p o) (upd H p o) := fun b u q => by
  by_cases z : b = p
  · subst z; rw [upd_same] at q ⊢; exact q
  · rw [upd_ne z] at q ⊢; exact h b u q
theorem IV.laid (I : IV K B F e σ H) {p : Addr} {o : HO} (h : H p = none) : IV K B (upd F p o) e σ (upd H p o) := by
  obtain ⟨f1, f2, f3, f4⟩ := I.free h
  refine ⟨same_both I.sf, fun b u q => ?_, I.g1.trans (same_upd f1), fun b => ?_, fun b q => ?_, I.len, fun i s v h1 h2 => ?_, I.ap, I.an⟩
  · rw [upd_ne (ne_of_none q f2)]; exact I.sg b u q
  · by_cases z : b = p
    · subst z; exact .inr ⟨f3, f4, f2⟩
    · rw [upd_ne z]; exact I.g2 b
  · by_cases z : b = p
    · subst z; exact f4
    · rw [upd_ne z] at q; exact I.g3 b q
  · have r := I.sl i s v h1 h2
    cases r with
    | un => exact .un
    | im r => exact .im (r.mono (same_upd f1))
    | ow r g1 g2 g3 =>
      have na : ∀ a : Addr, H a ≠ none → a ≠ p := fun a q z => by subst z; exact q h
      exact .ow (r.mono (same_upd f1) (upd_ne (na _ r.some))) (by rw [upd_ne (na _ r.some)]; exact g1) g2 g3
/-- a slot is stored: data that stay -/
theorem IV.set (I : IV K B F e σ H) {i : Nat} {v : V} {d : D} (hi : B.np ≤ i) (r : Rp K F v d) : IV K B F (e.set i (.im d)) (σ.set i (some v)) H := by
  refine ⟨I.sf, I.sg, I.g1, I.g2, I.g3, by rw [List.length_set, List.length_set]; exact I.len, fun j s w h1 h2 => ?_, fun j k s t hjk h1 h2 o1 o2 => ?_, fun j w hj hw => ?_⟩
  · by_cases z : i = j
    · subst z
      have hl : i < e.length := by
        rcases Nat.lt_or_ge i e.length with q | q
        · exact q
        · rw [List.getElem?_eq_none (by rw [List.length_set]; exact q)] at h1; cases h1
      rw [List.getElem?_set_self hl] at h1
      rw [List.getElem?_set_self (by rw [← I.len]; exact hl)] at h2
      cases h1; cases h2
      exact .im r
    · rw [List.getElem?_set_ne z] at h1 h2
      exact I.sl j s w h1 h2
  · have h0 : ∀ {m : Nat} {u : Sl}, (e.set i (.im d))[m]? = some u → u.own = true → i ≠ m ∧ e[m]? = some u := fun {m u} q o => by
      by_cases z : i = m
      · subst z
        have hl : i < e.length := by
          rcases Nat.lt_or_ge i e.length with q' | q'
          · exact q'
          · rw [List.getElem?_eq_none (by rw [List.length_set]; exact q')] at q; cases q
        rw [List.getElem?_set_self hl] at q
        cases q; cases o
      · rw [List.getElem?_set_ne z] at q
        exact ⟨z, q⟩
    obtain ⟨n1, q1⟩ := h0 h1 o1
    obtain ⟨n2, q2⟩ := h0 h2 o2
    rw [List.getElem?_set_ne n1, List.getElem?_set_ne n2]
    exact I.ap j k s t hjk q1 q2 o1 o2
  · rw [List.getElem?_set_ne (by omega)]
    exact I.an j w hj hw
/-- a slot is stored: an own object -/
theorem IV.setOw (I : IV K B F e σ H) {i : Nat} {a : Addr} {s0 : Sl} (hi : B.np ≤ i) (r : Ow K F H a s0) (f1 : F a = none) (f2 : B.G a = none) (f3 : B.H a = none)
    (hd : ∀ j s, j ≠ i → e[j]? = some s → s.own = true → σ[j]? ≠ some (some (.ref a))) : IV K B F (e.set i s0) (σ.set i (some (.ref a))) H := by
  have ll : ∀ {j : Nat} {u : Sl}, (e.set i s0)[j]? = some u → j < e.length := fun {j u} q => by
    rcases Nat.lt_or_ge j e.length with q' | q'
    · exact q'
    · rw [List.getElem?_eq_none (by rw [List.length_set]; exact q')] at q; cases q
  refine ⟨I.sf, I.sg, I.g1, I.g2, I.g3, by rw [List.length_set, List.length_set]; exact I.len, fun j s w h1 h2 => ?_, fun j k s t hjk h1 h2 o1 o2 => ?_, fun j w hj hw => ?_⟩
  · have hl := ll h1
    by_cases z : i = j
    · subst z
      rw [List.getElem?_set_self hl] at h1
      rw [List.getElem?_set_self (by rw [← I.len]; exact hl)] at h2
      cases h1; cases h2
      exact .ow r f1 f2 fun _ => f3
    · rw [List.getElem?_set_ne z] at h1 h2
      exact I.sl j s w h1 h2
  · have hl1 := ll h1
    have hl2 := ll h2
    by_cases z1 : i = j
    · subst z1
      rw [List.getElem?_set_ne hjk] at h2
      rw [List.getElem?_set_self (by rw [← I.len]; exact hl1), List.getElem?_set_ne hjk]
      exact fun q => hd k t (fun z => hjk z.symm) h2 o2 q.symm
    · by_cases z2 : i = k
      · subst z2
        rw [List.getElem?_set_ne z1] at h1
        rw [List.getElem?_set_self (by rw [← I.len]; exact hl2), List.getElem?_set_ne z1]
        exact fun q => hd j s hjk h1 o1 q
      · rw [List.getElem?_set_ne z1] at h1
        rw [List.getElem?_set_ne z2] at h2
        rw [List.getElem?_set_ne z1, List.getElem?_set_ne z2]
        exact I.ap j k s t hjk h1 h2 o1 o2
  · rw [List.getElem?_set_ne (by omega)]
    exact I.an j w hj hw
/-- an own object changes -/
theorem IV.turn (I : IV K B F e σ H) {i : Nat} {a : Addr} {s s' : Sl} {o : HO} (h : e[i]? = some s) (ho : s.own = true) (hv : σ[i]? = some (some (.ref a))) (r : Ow K F (upd H a o) a s') :
    IV K B F (e.set i s') σ (upd H a o) := by
  obtain ⟨a', e1, r0, f1, f2, f3⟩ := (I.sl i s _ h hv).of_own ho
  cases e1
  have hl : i < e.length := by
    rcases Nat.lt_or_ge i e.length with q | q
    · exact q
    · rw [List.getElem?_eq_none q] at h; cases h
  refine ⟨fun b u q => ?_, fun b u q => ?_, I.g1, I.g2, fun b q => ?_, by rw [List.length_set]; exact I.len, fun j t w h1 h2 => ?_, fun j k t u hjk h1 h2 o1 o2 => ?_, I.an⟩
  · rw [upd_ne (ne_of_none q f1)]; exact I.sf b u q
  · rw [upd_ne (ne_of_none q f2)]; exact I.sg b u q
  · by_cases z : b = a
    · subst z; rw [upd_same] at q; cases q
    · rw [upd_ne z] at q; exact I.g3 b q
  · by_cases z : i = j
    · subst z
      rw [List.getElem?_set_self hl] at h1
      rw [hv] at h2
      cases h1; cases h2
      exact .ow r f1 f2 f3
    · rw [List.getElem?_set_ne z] at h1
      have q := I.sl j t w h1 h2
      cases q with
      | un => exact .un
      | im q => exact .im q
      | ow q g1 g2 g3 =>
        rename_i b
        have nb : b ≠ a := fun y => by
          subst y
          exact I.ap i j s t z h h1 ho q.own (by rw [hv, h2])
        exact .ow (q.mono (Same.refl F) (upd_ne nb)) g1 g2 g3
  · have back : ∀ {m : Nat} {w : Sl}, (e.set i s')[m]? = some w → w.own = true → ∃ w', e[m]? = some w' ∧ w'.own = true := fun {m w} q o => by
      by_cases z : i = m
      · subst z; exact ⟨s, h, ho⟩
      · rw [List.getElem?_set_ne z] at q; exact ⟨w, q, o⟩
    obtain ⟨t', q1, p1⟩ := back h1 o1
    obtain ⟨u', q2, p2⟩ := back h2 o2
    exact I.ap j k t' u' hjk q1 q2 p1 p2
/-- a slot is forgotten -/
theorem IV.forget (I : IV K B F e σ H) (i : Nat) : IV K B F (e.set i .un) σ H := by
  refine ⟨I.sf, I.sg, I.g1, I.g2, I.g3, by rw [List.length_set]; exact I.len, fun j s w h1 h2 => ?_, fun j k s t hjk h1 h2 o1 o2 => ?_, I.an⟩
  · by_cases z : i = j
    · subst z
      rw [List.getElem?_set] at h1
      simp only [if_true] at h1
      split at h1
      · cases h1; exact .un
      · cases h1
    · rw [List.getElem?_set_ne z] at h1
      exact I.sl j s w h1 h2
  · have h0 : ∀ {m : Nat} {u : Sl}, (e.set i .un)[m]? = some u → u.own = true → e[m]? = some u := fun {m u} q o => by
      by_cases z : i = m
      · subst z
        rw [List.getElem?_set] at q
        simp only [if_true] at q
        split at q
        · cases q; cases o
        · cases q
      · rw [List.getElem?_set_ne z] at q
        exact q
    exact I.ap j k s t hjk (h0 h1 o1) (h0 h2 o2) o1 o2
end
end M

namespace M
open PySem PySem.Spec PyProof.Rows L2

/-! ### peeking: what an own object holds now -/
inductive RpO (K : PySem.W.Frag) (F H : Hp) : V → D → Prop
  | rp {v : V} {d : D} : Rp K F v d → RpO K F H v d
  | lst {a : Addr} {xs : List V} {ds : List D} : H a = some (.lst xs) → Rps K F xs ds → RpO K F H (.ref a) (.lst ds)
  | dic {a : Addr} {kvs : List (Key × V)} {es : List (Key × D)} : H a = some (.dK kvs) → Rpk K F kvs es → RpO K F H (.ref a) (.dic es)
inductive RpOs (K : PySem.W.Frag) (F H : Hp) : List V → List D → Prop
  | nil : RpOs K F H [] []
  | cons {v : V} {vs : List V} {d : D} {ds : List D} : RpO K F H v d → RpOs K F H vs ds → RpOs K F H (v :: vs) (d :: ds)
def Sl.see : Sl → Option D
  | .un => none
  | .im d => some d
  | .lst ds => some (.lst ds)
  | .dic es => some (.dic es)
def peek (i : Nat) (e : Sls) : Option D := e[i]?.bind Sl.see

abbrev FE := Sls → Option (Sls × D)
abbrev FK := Sls → Option (Sls × (Sls → Option D))
abbrev FKs := Sls → Option (Sls × (Sls → Option (List D)))
abbrev FEs := Sls → Option (Sls × List D)
abbrev FT := Sls → Option (Sls × Bool)

/-! ### what a reading does, by a function -/
def DE (K : PySem.W.Frag) (np : Nat) (t : TE) (f : FE) : Prop :=
  ∀ (B : Bs) (F : Hp) (e : Sls) (σ : L2.St) (H : Hp) (Q : VK), B.np = np → IV K B F e σ H → ∀ (e' : Sls) (d : D), f e = some (e', d) →
    (∀ (F' : Hp) (v : V) (H' : Hp), Same F F' → IV K B F' e' σ H' → Rp K F' v d → Q v H') → t σ H Q
def DK (K : PySem.W.Frag) (np : Nat) (t : TE) (f : FK) : Prop :=
  ∀ (B : Bs) (F : Hp) (e : Sls) (σ : L2.St) (H : Hp) (Q : VK), B.np = np → IV K B F e σ H → ∀ (e' : Sls) (r : Sls → Option D), f e = some (e', r) →
    (∀ (F' : Hp) (v : V) (H' : Hp), Same F F' → IV K B F' e' σ H' →
      (∀ (F2 : Hp) (e2 : Sls) (H2 : Hp) (d : D), Same F' F2 → IV K B F2 e2 σ H2 → r e2 = some d → RpO K F2 H2 v d) → Q v H') → t σ H Q
def DT (K : PySem.W.Frag) (np : Nat) (t : TT) (f : FT) : Prop :=
  ∀ (B : Bs) (F : Hp) (e : Sls) (σ : L2.St) (H : Hp) (Q : Bool → Hp → Prop), B.np = np → IV K B F e σ H → ∀ (e' : Sls) (b : Bool), f e = some (e', b) →
    (∀ (F' : Hp) (H' : Hp), Same F F' → IV K B F' e' σ H' → Q b H') → t σ H Q
def DEs (K : PySem.W.Frag) (np : Nat) (n : Nat) (t : TA) (f : FEs) : Prop :=
  ∀ (B : Bs) (F : Hp) (e : Sls) (σ : L2.St) (H : Hp) (Q : List V → Hp → Prop), B.np = np → IV K B F e σ H → ∀ (e' : Sls) (ds : List D), f e = some (e', ds) →
    (∀ (F' : Hp) (vs : List V) (H' : Hp), Same F F' → IV K B F' e' σ H' → Rps K F' vs ds → vs.length = n → Q vs H') → t σ H Q
def DKs (K : PySem.W.Frag) (np : Nat) (t : TA) (f : FKs) : Prop :=
  ∀ (B : Bs) (F : Hp) (e : Sls) (σ : L2.St) (H : Hp) (Q : List V → Hp → Prop), B.np = np → IV K B F e σ H → ∀ (e' : Sls) (r : Sls → Option (List D)), f e = some (e', r) →
    (∀ (F' : Hp) (vs : List V) (H' : Hp), Same F F' → IV K B F' e' σ H' →
      (∀ (F2 : Hp) (e2 : Sls) (H2 : Hp) (ds : List D), Same F' F2 → IV K B F2 e2 σ H2 → r e2 = some ds → RpOs K F2 H2 vs ds) → Q vs H') → t σ H Q

structure JE (X : Cx) (np : Nat) (e : Expr) (t : TE) (f : FE) : Prop where
  pe : PE X e t
  de : DE X.K np t f
structure JK (X : Cx) (np : Nat) (e : Expr) (t : TE) (f : FK) : Prop where
  pe : PE X e t
  de : DK X.K np t f
structure JT (X : Cx) (np : Nat) (e : Expr) (t : TT) (f : FT) : Prop where
  pt : PT X e t
  de : DT X.K np t f
structure JW (X : Cx) (np : Nat) (e : Expr) (t : TT) (f : FT) : Prop where
  pw : PW X e t
  de : DT X.K np t f
structure JEs (X : Cx) (np : Nat) (es : List Expr) (n : Nat) (t : TA) (f : FEs) : Prop where
  pa : PA X es t
  de : DEs X.K np n t f
structure JKs (X : Cx) (np : Nat) (es : List Expr) (t : TA) (f : FKs) : Prop where
  pa : PA X es t
  de : DKs X.K np t f

/-! ### the functions -/
def kE (f : FE) : FK := fun e => (f e).bind fun p => some (p.1, fun _ => some p.2)
def kVar (i : Nat) : FK := fun e => (peek i e).bind fun _ => some (e, peek i)
def fC (d : D) : FE := fun e => some (e, d)
/-- a name's value, kept from now on -/
def fV (np i : Nat) : FE := fun e => match e[i]? with
  | some (.im d) => some (e, d)
  | some (.lst ds) => if np ≤ i then some (e.set i (.im (.lst ds)), .lst ds) else none
  | some (.dic es) => if np ≤ i then some (e.set i (.im (.dic es)), .dic es) else none
  | _ => none
def fOp (g : D → D → Option D) (ka kb : FK) : FE := fun e => (ka e).bind fun p => (kb p.1).bind fun q => (p.2 q.1).bind fun x => (q.2 q.1).bind fun y => (g x y).bind fun d => some (q.1, d)
def fUn (g : D → Option D) (ka : FK) : FE := fun e => (ka e).bind fun p => (p.2 p.1).bind fun x => (g x).bind fun d => some (p.1, d)
def fTest (f : FE) : FT := fun e => (f e).bind fun p => match p.2 with | .bl b => some (p.1, b) | _ => none
def fTru (g : D → Option Bool) (ka : FK) : FT := fun e => (ka e).bind fun p => (p.2 p.1).bind fun x => (g x).bind fun b => some (p.1, b)
def fAnd (f g : FT) : FT := fun e => (f e).bind fun p => if p.2 = true then g p.1 else some (p.1, false)
def fOr (f g : FT) : FT := fun e => (f e).bind fun p => if p.2 = true then some (p.1, true) else g p.1
def fNot (f : FT) : FT := fun e => (f e).bind fun p => some (p.1, !p.2)
def fAndV (f g : FE) : FE := fun e => (f e).bind fun p => match p.2 with | .bl b => if b = true then g p.1 else some (p.1, .bl false) | _ => none
def fOrV (f g : FE) : FE := fun e => (f e).bind fun p => match p.2 with | .bl b => if b = true then some (p.1, .bl true) else g p.1 | _ => none
def fNotV (f : FE) : FE := fun e => (f e).bind fun p => match p.2 with | .bl b => some (p.1, .bl (!b)) | _ => none
def fIfE (c : FT) (f g : FE) : FE := fun e => (c e).bind fun p => if p.2 = true then f p.1 else g p.1
def fNil : FEs := fun e => some (e, [])
def fCons (f : FE) (g : FEs) : FEs := fun e => (f e).bind fun p => (g p.1).bind fun q => some (q.1, p.2 :: q.2)
def kNil : FKs := fun e => some (e, fun _ => some [])
def kCons (f : FK) (g : FKs) : FKs := fun e => (f e).bind fun p => (g p.1).bind fun q => some (q.1, fun e2 => (p.2 e2).bind fun d => (q.2 e2).bind fun ds => some (d :: ds))
def fTup (f : FEs) : FE := fun e => (f e).bind fun p => some (p.1, .tup p.2)
def fLst (f : FEs) : FE := fun e => (f e).bind fun p => some (p.1, .lst p.2)
def fCB (g : List D → Option D) (k : FKs) : FE := fun e => (k e).bind fun p => (p.2 p.1).bind fun ds => (g ds).bind fun d => some (p.1, d)

theorem bnd {α β : Type} {o : Option α} {k : α → Option β} {r : β} (h : o.bind k = some r) : ∃ a, o = some a ∧ k a = some r := by
  cases o with
  | none => cases h
  | some a => exact ⟨a, rfl, h⟩

/-! ### the values' rules -/
def OpM (K : PySem.W.Frag) (r : R2) (g : D → D → Option D) : Prop :=
  ∀ (B : Bs) (F : Hp) (e : Sls) (σ : L2.St) (H : Hp) (x y : V) (dx dy d : D) (Q : VK), IV K B F e σ H → RpO K F H x dx → RpO K F H y dy → g dx dy = some d →
    (∀ (F' : Hp) (v : V) (H' : Hp), Same F F' → IV K B F' e σ H' → Rp K F' v d → Q v H') → r x y H Q
def UnM (K : PySem.W.Frag) (r : V → Hp → VK → Prop) (g : D → Option D) : Prop :=
  ∀ (B : Bs) (F : Hp) (e : Sls) (σ : L2.St) (H : Hp) (x : V) (dx d : D) (Q : VK), IV K B F e σ H → RpO K F H x dx → g dx = some d →
    (∀ (F' : Hp) (v : V) (H' : Hp), Same F F' → IV K B F' e σ H' → Rp K F' v d → Q v H') → r x H Q
def CallM (K : PySem.W.Frag) (r : List V → Hp → VK → Prop) (g : List D → Option D) : Prop :=
  ∀ (B : Bs) (F : Hp) (e : Sls) (σ : L2.St) (H : Hp) (xs : List V) (ds : List D) (d : D) (Q : VK), IV K B F e σ H → RpOs K F H xs ds → g ds = some d →
    (∀ (F' : Hp) (v : V) (H' : Hp), Same F F' → IV K B F' e σ H' → Rp K F' v d → Q v H') → r xs H Q

section
variable {X : Cx} {np : Nat}

theorem IV.seen {K : PySem.W.Frag} {B : Bs} {F : Hp} {e : Sls} {σ : L2.St} {H : Hp} (I : IV K B F e σ H) {i : Nat} {v : V} {d : D} (hv : σ[i]? = some (some v)) (h : peek i e = some d) : RpO K F H v d := by
  obtain ⟨s, h1, h2⟩ := bnd h
  have q := I.sl i s _ h1 hv
  cases s with
  | un => cases h2
  | im d' =>
    cases h2
    obtain ⟨x, e1, r⟩ := q.of_im
    cases e1
    exact .rp r
  | lst ds =>
    cases h2
    obtain ⟨a, e1, r, _⟩ := q.of_own rfl
    cases e1
    cases r with
    | lst r1 r2 => exact .lst r1 r2
  | dic es =>
    cases h2
    obtain ⟨a, e1, r, _⟩ := q.of_own rfl
    cases e1
    cases r with
    | dic r1 r2 => exact .dic r1 r2
theorem IV.val {K : PySem.W.Frag} {B : Bs} {F : Hp} {e : Sls} {σ : L2.St} {H : Hp} (I : IV K B F e σ H) {i : Nat} {d : D} (h : peek i e = some d) : ∃ v, σ[i]? = some (some v) := by
  obtain ⟨s, h1, h2⟩ := bnd h
  obtain ⟨v, hv, q⟩ := I.slot h1
  cases q with
  | un => cases h2
  | im r => exact ⟨_, hv⟩
  | ow _ _ _ _ => exact ⟨_, hv⟩
theorem IV.freeze {K : PySem.W.Frag} {B : Bs} {F : Hp} {e : Sls} {σ : L2.St} {H : Hp} (I : IV K B F e σ H) {i : Nat} {s : Sl} {d : D} (h : e[i]? = some s) (ho : s.own = true) (hs : s.see = some d) (hi : B.np ≤ i) :
    ∃ (F' : Hp) (v : V), σ[i]? = some (some v) ∧ Same F F' ∧ IV K B F' (e.set i (.im d)) σ H ∧ Rp K F' v d := by
  obtain ⟨v, hv, q⟩ := I.slot h
  obtain ⟨a, e1, r, f1, f2, f3⟩ := q.of_own ho
  subst e1
  have f3' := f3 (by simp; omega)
  obtain ⟨o, ha⟩ : ∃ o, H a = some o := by
    cases z : H a with
    | none => exact absurd z r.some
    | some o => exact ⟨o, rfl⟩
  have sm : Same F (upd F a o) := same_upd f1
  have rr : Rp K (upd F a o) (.ref a) d := by
    cases r with
    | lst r1 r2 =>
      cases hs
      rw [ha] at r1
      cases r1
      exact .lst (.inl (.inl upd_same)) (r2.mono sm)
    | dic r1 r2 =>
      cases hs
      rw [ha] at r1
      cases r1
      exact .dic (.inl upd_same) (r2.mono sm)
  refine ⟨upd F a o, .ref a, hv, sm, ⟨fun b u q => ?_, I.sg, I.g1.trans sm, fun b => ?_, I.g3, by rw [List.length_set]; exact I.len, fun j t w h1 h2 => ?_, fun j k t u hjk h1 h2 o1 o2 => ?_, I.an⟩, rr⟩
  · by_cases z : b = a
    · subst z; rw [upd_same] at q; rw [ha]; exact q
    · rw [upd_ne z] at q; exact I.sf b u q
  · by_cases z : b = a
    · subst z; exact .inr ⟨I.g1.free f1, f3', f2⟩
    · rw [upd_ne z]; exact I.g2 b
  · by_cases z : i = j
    · subst z
      have hl : i < e.length := by
        rcases Nat.lt_or_ge i e.length with q' | q'
        · exact q'
        · rw [List.getElem?_eq_none q'] at h; cases h
      rw [List.getElem?_set_self hl] at h1
      rw [hv] at h2
      cases h1; cases h2
      exact .im rr
    · rw [List.getElem?_set_ne z] at h1
      have q := I.sl j t w h1 h2
      cases q with
      | un => exact .un
      | im q => exact .im (q.mono sm)
      | ow r1 g1 g2 g3 =>
        rename_i b
        have nb : b ≠ a := fun y => by
          rw [y] at h2
          exact I.ap i j s t z h h1 ho r1.own (by rw [hv, h2])
        exact .ow (r1.mono sm rfl) (by rw [upd_ne nb]; exact g1) g2 g3
  · have h0 : ∀ {m : Nat} {u : Sl}, (e.set i (.im d))[m]? = some u → u.own = true → e[m]? = some u := fun {m u} q o => by
      by_cases z : i = m
      · subst z
        rw [List.getElem?_set] at q
        simp only [if_true] at q
        split at q
        · cases q; cases o
        · cases q
      · rw [List.getElem?_set_ne z] at q
        exact q
    exact I.ap j k t u hjk (h0 h1 o1) (h0 h2 o2) o1 o2

/-! ### expressions -/
theorem JE.k {e : Expr} {t : TE} {f : FE} (h : JE X np e t f) : JK X np e t (kE f) := by
  refine ⟨h.pe, fun B F e σ H Q hn I e' r hf q => ?_⟩
  obtain ⟨⟨e1, d⟩, h1, h2⟩ := bnd hf
  cases h2
  exact h.de B F e σ H Q hn I e1 d h1 fun F' v H' s I' rp => q F' v H' s I' fun F2 e2 H2 d2 s2 I2 hd => by
    cases hd
    exact .rp (rp.mono s2)
theorem jk_var (i : Nat) {x : Str} {pos : Pos} (h : PE X (.Name x pos) (tVar i)) : JK X np (.Name x pos) (tVar i) (kVar i) := by
  refine ⟨h, fun B F e σ H Q hn I e' r hf q => ?_⟩
  obtain ⟨d, h1, h2⟩ := bnd hf
  cases h2
  obtain ⟨v, hv⟩ := I.val h1
  exact ⟨v, hv, q F v H (Same.refl F) I fun F2 e2 H2 d2 s2 I2 hd => I2.seen hv hd⟩
theorem je_var (i : Nat) {x : Str} {pos : Pos} (h : PE X (.Name x pos) (tVar i)) : JE X np (.Name x pos) (tVar i) (fV np i) := by
  refine ⟨h, fun B F e σ H Q hn I e' d hf q => ?_⟩
  unfold fV at hf
  split at hf
  · rename_i d' hd
    cases hf
    obtain ⟨v, hv, r0⟩ := I.slot hd
    obtain ⟨x, e1, r1⟩ := r0.of_im
    rw [e1] at hv
    exact ⟨x, hv, q F x H (Same.refl F) I r1⟩
  · rename_i ds hd
    split at hf
    · rename_i hi
      cases hf
      obtain ⟨F', v, hv, s, I', r⟩ := I.freeze (d := .lst ds) hd rfl rfl (by rw [hn]; exact hi)
      exact ⟨v, hv, q F' v H s I' r⟩
    · cases hf
  · rename_i ds hd
    split at hf
    · rename_i hi
      cases hf
      obtain ⟨F', v, hv, s, I', r⟩ := I.freeze (d := .dic ds) hd rfl rfl (by rw [hn]; exact hi)
      exact ⟨v, hv, q F' v H s I' r⟩
    · cases hf
  · cases hf
theorem je_c {e : Expr} {v : V} {d : D} (h : PE X e (tC v)) (r : ∀ F, Rp X.K F v d) : JE X np e (tC v) (fC d) := by
  refine ⟨h, fun B F e σ H Q hn I e' d hf q => ?_⟩
  cases hf
  exact q F v H (Same.refl F) I (r F)
theorem je_int {i j pos} : JE X np (.Constant (.int i) j pos) (tC (.int i)) (fC (.int i)) := je_c pe_int fun _ => .int i
theorem je_bl {b j pos} : JE X np (.Constant (.bool b) j pos) (tC (.bl b)) (fC (.bl b)) := je_c pe_bl fun _ => .bl b
theorem je_non {j pos} : JE X np (.Constant .none j pos) (tC .non) (fC .non) := je_c pe_non fun _ => .non
theorem je_str {x j pos} (h : sOk x := by decide +kernel) : JE X np (.Constant (.str x) j pos) (tC (.str x)) (fC (.str x)) := je_c pe_str fun _ => .str x h
theorem de_op {K : PySem.W.Frag} {ta tb : TE} {ka kb : FK} {r : R2} {g : D → D → Option D} (ha : DK K np ta ka) (hb : DK K np tb kb) (hm : OpM K r g) : DE K np (tOp r ta tb) (fOp g ka kb) := by
  intro B F e σ H Q hn I e' d hf q
  obtain ⟨⟨e1, ra⟩, h1, hf⟩ := bnd hf
  obtain ⟨⟨e2, rb⟩, h2, hf⟩ := bnd hf
  obtain ⟨x, h3, hf⟩ := bnd hf
  obtain ⟨y, h4, hf⟩ := bnd hf
  obtain ⟨d', h5, hf⟩ := bnd hf
  cases hf
  refine ha B F e σ H _ hn I e1 ra h1 fun F1 v1 H1 s1 I1 l1 => ?_
  refine hb B F1 e1 σ H1 _ hn I1 e2 rb h2 fun F2 v2 H2 s2 I2 l2 => ?_
  exact hm B F2 e2 σ H2 v1 v2 x y d Q I2 (l1 F2 e2 H2 x s2 I2 h3) (l2 F2 e2 H2 y (Same.refl _) I2 h4) h5 fun F' v H' s I' rp => q F' v H' (s1.trans (s2.trans s)) I' rp
section
variable {a b c : Expr} {ta tb : TE} {ka kb : FK} {fa fb : FE} {tA tB' tC' : TT} {gA gB : FT} {pos : Pos} {rest : List Expr}
theorem je_op {op : Operator} {r : R2} {g : D → D → Option D} (ho : OpR X (binaryOp op) r) (hm : OpM X.K r g) (ha : JK X np a ta ka) (hb : JK X np b tb kb) : JE X np (.BinOp a op b pos) (tOp r ta tb) (fOp g ka kb) :=
  ⟨pe_op ho ha.pe hb.pe, de_op ha.de hb.de hm⟩
theorem je_cmp {op : CmpOp} {r : R2} {g : D → D → Option D} (ho : OpR X (compareOp op) r) (hm : OpM X.K r g) (ha : JK X np a ta ka) (hb : JK X np b tb kb) (hk : behindInMarks op b = false) : JE X np (.Compare a [op] [b] pos) (tOp r ta tb) (fOp g ka kb) :=
  ⟨pe_cmpR ho ha.pe hb.pe hk, de_op ha.de hb.de hm⟩
theorem je_ix {r : R2} {g : D → D → Option D} (ho : IxR X r) (hm : OpM X.K r g) (ha : JK X np a ta ka) (hb : JK X np b tb kb) (hs : PlainIx b) : JE X np (.Subscript a b pos) (tOp r ta tb) (fOp g ka kb) :=
  ⟨pe_ix ho ha.pe hb.pe hs, de_op ha.de hb.de hm⟩
theorem je_un {op : UnaryOp} {r : V → Hp → VK → Prop} {g : D → Option D} (ho : UnR X (unaryOp op) r) (hm : UnM X.K r g) (ha : JK X np a ta ka) : JE X np (.UnaryOp op a pos) (tUn r ta) (fUn g ka) := by
  refine ⟨pe_un ho ha.pe, fun B F e σ H Q hn I e' d hf q => ?_⟩
  obtain ⟨⟨e1, ra⟩, h1, hf⟩ := bnd hf
  obtain ⟨x, h3, hf⟩ := bnd hf
  obtain ⟨d', h5, hf⟩ := bnd hf
  cases hf
  refine ha.de B F e σ H _ hn I e1 ra h1 fun F1 v1 H1 s1 I1 l1 => ?_
  exact hm B F1 e1 σ H1 v1 x d Q I1 (l1 F1 e1 H1 x (Same.refl _) I1 h3) h5 fun F' v H' s I' rp => q F' v H' (s1.trans s) I' rp
theorem dt_test {K : PySem.W.Frag} {t : TE} {f : FE} (h : DE K np t f) : DT K np (tTest t) (fTest f) := by
  intro B F e σ H Q hn I e' b hf q
  obtain ⟨⟨e1, d⟩, h1, hf⟩ := bnd hf
  refine h B F e σ H _ hn I e1 d h1 fun F' v H' s I' rp => ?_
  cases d with
  | bl k =>
    cases hf
    cases rp
    exact ⟨b, rfl, q F' H' s I'⟩
  | _ => cases hf
theorem jt_cmp {op : CmpOp} {r : R2} {g : D → D → Option D} (ho : OpR X (compareOp op) r) (hm : OpM X.K r g) (ha : JK X np a ta ka) (hb : JK X np b tb kb) (hk : behindInMarks op b = false) :
    JT X np (.Compare a [op] [b] pos) (tTest (tOp r ta tb)) (fTest (fOp g ka kb)) := ⟨pt_cmpR ho ha.pe hb.pe hk, dt_test (de_op ha.de hb.de hm)⟩
theorem jt_val (h : JE X np a ta fa) (he : ∀ whole, isTrue a X.env whole = (do let v ← whole; standAt a.pos; holding [v] (truthy v)) := by intro _; rfl) : JT X np a (L2.tB ta) (fTest fa) := by
  refine ⟨pt_val h.pe he, fun B F e σ H Q hn I e' b hf q => ?_⟩
  exact dt_test h.de B F e σ H Q hn I e' b hf q
theorem jw_and1 (h : JT X np a tA gA) : JW X np (.BoolOp .And [a] pos) tA gA := ⟨pw_and1 h.pt, h.de⟩
theorem jw_or1 (h : JT X np a tA gA) : JW X np (.BoolOp .Or [a] pos) tA gA := ⟨pw_or1 h.pt, h.de⟩
theorem jw_and (h : JT X np a tA gA) (h2 : JW X np (.BoolOp .And (b :: rest) pos) tB' gB) : JW X np (.BoolOp .And (a :: b :: rest) pos) (tAnd tA tB') (fAnd gA gB) := by
  refine ⟨pw_and h.pt h2.pw, fun B F e σ H Q hn I e' k hf q => ?_⟩
  obtain ⟨⟨e1, c⟩, h1, hf⟩ := bnd hf
  refine h.de B F e σ H _ hn I e1 c h1 fun F' H' s I' => ?_
  cases c with
  | true => exact iteT (h2.de B F' e1 σ H' _ hn I' e' k hf fun F2 H2 s2 I2 => q F2 H2 (s.trans s2) I2)
  | false => cases hf; exact iteF (q F' H' s I')
theorem jw_or (h : JT X np a tA gA) (h2 : JW X np (.BoolOp .Or (b :: rest) pos) tB' gB) : JW X np (.BoolOp .Or (a :: b :: rest) pos) (tOr tA tB') (fOr gA gB) := by
  refine ⟨pw_or h.pt h2.pw, fun B F e σ H Q hn I e' k hf q => ?_⟩
  obtain ⟨⟨e1, c⟩, h1, hf⟩ := bnd hf
  refine h.de B F e σ H _ hn I e1 c h1 fun F' H' s I' => ?_
  cases c with
  | true => cases hf; exact iteT (q F' H' s I')
  | false => exact iteF (h2.de B F' e1 σ H' _ hn I' e' k hf fun F2 H2 s2 I2 => q F2 H2 (s.trans s2) I2)
theorem JW.t (h : JW X np a tA gA) : JT X np a tA gA := ⟨h.pw.pt, h.de⟩
theorem jt_not (h : JT X np a tA gA) : JT X np (.UnaryOp .Not a pos) (tNot tA) (fNot gA) := by
  refine ⟨pt_not h.pt, fun B F e σ H Q hn I e' k hf q => ?_⟩
  obtain ⟨⟨e1, c⟩, h1, hf⟩ := bnd hf
  cases hf
  exact h.de B F e σ H _ hn I e1 c h1 fun F' H' s I' => q F' H' s I'
theorem je_one {op} (h : JE X np a ta fa) : JE X np (.BoolOp op [a] pos) ta fa := ⟨pe_one h.pe, h.de⟩
theorem je_and (h : JE X np a ta fa) (h2 : JE X np (.BoolOp .And (b :: rest) pos) tb fb) : JE X np (.BoolOp .And (a :: b :: rest) pos) (tAndV ta tb) (fAndV fa fb) := by
  refine ⟨pe_and h.pe h2.pe, fun B F e σ H Q hn I e' k hf q => ?_⟩
  obtain ⟨⟨e1, c⟩, h1, hf⟩ := bnd hf
  refine h.de B F e σ H _ hn I e1 c h1 fun F' v H' s I' r => ?_
  cases c with
  | bl c =>
    cases r
    refine ⟨c, rfl, ?_⟩
    cases c with
    | true => exact iteT (h2.de B F' e1 σ H' _ hn I' e' k hf fun F2 v2 H2 s2 I2 r2 => q F2 v2 H2 (s.trans s2) I2 r2)
    | false => cases hf; exact iteF (q F' _ H' s I' (.bl false))
  | _ => cases hf
theorem je_or (h : JE X np a ta fa) (h2 : JE X np (.BoolOp .Or (b :: rest) pos) tb fb) : JE X np (.BoolOp .Or (a :: b :: rest) pos) (tOrV ta tb) (fOrV fa fb) := by
  refine ⟨pe_or h.pe h2.pe, fun B F e σ H Q hn I e' k hf q => ?_⟩
  obtain ⟨⟨e1, c⟩, h1, hf⟩ := bnd hf
  refine h.de B F e σ H _ hn I e1 c h1 fun F' v H' s I' r => ?_
  cases c with
  | bl c =>
    cases r
    refine ⟨c, rfl, ?_⟩
    cases c with
    | true => cases hf; exact iteT (q F' _ H' s I' (.bl true))
    | false => exact iteF (h2.de B F' e1 σ H' _ hn I' e' k hf fun F2 v2 H2 s2 I2 r2 => q F2 v2 H2 (s.trans s2) I2 r2)
  | _ => cases hf
theorem je_not (h : JE X np a ta fa) : JE X np (.UnaryOp .Not a pos) (tNotV ta) (fNotV fa) := by
  refine ⟨pe_not h.pe, fun B F e σ H Q hn I e' k hf q => ?_⟩
  obtain ⟨⟨e1, c⟩, h1, hf⟩ := bnd hf
  refine h.de B F e σ H _ hn I e1 c h1 fun F' v H' s I' r => ?_
  cases c with
  | bl c =>
    cases r
    cases hf
    exact ⟨c, rfl, q F' _ H' s I' (.bl _)⟩
  | _ => cases hf
theorem je_ife {c : Expr} (hc : JT X np c tA gA) (ha : JE X np a ta fa) (hb : JE X np b tb fb) : JE X np (.IfExp c a b pos) (tIf tA ta tb) (fIfE gA fa fb) := by
  refine ⟨pe_ifExp hc.pt ha.pe hb.pe, fun B F e σ H Q hn I e' k hf q => ?_⟩
  obtain ⟨⟨e1, c⟩, h1, hf⟩ := bnd hf
  refine hc.de B F e σ H _ hn I e1 c h1 fun F' H' s I' => ?_
  cases c with
  | true => exact iteT (ha.de B F' e1 σ H' _ hn I' e' k hf fun F2 v2 H2 s2 I2 r2 => q F2 v2 H2 (s.trans s2) I2 r2)
  | false => exact iteF (hb.de B F' e1 σ H' _ hn I' e' k hf fun F2 v2 H2 s2 I2 r2 => q F2 v2 H2 (s.trans s2) I2 r2)
end

/-! ### arguments, displays, calls of built-ins -/
section
variable {ex : Expr} {es : List Expr} {te : TE} {t : TA} {fe : FE} {fs : FEs} {ke : FK} {ks : FKs} {pos : Pos} {n : Nat}
theorem jes_nil : JEs X np [] 0 tNil fNil := by
  refine ⟨pa_nil, fun B F e σ H Q hn I e' ds hf q => ?_⟩
  cases hf
  exact q F [] H (Same.refl F) I .nil rfl
theorem jes_cons (h : JE X np ex te fe) (h2 : JEs X np es n t fs) (hs : starEach (ex :: es) X.env = (false, eval ex X.env) :: starEach es X.env := by rfl) : JEs X np (ex :: es) (n + 1) (tCons te t) (fCons fe fs) := by
  refine ⟨pa_cons h.pe h2.pa hs, fun B F e σ H Q hn I e' ds hf q => ?_⟩
  obtain ⟨⟨e1, d⟩, h1, hf⟩ := bnd hf
  obtain ⟨⟨e2, ds2⟩, h3, hf⟩ := bnd hf
  cases hf
  refine h.de B F e σ H _ hn I e1 d h1 fun F' v H' s I' r => ?_
  exact h2.de B F' e1 σ H' _ hn I' e2 ds2 h3 fun F2 vs H2 s2 I2 r2 l2 => q F2 (v :: vs) H2 (s.trans s2) I2 (.cons (r.mono s2) r2) (congrArg (· + 1) l2)
theorem jks_nil : JKs X np [] tNil kNil := by
  refine ⟨pa_nil, fun B F e σ H Q hn I e' ds hf q => ?_⟩
  cases hf
  exact q F [] H (Same.refl F) I fun F2 e2 H2 ds s2 I2 hd => by cases hd; exact .nil
theorem jks_cons (h : JK X np ex te ke) (h2 : JKs X np es t ks) (hs : starEach (ex :: es) X.env = (false, eval ex X.env) :: starEach es X.env := by rfl) : JKs X np (ex :: es) (tCons te t) (kCons ke ks) := by
  refine ⟨pa_cons h.pe h2.pa hs, fun B F e σ H Q hn I e' ds hf q => ?_⟩
  obtain ⟨⟨e1, d⟩, h1, hf⟩ := bnd hf
  obtain ⟨⟨e2, ds2⟩, h3, hf⟩ := bnd hf
  cases hf
  refine h.de B F e σ H _ hn I e1 d h1 fun F' v H' s I' r => ?_
  refine h2.de B F' e1 σ H' _ hn I' e2 ds2 h3 fun F2 vs H2 s2 I2 r2 => q F2 (v :: vs) H2 (s.trans s2) I2 fun F3 e3 H3 dd s3 I3 hd => ?_
  obtain ⟨d1, q1, hd⟩ := bnd hd
  obtain ⟨d2, q2, hd⟩ := bnd hd
  cases hd
  exact .cons (r F3 e3 H3 d1 (s2.trans s3) I3 q1) (r2 F3 e3 H3 d2 s3 I3 q2)
theorem je_tup {x1} (h : JEs X np es n t fs) (hz : n ≤ sizeLine := by decide) : JE X np (.Tuple es x1 pos) (tTup t) (fTup fs) := by
  refine ⟨pe_tup h.pa, fun B F e σ H Q hn I e' d hf q => ?_⟩
  obtain ⟨⟨e1, ds⟩, h1, hf⟩ := bnd hf
  cases hf
  refine h.de B F e σ H _ hn I e1 ds h1 fun F1 vs H1 s1 I1 r l => ⟨by rw [l]; exact hz, fun p hp => ?_⟩
  have f1 := (I1.free hp).1
  exact q (upd F1 p (.tup vs)) (.ref p) _ (s1.trans (same_upd f1)) (I1.laid hp) (.tup (.inl (.inl upd_same)) (r.mono (same_upd f1)))
theorem je_lst (h : JEs X np es n t fs) (hz : n ≤ sizeLine := by decide) : JE X np (.List es pos) (tLst t) (fLst fs) := by
  refine ⟨pe_lst h.pa, fun B F e σ H Q hn I e' d hf q => ?_⟩
  obtain ⟨⟨e1, ds⟩, h1, hf⟩ := bnd hf
  cases hf
  refine h.de B F e σ H _ hn I e1 ds h1 fun F1 vs H1 s1 I1 r l => ⟨by rw [l]; exact hz, fun p hp => ?_⟩
  have f1 := (I1.free hp).1
  exact q (upd F1 p (.lst vs)) (.ref p) _ (s1.trans (same_upd f1)) (I1.laid hp) (.lst (.inl (.inl upd_same)) (r.mono (same_upd f1)))
theorem de_cb {K : PySem.W.Frag} {r : List V → Hp → VK → Prop} {g : List D → Option D} (h : DKs K np t ks) (hm : CallM K r g) : DE K np (tCB r t) (fCB g ks) := by
  intro B F e σ H Q hn I e' d hf q
  obtain ⟨⟨e1, ra⟩, h1, hf⟩ := bnd hf
  obtain ⟨x, h3, hf⟩ := bnd hf
  obtain ⟨d', h5, hf⟩ := bnd hf
  cases hf
  refine h B F e σ H _ hn I e1 ra h1 fun F1 v1 H1 s1 I1 l1 => ?_
  exact hm B F1 e1 σ H1 v1 x d Q I1 (l1 F1 e1 H1 x (Same.refl _) I1 h3) h5 fun F' v H' s I' rp => q F' v H' (s1.trans s) I' rp
theorem je_callB {x : Str} {p : Pos} {id : String} {r : List V → Hp → VK → Prop} {g : List D → Option D} (hc : CallR X (.builtin id) r) (hm : CallM X.K r g) (hg : Gl X x) (hx : X.mg x = none) (hv : bootBuiltins x = some (.builtin id)) (ha : JKs X np (ex :: es) t ks)
    (hn : x ≠ "__name__" := by decide) (hdb : (x == ("__debug__" : Str)) = false := by decide) (he : starEach (ex :: es) X.env = (false, eval ex X.env) :: starEach es X.env := by rfl) (hpl : (backTo pos (starEach es X.env)).any (·.1) = false := by rfl) :
    JE X np (.Call (.Name x p) (ex :: es) [] pos) (tCB r t) (fCB g ks) := ⟨pe_callB hc hg hx hv ha.pa hn hdb he hpl, de_cb ha.de hm⟩
theorem je_callTy {x : Str} {p : Pos} {T : String} {r : List V → Hp → VK → Prop} {g : List D → Option D} (hc : CallR X (.type T) r) (hm : CallM X.K r g) (hg : Gl X x) (hx : X.mg x = none) (hv : bootBuiltins x = some (.type T)) (ha : JKs X np (ex :: es) t ks)
    (hn : x ≠ "__name__" := by decide) (hdb : (x == ("__debug__" : Str)) = false := by decide) (he : starEach (ex :: es) X.env = (false, eval ex X.env) :: starEach es X.env := by rfl) (hpl : (backTo pos (starEach es X.env)).any (·.1) = false := by rfl) :
    JE X np (.Call (.Name x p) (ex :: es) [] pos) (tCB r t) (fCB g ks) := ⟨pe_callTy hc hg hx hv ha.pa hn hdb he hpl, de_cb ha.de hm⟩
end
end
end M

namespace M
open PySem PySem.Spec PyProof.Rows L2

/-! ### texts -/
theorem sOk_append {a b : Str} (ha : sOk a) (hb : sOk b) : sOk (a ++ b) := by
  intro c hc
  have e : (a ++ b).cps.toList = a.cps.toList ++ b.cps.toList := by
    show (a.cps ++ b.cps).toList = _
    simp
  rw [e] at hc
  rcases List.mem_append.mp hc with h | h
  · exact ha c h
  · exact hb c h
theorem sOk_one {z : Str} {c : Nat} (h : sOk z) (hc : c ∈ z.cps.toList) : sOk ⟨#[c]⟩ := by
  intro d hd
  simp at hd
  subst hd
  exact h _ hc

/-! ### what is seen of a value -/
section
variable {K : PySem.W.Frag} {F H : Hp} {x : V}
theorem RpO.int {i : Int} (h : RpO K F H x (.int i)) : x = .int i := by cases h with | rp h => cases h; rfl
theorem RpO.bl {i : Bool} (h : RpO K F H x (.bl i)) : x = .bl i := by cases h with | rp h => cases h; rfl
theorem RpO.str {i : Str} (h : RpO K F H x (.str i)) : x = .str i ∧ sOk i := by cases h with | rp h => cases h; exact ⟨rfl, by assumption⟩
theorem RpO.non (h : RpO K F H x .non) : x = .non := by cases h with | rp h => cases h; rfl
theorem RpO.ty {n : String} (h : RpO K F H x (.ty n)) : x = .ty n := by cases h with | rp h => cases h; rfl
theorem RpO.lst' {ds : List D} (sf : Same F H) (h : RpO K F H x (.lst ds)) : ∃ a xs, x = .ref a ∧ SqL K H a xs ∧ Rps K F xs ds := by
  cases h with
  | rp h => cases h with | lst h1 h2 => exact ⟨_, _, rfl, sf.seq h1, h2⟩
  | lst h1 h2 => exact ⟨_, _, rfl, .inl (.inl h1), h2⟩
theorem RpO.tup' {ds : List D} (sf : Same F H) (h : RpO K F H x (.tup ds)) : ∃ a xs, x = .ref a ∧ SqT K H a xs ∧ SqT K F a xs ∧ Rps K F xs ds := by
  cases h with
  | rp h => cases h with | tup h1 h2 => exact ⟨_, _, rfl, sqt_mono sf h1, h1, h2⟩
theorem RpO.dic' {es : List (Key × D)} (sf : Same F H) (h : RpO K F H x (.dic es)) : ∃ a kvs, x = .ref a ∧ Rd H a (.dK kvs) ∧ Rpk K F kvs es := by
  cases h with
  | rp h => cases h with | dic h1 h2 => exact ⟨_, _, rfl, rd_mono sf h1, h2⟩
  | dic h1 h2 => exact ⟨_, _, rfl, .inl h1, h2⟩
end

/-! ### + -/
def addD : D → D → Option D
  | .int i, .int j => some (.int (i + j))
  | .str a, .str b => if a.length + b.length ≤ sizeLine then some (.str (a ++ b)) else none
  | .lst xs, .lst ys => if xs.length + ys.length ≤ sizeLine then some (.lst (xs ++ ys)) else none
  | .tup xs, .tup ys => if xs.length + ys.length ≤ sizeLine then some (.tup (xs ++ ys)) else none
  | _, _ => none
def rCatL (K : PySem.W.Frag) : R2 := fun x y H Q => ∃ l b xs zs, x = .ref l ∧ y = .ref b ∧ SqL K H l xs ∧ SqL K H b zs ∧ xs.length + zs.length ≤ sizeLine ∧ ∀ p, H p = none → Q (.ref p) (upd H p (.lst (xs ++ zs)))
theorem op_catL {X : Cx} : OpR X (binaryOp .Add) (rCatL X.K) := by
  intro pins s σ H x y v u Q I rx ry h
  obtain ⟨l, b, xs, zs, rfl, rfl, h1, h2, hz, q⟩ := h
  cases rx
  cases ry
  obtain ⟨us, r1, p1, _⟩ := I.list h1
  obtain ⟨ws, r2, p2, _⟩ := I.list h2
  obtain ⟨⟨c1, d1, t1, sl1⟩, n1, o1, e1, e2, e3⟩ := p1
  obtain ⟨⟨c2, d2, t2, sl2⟩, n2, o2, f1, f2, f3⟩ := p2
  simp only at e1 e2 e3 f1 f2 f3
  subst e1 e2 e3 f1 f2 f3
  have l1 := r1.length
  have l2 := r2.length
  have hh : us.toArray ++ ws.toArray = (us ++ ws).toArray := by simp
  have ww := concat_meets (prog := X.prog) (w := X.w) (A := X.A) (E := X.xe) (s := s) (Q := EP X pins σ Q) (a := .ref l) (b := .ref b) ⟨_, o1, rfl⟩ ⟨_, o2, rfl⟩ noFill_list_add seq_list_add PySem.F.slot_list_add PySem.F.entry_list_add
    (PySem.F.args_list_add_2 _ _) (list_addW l b us.toArray ws.toArray n1 n2 _ _ sl1 sl2 (by rw [List.size_toArray, List.size_toArray]; omega)) ⟨o1, o2, by
      rw [hh]
      exact ⟨.ref _, _, I.lnew (t' := s.toks) (r1.append r2) (by rw [List.length_append]; omega), rfl, q _ I.fresh⟩⟩
  exact ww
def rAddD (K : PySem.W.Frag) : R2 := fun x y H Q => ((((rI0 fun i j => V.int (i + j)) x y H Q) ∨ (∃ i j, x = .str i ∧ y = .str j ∧ i.length + j.length ≤ sizeLine ∧ Q (.str (i ++ j)) H)) ∨ rCatL K x y H Q) ∨ rCatA K x y H Q
theorem op_addD {X : Cx} : OpR X (binaryOp .Add) (rAddD X.K) := ((op_add.or op_add_str).or op_catL).or op_catA
theorem om_add {K : PySem.W.Frag} : OpM K (rAddD K) addD := by
  intro B F e σ H x y dx dy d Q I rx ry hf q
  unfold addD at hf
  split at hf
  · cases hf
    exact .inl (.inl (.inl ⟨_, _, rx.int, ry.int, q F _ H (Same.refl F) I (.int _)⟩))
  · split at hf
    · rename_i hz
      cases hf
      exact .inl (.inl (.inr ⟨_, _, rx.str.1, ry.str.1, hz, q F _ H (Same.refl F) I (.str _ (sOk_append rx.str.2 ry.str.2))⟩))
    · cases hf
  · split at hf
    · rename_i hz
      cases hf
      obtain ⟨a, xs, e1, h1, r1⟩ := rx.lst' I.sf
      obtain ⟨b, ys, e2, h2, r2⟩ := ry.lst' I.sf
      have hz' := hz
      rw [← r1.length, ← r2.length] at hz'
      refine .inl (.inr ⟨a, b, xs, ys, e1, e2, h1, h2, hz', fun p hp => ?_⟩)
      have sm := same_upd (o := .lst (xs ++ ys)) (I.free hp).1
      exact q _ _ _ sm (I.laid hp) (.lst (.inl (.inl upd_same)) ((r1.append r2).mono sm))
    · cases hf
  · split at hf
    · rename_i hz
      cases hf
      obtain ⟨a, xs, e1, h1, g1, r1⟩ := rx.tup' I.sf
      obtain ⟨b, ys, e2, h2, g2, r2⟩ := ry.tup' I.sf
      have hz' := hz
      rw [← r1.length, ← r2.length] at hz'
      refine .inr ⟨a, b, xs, ys, e1, e2, h1, h2, hz', fun z => ?_, fun _ z => ?_, fun _ _ p hp => ?_⟩
      · subst z
        cases r1
        exact q F _ H (Same.refl F) I (.tup g2 r2)
      · subst z
        cases r2
        rw [List.append_nil] at q
        exact q F _ H (Same.refl F) I (.tup g1 r1)
      · have sm := same_upd (o := .tup (xs ++ ys)) (I.free hp).1
        exact q _ _ _ sm (I.laid hp) (.tup (.inl (.inl upd_same)) ((r1.append r2).mono sm))
    · cases hf
  · cases hf

/-! ### numbers -/
def subD : D → D → Option D
  | .int i, .int j => some (.int (i - j))
  | _, _ => none
def bitsOk (i j : Int) : Bool := decide (i.natAbs.log2 + j.natAbs.log2 < 100000000)
def mulD : D → D → Option D
  | .int i, .int j => if bitsOk i j = true then some (.int (i * j)) else none
  | _, _ => none
def fdivD : D → D → Option D
  | .int i, .int j => if 0 < j ∧ j.natAbs.log2 < 9000 then some (.int (i / j)) else none
  | _, _ => none
def modD : D → D → Option D
  | .int i, .int j => if 0 < j then some (.int (i % j)) else none
  | _, _ => none
def powD : D → D → Option D
  | .int i, .int j => if 0 ≤ j ∧ j ≤ 1000000 ∧ i.natAbs < 2 ^ 64 then some (.int (i ^ j.toNat)) else none
  | _, _ => none
def rMulB : R2 := rI (fun i j => bitsOk i j = true) fun i j => .int (i * j)
theorem mulOk_log {i j : Int} (h : bitsOk i j = true) : IntMulOk i j := by
  have b : ∀ x : Int, Builtin.Int.intBits x ≤ x.natAbs.log2 + 1 := fun x => by
    unfold Builtin.Int.intBits
    split <;> omega
  have h1 := b i
  have h2 := b j
  have h3 := of_decide_eq_true h
  exact IntMulOk.of_le (Nat.le_refl _) (Nat.le_refl _) (by omega)
theorem op_mulB {X : Cx} : OpR X (binaryOp .Mult) rMulB := opI fun _ _ _ _ _ _ _ hc q => mul_int q (mulOk_log hc)
theorem om_sub {K : PySem.W.Frag} : OpM K (rI0 fun i j => V.int (i - j)) subD := by
  intro B F e σ H x y dx dy d Q I rx ry hf q
  unfold subD at hf
  split at hf
  · cases hf
    exact ⟨_, _, rx.int, ry.int, q F _ H (Same.refl F) I (.int _)⟩
  · cases hf
theorem om_mul {K : PySem.W.Frag} : OpM K rMulB mulD := by
  intro B F e σ H x y dx dy d Q I rx ry hf q
  unfold mulD at hf
  split at hf
  · split at hf
    · rename_i hz
      cases hf
      exact ⟨_, _, rx.int, ry.int, hz, q F _ H (Same.refl F) I (.int _)⟩
    · cases hf
  · cases hf
theorem om_fdiv {K : PySem.W.Frag} : OpM K (rI CDivW fun i j => V.int (i / j)) fdivD := by
  intro B F e σ H x y dx dy d Q I rx ry hf q
  unfold fdivD at hf
  split at hf
  · split at hf
    · rename_i hz
      cases hf
      exact ⟨_, _, rx.int, ry.int, hz, q F _ H (Same.refl F) I (.int _)⟩
    · cases hf
  · cases hf
theorem om_mod {K : PySem.W.Frag} : OpM K (rI (fun _ j => j ≠ 0) fun i j => V.int (i.fmod j)) modD := by
  intro B F e σ H x y dx dy d Q I rx ry hf q
  unfold modD at hf
  split at hf
  · split at hf
    · rename_i hz
      cases hf
      rename_i i j
      refine ⟨i, j, rx.int, ry.int, by omega, ?_⟩
      have q1 := q F _ H (Same.refl F) I (.int _)
      rw [← Int.fmod_eq_emod_of_nonneg i (by omega)] at q1
      exact q1
    · cases hf
  · cases hf
theorem om_pow {K : PySem.W.Frag} : OpM K (rI CPow fun i j => V.int (i ^ j.toNat)) powD := by
  intro B F e σ H x y dx dy d Q I rx ry hf q
  unfold powD at hf
  split at hf
  · split at hf
    · rename_i hz
      cases hf
      exact ⟨_, _, rx.int, ry.int, hz, q F _ H (Same.refl F) I (.int _)⟩
    · cases hf
  · cases hf
def negD : D → Option D
  | .int i => some (.int (-i))
  | _ => none
theorem um_neg {K : PySem.W.Frag} : UnM K (rU fun i => V.int (-i)) negD := by
  intro B F e σ H x dx d Q I rx hf q
  unfold negD at hf
  split at hf
  · cases hf
    exact ⟨_, rx.int, q F _ H (Same.refl F) I (.int _)⟩
  · cases hf

/-! ### order -/
def ltD : D → D → Option D
  | .int i, .int j => some (.bl (decide (i < j)))
  | .str a, .str b => some (.bl (decide (a.cps.toList < b.cps.toList)))
  | _, _ => none
def gtD : D → D → Option D
  | .int i, .int j => some (.bl (decide (j < i)))
  | .str a, .str b => some (.bl (decide (b.cps.toList < a.cps.toList)))
  | _, _ => none
def leD : D → D → Option D
  | .int i, .int j => some (.bl (decide (i ≤ j)))
  | _, _ => none
def geD : D → D → Option D
  | .int i, .int j => some (.bl (decide (j ≤ i)))
  | _, _ => none
def rLtD : R2 := fun x y H Q => ((rI0 fun i j => V.bl (decide (i < j))) x y H Q) ∨ (∃ i j, x = .str i ∧ y = .str j ∧ Q (.bl (decide (i.cps.toList < j.cps.toList))) H)
theorem op_ltD {X : Cx} : OpR X (compareOp .Lt) rLtD := op_lt.or op_lt_str
theorem om_lt {K : PySem.W.Frag} : OpM K rLtD ltD := by
  intro B F e σ H x y dx dy d Q I rx ry hf q
  unfold ltD at hf
  split at hf
  · cases hf; exact .inl ⟨_, _, rx.int, ry.int, q F _ H (Same.refl F) I (.bl _)⟩
  · cases hf; exact .inr ⟨_, _, rx.str.1, ry.str.1, q F _ H (Same.refl F) I (.bl _)⟩
  · cases hf
theorem om_le {K : PySem.W.Frag} : OpM K (rI0 fun i j => V.bl (decide (i ≤ j))) leD := by
  intro B F e σ H x y dx dy d Q I rx ry hf q
  unfold leD at hf
  split at hf
  · cases hf; exact ⟨_, _, rx.int, ry.int, q F _ H (Same.refl F) I (.bl _)⟩
  · cases hf
theorem om_ge {K : PySem.W.Frag} : OpM K (rI0 fun i j => V.bl (decide (j ≤ i))) geD := by
  intro B F e σ H x y dx dy d Q I rx ry hf q
  unfold geD at hf
  split at hf
  · cases hf; exact ⟨_, _, rx.int, ry.int, q F _ H (Same.refl F) I (.bl _)⟩
  · cases hf
def rGtD : R2 := fun x y H Q => ((rI0 fun i j => V.bl (decide (j < i))) x y H Q) ∨ (∃ i j, x = .str i ∧ y = .str j ∧ Q (.bl (decide (j.cps.toList < i.cps.toList))) H)
theorem op_gtD {X : Cx} : OpR X (compareOp .Gt) rGtD := op_gt.or op_gt_str
theorem om_gt {K : PySem.W.Frag} : OpM K rGtD gtD := by
  intro B F e σ H x y dx dy d Q I rx ry hf q
  unfold gtD at hf
  split at hf
  · cases hf; exact .inl ⟨_, _, rx.int, ry.int, q F _ H (Same.refl F) I (.bl _)⟩
  · cases hf; exact .inr ⟨_, _, rx.str.1, ry.str.1, q F _ H (Same.refl F) I (.bl _)⟩
  · cases hf
end M

namespace M
open PySem PySem.Spec PyProof.Rows L2

/-! ### == -/
mutual
def D.py : D → PyData
  | .non => .none
  | .bl b => .bool b
  | .int i => .int i
  | .str s => .str s
  | .lst xs => .list (D.pys xs)
  | .tup xs => .tuple (D.pys xs)
  | .dic _ => .none
  | .ty _ => .none
  | .fn _ => .none
  | .ob _ _ => .none
def D.pys : List D → List PyData
  | [] => []
  | x :: xs => x.py :: D.pys xs
end
mutual
def D.plain : D → Bool
  | .lst xs => D.plains xs
  | .tup xs => D.plains xs
  | .dic _ => false
  | .ty _ => false
  | .fn _ => false
  | .ob _ _ => false
  | _ => true
def D.plains : List D → Bool
  | [] => true
  | x :: xs => x.plain && D.plains xs
end
theorem strOk_of {x : Str} (h : sOk x) : PyData.strOk x = true := by
  unfold PyData.strOk
  rw [Array.all_eq_true']
  intro c hc
  exact decide_eq_true (h c (by simpa using hc))
section
variable {X : Cx} {pins : List (Addr × Obj)} {σ : L2.St} {H : Hp} {s : Shared} {F : Hp}
mutual
theorem rp_reads (I : Inv X pins σ H s) (sf : Same F H) : ∀ (d : D) (v : V) (u : Value), d.plain = true → Rp X.K F v d → RelV v u → (∃ as, Reads s.heap u d.py as) ∧ d.py.canLay0 = true
  | .non, _, _, _, h, r => by cases h; cases r; exact ⟨⟨_, .none⟩, rfl⟩
  | .bl b, _, _, _, h, r => by cases h; cases r; exact ⟨⟨_, .bool b⟩, rfl⟩
  | .int i, _, _, _, h, r => by cases h; obtain ⟨t, rfl⟩ := r; exact ⟨⟨_, .int i t⟩, rfl⟩
  | .str x, _, _, _, h, r => by
    cases h with
    | str _ hx => obtain ⟨t, rfl⟩ := r; exact ⟨⟨_, .str x t⟩, by rw [D.py, PyData.canLay0]; exact strOk_of hx⟩
  | .lst ds, _, _, hp, h, r => by
    cases h with
    | lst h1 h2 =>
      cases r
      obtain ⟨us, rv, ⟨o, n, ho, hc, _, hd⟩, _⟩ := I.list (sf.seq h1)
      obtain ⟨⟨as, q⟩, l⟩ := rp_readsAll I sf ds _ us (by rw [D.plain] at hp; exact hp) h2 rv
      exact ⟨⟨_, .list ho hc hd q⟩, by rw [D.py, PyData.canLay0]; exact l⟩
  | .tup ds, _, _, hp, h, r => by
    cases h with
    | tup h1 h2 =>
      cases r
      obtain ⟨us, rv, ⟨o, ho, hc, n, hd⟩, _⟩ := I.tuple (sqt_mono sf h1)
      obtain ⟨⟨as, q⟩, l⟩ := rp_readsAll I sf ds _ us (by rw [D.plain] at hp; exact hp) h2 rv
      exact ⟨⟨_, .tuple ho hc hd q⟩, by rw [D.py, PyData.canLay0]; exact l⟩
  | .dic _, _, _, hp, _, _ => by rw [D.plain] at hp; cases hp
  | .ty _, _, _, hp, _, _ => by rw [D.plain] at hp; cases hp
  | .fn _, _, _, hp, _, _ => by rw [D.plain] at hp; cases hp
  | .ob _ _, _, _, hp, _, _ => by rw [D.plain] at hp; cases hp
theorem rp_readsAll (I : Inv X pins σ H s) (sf : Same F H) : ∀ (ds : List D) (vs : List V) (us : List Value), D.plains ds = true → Rps X.K F vs ds → Vals vs us → (∃ as, ReadsAll s.heap us (D.pys ds) as) ∧ PyData.canLayAll0 (D.pys ds) = true
  | [], _, _, _, h, r => by cases h; cases r; exact ⟨⟨_, .nil⟩, rfl⟩
  | d :: ds, _, _, hp, h, r => by
    rw [D.plains, Bool.and_eq_true] at hp
    cases h with
    | cons h1 h2 =>
      cases r with
      | cons r1 r2 =>
        obtain ⟨⟨as, q1⟩, l1⟩ := rp_reads I sf d _ _ hp.1 h1 r1
        obtain ⟨⟨bs, q2⟩, l2⟩ := rp_readsAll I sf ds _ _ hp.2 h2 r2
        exact ⟨⟨_, .cons q1 q2⟩, by rw [D.pys, PyData.canLayAll0, l1, l2]; rfl⟩
end
theorem rpo_reads (I : Inv X pins σ H s) (sf : Same F H) {d : D} {v : V} {u : Value} (hp : d.plain = true) (h : RpO X.K F H v d) (r : RelV v u) : (∃ as, Reads s.heap u d.py as) ∧ d.py.canLay0 = true := by
  cases h with
  | rp h => exact rp_reads I sf d v u hp h r
  | @lst a xs ds h1 h2 =>
    cases r
    obtain ⟨us, rv, ⟨o, n, ho, hc, _, hd⟩, _⟩ := I.list (.inl (.inl h1))
    obtain ⟨⟨as, q⟩, l⟩ := rp_readsAll I sf ds _ us (by rw [D.plain] at hp; exact hp) h2 rv
    exact ⟨⟨_, .list ho hc hd q⟩, by rw [D.py, PyData.canLay0]; exact l⟩
  | dic h1 h2 => rw [D.plain] at hp; cases hp
end
def eqG (a b : D) : Option Bool := if a.plain = true ∧ b.plain = true ∧ min a.py.depth b.py.depth ≤ 200 then some (PyData.eqv a.py b.py) else none
def eqQ : D → D → Option Bool
  | .str a, .str b => some (decide (a = b))
  | .int a, .int b => some (decide (a = b))
  | .tup xs, .tup [] => some xs.isEmpty
  | a, b => eqG a b
def eqD (a b : D) : Option D := (eqQ a b).map .bl
def neQ : D → D → Option Bool
  | .str a, .str b => some (decide (a = b))
  | .int a, .int b => some (decide (a = b))
  | a, b => eqG a b
def neD (a b : D) : Option D := (neQ a b).map fun k => .bl (!k)
/-- both readings' ground -/
def NeVals (K : PySem.W.Frag) (H : Hp) (x y : V) (b : Bool) : Prop :=
  (∃ i j, x = .str i ∧ y = .str j ∧ b = decide (i = j)) ∨ (∃ i j, x = .int i ∧ y = .int j ∧ b = decide (i = j)) ∨
  ∃ F dx dy, Same F H ∧ RpO K F H x dx ∧ RpO K F H y dy ∧ dx.plain = true ∧ dy.plain = true ∧ min dx.py.depth dy.py.depth ≤ 200 ∧ b = PyData.eqv dx.py dy.py
def EqVals (K : PySem.W.Frag) (H : Hp) (x y : V) (b : Bool) : Prop := (∃ p q xs, x = .ref p ∧ y = .ref q ∧ SqT K H p xs ∧ SqT K H q [] ∧ b = xs.isEmpty) ∨ NeVals K H x y b
def rEqX (K : PySem.W.Frag) : R2 := fun x y H Q => ∃ b, EqVals K H x y b ∧ Q (.bl b) H
def rNeX (K : PySem.W.Frag) : R2 := fun x y H Q => ∃ b, NeVals K H x y b ∧ Q (.bl (!b)) H
section
variable {X : Cx}
theorem op_eqX (hu : X.A.units + 200 < cLine) : OpR X (compareOp .Eq) (rEqX X.K) := by
  intro pins s σ H x y v u Q I rx ry h
  obtain ⟨b, h, q⟩ := h
  rcases h with ⟨p, r, xs, rfl, rfl, h1, h2, rfl⟩ | ⟨i, j, rfl, rfl, rfl⟩ | ⟨i, j, rfl, rfl, rfl⟩ | ⟨F, dx, dy, sf, h1, h2, p1, p2, hz, rfl⟩
  · cases rx
    cases ry
    obtain ⟨us, r1, t1, _⟩ := I.tuple h1
    obtain ⟨ws, r2, t2, _⟩ := I.tuple h2
    cases r2
    have z := SeqAt.RcAt.tuples (A := X.A) (s := s) (e := fun _ => true) t1 t2 (Nat.lt_of_le_of_lt (Nat.le_add_right _ 200) hu) (fun j _ j2 => absurd j2 (by simp))
    refine z X.prog X.w X.xe _ ⟨.bl _, H, I, rfl, ?_⟩
    have e : ((List.range (min us.toArray.size ([] : List Value).toArray.size)).all (fun _ => true) && us.toArray.size == ([] : List Value).toArray.size) = xs.isEmpty := by
      cases xs with
      | nil => cases r1; rfl
      | cons a t => cases r1; simp
    show Q (V.bl _) H
    rw [e]; exact q
  · refine op_eq pins s σ H _ _ v u Q I rx ry ⟨rfl, ?_⟩
    have e : decide (V.str i = V.str j) = decide (i = j) := by simp
    rw [e]; exact q
  · refine op_eq pins s σ H _ _ v u Q I rx ry ⟨rfl, ?_⟩
    have e : decide (V.int i = V.int j) = decide (i = j) := by simp
    rw [e]; exact q
  · obtain ⟨⟨as, q1⟩, l1⟩ := rpo_reads I sf p1 h1 rx
    obtain ⟨⟨bs, q2⟩, l2⟩ := rpo_reads I sf p2 h2 ry
    exact SeqAt.compareEq_reads q1 q2 l1 l2 (by omega) ⟨.bl _, H, I, rfl, q⟩
theorem op_neX (hu : X.A.units + 200 < cLine) : OpR X (compareOp .NotEq) (rNeX X.K) := by
  intro pins s σ H x y v u Q I rx ry h
  obtain ⟨b, h, q⟩ := h
  rcases h with ⟨i, j, rfl, rfl, rfl⟩ | ⟨i, j, rfl, rfl, rfl⟩ | ⟨F, dx, dy, sf, h1, h2, p1, p2, hz, rfl⟩
  · refine op_ne pins s σ H _ _ v u Q I rx ry ⟨rfl, ?_⟩
    have e : decide (V.str i = V.str j) = decide (i = j) := by simp
    rw [e]; exact q
  · refine op_ne pins s σ H _ _ v u Q I rx ry ⟨rfl, ?_⟩
    have e : decide (V.int i = V.int j) = decide (i = j) := by simp
    rw [e]; exact q
  · obtain ⟨⟨as, q1⟩, l1⟩ := rpo_reads I sf p1 h1 rx
    obtain ⟨⟨bs, q2⟩, l2⟩ := rpo_reads I sf p2 h2 ry
    exact SeqAt.compareNe_reads q1 q2 l1 l2 (by omega) ⟨.bl _, H, I, rfl, q⟩
end
theorem eqG_vals {K : PySem.W.Frag} {F H : Hp} {x y : V} {dx dy : D} {b : Bool} (sf : Same F H) (rx : RpO K F H x dx) (ry : RpO K F H y dy) (h : eqG dx dy = some b) : NeVals K H x y b := by
  unfold eqG at h
  split at h
  · rename_i hz
    cases h
    exact .inr (.inr ⟨F, dx, dy, sf, rx, ry, hz.1, hz.2.1, hz.2.2, rfl⟩)
  · cases h
theorem neQ_vals {K : PySem.W.Frag} {F H : Hp} {x y : V} {dx dy : D} {b : Bool} (sf : Same F H) (rx : RpO K F H x dx) (ry : RpO K F H y dy) (h : neQ dx dy = some b) : NeVals K H x y b := by
  unfold neQ at h
  split at h
  · cases h; exact .inl ⟨_, _, rx.str.1, ry.str.1, rfl⟩
  · cases h; exact .inr (.inl ⟨_, _, rx.int, ry.int, rfl⟩)
  · exact eqG_vals sf rx ry h
theorem eqQ_vals {K : PySem.W.Frag} {F H : Hp} {x y : V} {dx dy : D} {b : Bool} (sf : Same F H) (rx : RpO K F H x dx) (ry : RpO K F H y dy) (h : eqQ dx dy = some b) : EqVals K H x y b := by
  unfold eqQ at h
  split at h
  · cases h; exact .inr (.inl ⟨_, _, rx.str.1, ry.str.1, rfl⟩)
  · cases h; exact .inr (.inr (.inl ⟨_, _, rx.int, ry.int, rfl⟩))
  · cases h
    obtain ⟨p, us, e1, t1, _, r1⟩ := rx.tup' sf
    obtain ⟨q, ws, e2, t2, _, r2⟩ := ry.tup' sf
    cases r2
    refine .inl ⟨p, q, us, e1, e2, t1, t2, ?_⟩
    cases r1 <;> rfl
  · exact .inr (eqG_vals sf rx ry h)
theorem om_eq {K : PySem.W.Frag} : OpM K (rEqX K) eqD := by
  intro B F e σ H x y dx dy d Q I rx ry hf q
  obtain ⟨b, h1, h2⟩ := Option.map_eq_some_iff.mp hf
  subst h2
  exact ⟨b, eqQ_vals I.sf rx ry h1, q F _ H (Same.refl F) I (.bl _)⟩
theorem om_ne {K : PySem.W.Frag} : OpM K (rNeX K) neD := by
  intro B F e σ H x y dx dy d Q I rx ry hf q
  obtain ⟨b, h1, h2⟩ := Option.map_eq_some_iff.mp hf
  subst h2
  exact ⟨b, neQ_vals I.sf rx ry h1, q F _ H (Same.refl F) I (.bl _)⟩

/-! ### in -/
def D.fv : D → Option V
  | .non => some .non
  | .bl b => some (.bl b)
  | .int i => some (.int i)
  | .str s => some (.str s)
  | _ => none
def D.fvs : List D → Option (List V)
  | [] => some []
  | d :: ds => d.fv.bind fun v => (D.fvs ds).bind fun vs => some (v :: vs)
theorem fv_rp {K : PySem.W.Frag} {F : Hp} {v w : V} {d : D} (h : Rp K F v d) (e : d.fv = some w) : v = w ∧ flatV v = true := by
  cases h <;> first
    | (cases e; exact ⟨rfl, rfl⟩)
    | cases e
theorem fv_rpo {K : PySem.W.Frag} {F H : Hp} {v w : V} {d : D} (h : RpO K F H v d) (e : d.fv = some w) : v = w ∧ flatV v = true := by
  cases h with
  | rp h => exact fv_rp h e
  | lst _ _ => cases e
  | dic _ _ => cases e
theorem fvs_rps {K : PySem.W.Frag} {F : Hp} : ∀ {vs ws : List V} {ds : List D}, Rps K F vs ds → D.fvs ds = some ws → vs = ws ∧ vs.all flatV = true
  | _, _, _, .nil, e => by cases e; exact ⟨rfl, rfl⟩
  | _, _, _, .cons r t, e => by
    obtain ⟨v, h1, e⟩ := bnd e
    obtain ⟨vs, h2, e⟩ := bnd e
    cases e
    obtain ⟨rfl, f1⟩ := fv_rp r h1
    obtain ⟨rfl, f2⟩ := fvs_rps t h2
    exact ⟨rfl, by rw [List.all_cons, f1, f2]; rfl⟩
def D.key : D → Option Key
  | .int i => some (.inl i)
  | .str s => some (.inr s)
  | _ => none
def lookK {α : Type} (k : Key) : List (Key × α) → Option α
  | [] => none
  | (j, d) :: r => if j = k then some d else lookK k r
def inQ : D → D → Option Bool
  | x, .lst ys => x.fv.bind fun v => (D.fvs ys).bind fun vs => some (inV v vs)
  | x, .tup ys => x.fv.bind fun v => (D.fvs ys).bind fun vs => some (inV v vs)
  | .str a, .str z => match a.cps.toList with
    | [c] => some (decide (c ∈ z.cps.toList))
    | _ => none
  | x, .dic es => x.key.map fun k => (lookK k es).isSome
  | _, _ => none
def inD (x y : D) : Option D := (inQ x y).map .bl
def notInD (x y : D) : Option D := (inQ x y).map fun b => .bl (!b)
def InVals (K : PySem.W.Frag) (H : Hp) (x y : V) (b : Bool) : Prop :=
  (∃ p xs, y = .ref p ∧ (SqL K H p xs ∨ SqT K H p xs) ∧ flatV x = true ∧ xs.all flatV = true ∧ b = inV x xs) ∨ (∃ (c : Nat) (z : Str), x = .str ⟨#[c]⟩ ∧ y = .str z ∧ b = decide (c ∈ z.cps.toList)) ∨
  ∃ a kvs k, y = .ref a ∧ Rd H a (.dK kvs) ∧ x = kV k ∧ b = (valV kvs k).isSome
section
variable {X : Cx}
theorem op_inX (hu : X.A.units + 200 < cLine) : OpR X (compareOp .In) (fun x y H Q => ∃ b, InVals X.K H x y b ∧ Q (.bl b) H) := by
  intro pins s σ H x y v u Q I rx ry h
  obtain ⟨b, h, q⟩ := h
  rcases h with ⟨p, xs, rfl, h1, h2, h3, rfl⟩ | ⟨c, z, rfl, rfl, rfl⟩ | ⟨a, kvs, k, rfl, h1, rfl, rfl⟩
  · exact op_in_seq pins s σ H _ _ v u Q I rx ry ⟨p, xs, rfl, h1, h2, h3, q⟩
  · exact op_in_sign pins s σ H _ _ v u Q I rx ry ⟨c, z, rfl, rfl, q⟩
  · cases ry
    exact d_in (by omega) I (.inl ⟨kvs, k, h1, rfl, rfl⟩) rx fun s3 I3 => ⟨.bl _, H, I3, rfl, q⟩
theorem op_notInX (hu : X.A.units + 200 < cLine) : OpR X (compareOp .NotIn) (fun x y H Q => ∃ b, InVals X.K H x y b ∧ Q (.bl (!b)) H) := by
  intro pins s σ H x y v u Q I rx ry h
  obtain ⟨b, h, q⟩ := h
  rcases h with ⟨p, xs, rfl, h1, h2, h3, rfl⟩ | ⟨c, z, rfl, rfl, rfl⟩ | ⟨a, kvs, k, rfl, h1, rfl, rfl⟩
  · exact op_notIn_seq pins s σ H _ _ v u Q I rx ry ⟨p, xs, rfl, h1, h2, h3, q⟩
  · exact op_notIn_sign pins s σ H _ _ v u Q I rx ry ⟨c, z, rfl, rfl, q⟩
  · cases ry
    exact d_notIn (by omega) I (.inl ⟨kvs, k, h1, rfl, rfl⟩) rx fun s3 I3 => ⟨.bl _, H, I3, rfl, q⟩
end
theorem key_rpo {K : PySem.W.Frag} {F H : Hp} {v : V} {d : D} {k : Key} (h : RpO K F H v d) (e : d.key = some k) : v = kV k := by
  cases h with
  | rp h => cases h <;> first | (cases e; rfl) | cases e
  | lst _ _ => cases e
  | dic _ _ => cases e
theorem valV_cons {k j : Key} {v : V} {r : List (Key × V)} : valV ((j, v) :: r) k = if j = k then some v else valV r k := by
  unfold valV
  rw [List.find?_cons]
  by_cases h : j = k
  · simp [h]
  · simp [h]
theorem look_rpk {K : PySem.W.Frag} {F : Hp} {k : Key} : ∀ {kvs : List (Key × V)} {es : List (Key × D)}, Rpk K F kvs es → (lookK k es = none ∧ valV kvs k = none) ∨ ∃ v d, lookK k es = some d ∧ valV kvs k = some v ∧ Rp K F v d
  | _, _, .nil => .inl ⟨rfl, rfl⟩
  | _, _, .cons (k := j) (v := v) (d := d) r t => by
    rw [valV_cons, lookK]
    by_cases h : j = k
    · rw [if_pos h, if_pos h]
      exact .inr ⟨v, d, rfl, rfl, r⟩
    · rw [if_neg h, if_neg h]
      exact look_rpk t
theorem inQ_vals {K : PySem.W.Frag} {F H : Hp} {x y : V} {dx dy : D} {b : Bool} (sf : Same F H) (rx : RpO K F H x dx) (ry : RpO K F H y dy) (h : inQ dx dy = some b) : InVals K H x y b := by
  unfold inQ at h
  split at h
  · obtain ⟨v, h1, h⟩ := bnd h
    obtain ⟨vs, h2, h⟩ := bnd h
    cases h
    obtain ⟨p, ys, e, t, r⟩ := ry.lst' sf
    obtain ⟨rfl, f1⟩ := fv_rpo rx h1
    obtain ⟨rfl, f2⟩ := fvs_rps r h2
    exact .inl ⟨p, _, e, .inl t, f1, f2, rfl⟩
  · obtain ⟨v, h1, h⟩ := bnd h
    obtain ⟨vs, h2, h⟩ := bnd h
    cases h
    obtain ⟨p, ys, e, t, _, r⟩ := ry.tup' sf
    obtain ⟨rfl, f1⟩ := fv_rpo rx h1
    obtain ⟨rfl, f2⟩ := fvs_rps r h2
    exact .inl ⟨p, _, e, .inr t, f1, f2, rfl⟩
  · rename_i a z
    split at h
    · rename_i c hc
      cases h
      refine .inr (.inl ⟨c, z, ?_, ry.str.1, rfl⟩)
      rw [rx.str.1]
      have : a = ⟨#[c]⟩ := by
        obtain ⟨ar⟩ := a
        have : ar = #[c] := by
          apply Array.toList_inj.mp
          exact hc
        rw [this]
      rw [this]
    · cases h
  · obtain ⟨k, h1, h2⟩ := Option.map_eq_some_iff.mp h
    subst h2
    obtain ⟨a, kvs, e, t, r⟩ := ry.dic' sf
    refine .inr (.inr ⟨a, kvs, k, e, t, key_rpo rx h1, ?_⟩)
    rcases look_rpk (k := k) r with ⟨e1, e2⟩ | ⟨v, d, e1, e2, _⟩
    · rw [e1, e2] <;> rfl
    · rw [e1, e2] <;> rfl
  · cases h
theorem om_in {K : PySem.W.Frag} : OpM K (fun x y H Q => ∃ b, InVals K H x y b ∧ Q (.bl b) H) inD := by
  intro B F e σ H x y dx dy d Q I rx ry hf q
  obtain ⟨b, h1, h2⟩ := Option.map_eq_some_iff.mp hf
  subst h2
  exact ⟨b, inQ_vals I.sf rx ry h1, q F _ H (Same.refl F) I (.bl _)⟩
theorem om_notIn {K : PySem.W.Frag} : OpM K (fun x y H Q => ∃ b, InVals K H x y b ∧ Q (.bl (!b)) H) notInD := by
  intro B F e σ H x y dx dy d Q I rx ry hf q
  obtain ⟨b, h1, h2⟩ := Option.map_eq_some_iff.mp hf
  subst h2
  exact ⟨b, inQ_vals I.sf rx ry h1, q F _ H (Same.refl F) I (.bl _)⟩
end M

namespace M
open PySem PySem.Spec PyProof.Rows L2

/-! ### subscripts -/
def ixD : D → D → Option D
  | .lst xs, .int i => atI xs i
  | .tup xs, .int i => atI xs i
  | .str z, .int i => if z.length ≤ sizeLine then (atI z.cps.toList i).map fun c => .str ⟨#[c]⟩ else none
  | .dic es, k => k.key.bind fun k => lookK k es
  | _, _ => none
theorem atI_rps {K : PySem.W.Frag} {F : Hp} {xs : List V} {ds : List D} {i : Int} {d : D} (r : Rps K F xs ds) (h : atI ds i = some d) : ∃ v, atI xs i = some v ∧ Rp K F v d := by
  unfold atI at h ⊢
  rw [r.length]
  obtain ⟨j, h1, h2⟩ := bnd h
  rw [h1]
  exact r.getD h2
def rIxDic : R2 := fun x y H Q => ∃ a kvs k v, x = .ref a ∧ y = kV k ∧ Rd H a (.dK kvs) ∧ valV kvs k = some v ∧ Q v H
theorem ix_dic {X : Cx} (hu : X.A.units + 200 < cLine) : IxR X rIxDic := by
  intro value slice pins s σ H x y v u Q I rx ry h hs
  obtain ⟨a, kvs, k, w, rfl, rfl, h1, h2, q⟩ := h
  cases rx
  have g : DGet H a (L2.kV k) (some w) := .inl ⟨kvs, k, h1, rfl, h2.symm⟩
  exact tail_any (dict_typeIs I g) PySem.F.slot_dict_getitem.lookup (d_getItem (by omega) I g ry fun w' s3 I3 rw' => ⟨w, H, I3, rw', q⟩) hs
def rIxD (K : PySem.W.Frag) : R2 := fun x y H Q => ((rIxL K x y H Q ∨ rIxT K x y H Q) ∨ rIxS x y H Q) ∨ rIxDic x y H Q
theorem ix_D {X : Cx} (hu : X.A.units + 200 < cLine) : IxR X (rIxD X.K) := ((ix_list.or ix_tup).or ix_str).or (ix_dic hu)
theorem om_ix {K : PySem.W.Frag} : OpM K (rIxD K) ixD := by
  intro B F e σ H x y dx dy d Q I rx ry hf q
  unfold ixD at hf
  split at hf
  · obtain ⟨a, xs, e1, h1, r1⟩ := rx.lst' I.sf
    obtain ⟨v, h2, r2⟩ := atI_rps r1 hf
    exact .inl (.inl (.inl ⟨a, xs, _, v, e1, ry.int, h1, h2, q F v H (Same.refl F) I r2⟩))
  · obtain ⟨a, xs, e1, h1, _, r1⟩ := rx.tup' I.sf
    obtain ⟨v, h2, r2⟩ := atI_rps r1 hf
    exact .inl (.inl (.inr ⟨a, xs, _, v, e1, ry.int, h1, h2, q F v H (Same.refl F) I r2⟩))
  · rename_i z i
    split at hf
    · rename_i hz
      obtain ⟨c, h1, h2⟩ := Option.map_eq_some_iff.mp hf
      subst h2
      obtain ⟨j, _, h3, _⟩ := atI_get h1
      exact .inl (.inr ⟨z, i, c, rx.str.1, ry.int, hz, h1, q F _ H (Same.refl F) I (.str _ (sOk_one rx.str.2 (List.mem_of_getElem? h3)))⟩)
    · cases hf
  · obtain ⟨k, h1, hf⟩ := bnd hf
    obtain ⟨a, kvs, e1, h2, r1⟩ := rx.dic' I.sf
    rcases look_rpk (k := k) r1 with ⟨e2, _⟩ | ⟨v, d', e2, e3, r2⟩
    · rw [hf] at e2; cases e2
    · rw [hf] at e2; cases e2
      exact .inr ⟨a, kvs, k, v, e1, key_rpo ry h1, h2, e3, q F v H (Same.refl F) I r2⟩
  · cases hf

/-! ### slices -/
abbrev FO := Sls → Option (Sls × Option Int)
def DO (K : PySem.W.Frag) (np : Nat) (t : TO) (f : FO) : Prop :=
  ∀ (B : Bs) (F : Hp) (e : Sls) (σ : L2.St) (H : Hp) (Q : Option Int → Hp → Prop), B.np = np → IV K B F e σ H → ∀ (e' : Sls) (o : Option Int), f e = some (e', o) →
    (∀ (F' : Hp) (H' : Hp), Same F F' → IV K B F' e' σ H' → Q o H') → t σ H Q
structure JO (X : Cx) (np : Nat) (e : Option Expr) (t : TO) (f : FO) : Prop where
  po : PO X e t
  de : DO X.K np t f
def fNoPart : FO := fun e => some (e, none)
def fPart (f : FE) : FO := fun e => (f e).bind fun p => match p.2 with | .int i => some (p.1, some i) | _ => none
def cutG {α : Type} (xs : List α) (lo hi : Option Int) : List α := (xs.drop (HT.sIx xs.length 0 lo)).take (HT.sIx xs.length xs.length hi - HT.sIx xs.length 0 lo)
def cutD (d : D) (lo hi : Option Int) : Option D := match d with
  | .lst xs => some (.lst (cutG xs lo hi))
  | .tup xs => some (.tup (cutG xs lo hi))
  | .str z => if z.length ≤ sizeLine then some (.str (cutS z lo hi)) else none
  | _ => none
def fSl (k : FK) (l h : FO) : FE := fun e => (k e).bind fun p => (l p.1).bind fun a => (h a.1).bind fun b => (p.2 b.1).bind fun d => (cutD d a.2 b.2).bind fun c => some (b.1, c)
def rSlD (K : PySem.W.Frag) : V → Option Int → Option Int → Hp → VK → Prop := fun x lo hi H Q => (rSlL K x lo hi H Q ∨ rSlA K x lo hi H Q) ∨ rSlS x lo hi H Q
theorem sl_D {X : Cx} : SlR X (rSlD X.K) := (sl_list.or sl_tupA).or sl_str
theorem cutG_rps {K : PySem.W.Frag} {F : Hp} {xs : List V} {ds : List D} (r : Rps K F xs ds) (lo hi : Option Int) : Rps K F (cutV xs lo hi) (cutG ds lo hi) := by
  unfold cutV cutG
  rw [r.length]
  exact (r.drop _).take _
theorem cutG_all {α : Type} (xs : List α) (lo hi : Option Int) (h : HT.sIx xs.length 0 lo = 0 ∧ HT.sIx xs.length xs.length hi = xs.length) : cutG xs lo hi = xs := by
  unfold cutG
  rw [h.1, h.2]
  simp
theorem sOk_cut {z : Str} (h : sOk z) (lo hi : Option Int) : sOk (cutS z lo hi) := by
  intro c hc
  unfold cutS at hc
  simp only [List.toList_toArray] at hc
  exact h c (List.mem_of_mem_drop (List.mem_of_mem_take hc))
section
variable {X : Cx} {np : Nat}
theorem jo_none : JO X np none tNoPart fNoPart := by
  refine ⟨po_none, fun B F e σ H Q hn I e' o hf q => ?_⟩
  cases hf
  exact q F H (Same.refl F) I
theorem jo_some {a : Expr} {t : TE} {f : FE} (h : JE X np a t f) : JO X np (some a) (tPart t) (fPart f) := by
  refine ⟨po_some h.pe, fun B F e σ H Q hn I e' o hf q => ?_⟩
  obtain ⟨⟨e1, d⟩, h1, hf⟩ := bnd hf
  refine h.de B F e σ H _ hn I e1 d h1 fun F' v H' s I' r => ?_
  cases d with
  | int i => cases hf; cases r; exact ⟨i, rfl, q F' H' s I'⟩
  | _ => cases hf
theorem je_slice {a : Expr} {lo hi : Option Expr} {pos p2 : Pos} {t : TE} {tl th : TO} {k : FK} {l h : FO} (ha : JK X np a t k) (hl : JO X np lo tl l) (hh : JO X np hi th h) : JE X np (.Subscript a (.Slice lo hi none p2) pos) (tSl (rSlD X.K) t tl th) (fSl k l h) := by
  refine ⟨pe_slice sl_D ha.pe hl.po hh.po, fun B F e σ H Q hn I e' d hf q => ?_⟩
  obtain ⟨⟨e1, r⟩, h1, hf⟩ := bnd hf
  obtain ⟨⟨e2, o1⟩, h2, hf⟩ := bnd hf
  obtain ⟨⟨e3, o2⟩, h3, hf⟩ := bnd hf
  obtain ⟨x, h4, hf⟩ := bnd hf
  obtain ⟨c, h5, hf⟩ := bnd hf
  cases hf
  refine ha.de B F e σ H _ hn I e1 r h1 fun F1 v1 H1 s1 I1 l1 => ?_
  refine hl.de B F1 e1 σ H1 _ hn I1 e2 o1 h2 fun F2 H2 s2 I2 => ?_
  refine hh.de B F2 e2 σ H2 _ hn I2 e3 o2 h3 fun F3 H3 s3 I3 => ?_
  have rx := l1 F3 e3 H3 x (s2.trans s3) I3 h4
  have s13 := s1.trans (s2.trans s3)
  unfold cutD at h5
  split at h5
  · cases h5
    obtain ⟨b, xs, e1, t1, r1⟩ := rx.lst' I3.sf
    refine .inl (.inl ⟨b, xs, e1, t1, fun p hp => ?_⟩)
    have sm := same_upd (o := .lst (cutV xs o1 o2)) (I3.free hp).1
    exact q _ _ _ (s13.trans sm) (I3.laid hp) (.lst (.inl (.inl upd_same)) ((cutG_rps r1 o1 o2).mono sm))
  · cases h5
    obtain ⟨b, xs, e1, t1, g1, r1⟩ := rx.tup' I3.sf
    refine .inl (.inr ⟨b, xs, e1, t1, fun z => ?_, fun z p hp => ?_⟩)
    · rw [r1.length] at z
      rw [cutG_all _ _ _ z] at q
      exact q F3 _ H3 s13 I3 (.tup g1 r1)
    · have sm := same_upd (o := .tup (cutV xs o1 o2)) (I3.free hp).1
      exact q _ _ _ (s13.trans sm) (I3.laid hp) (.tup (.inl (.inl upd_same)) ((cutG_rps r1 o1 o2).mono sm))
  · split at h5
    · rename_i z hz
      cases h5
      exact .inr ⟨z, rx.str.1, hz, q F3 _ H3 s13 I3 (.str _ (sOk_cut rx.str.2 _ _))⟩
    · cases h5
  · cases h5
end

/-! ### built-in functions and types -/
section
variable {K : PySem.W.Frag}
theorem RpOs.one {F H : Hp} {xs : List V} {d : D} (h : RpOs K F H xs [d]) : ∃ x, xs = [x] ∧ RpO K F H x d := by
  cases h with
  | cons a b => cases b; exact ⟨_, rfl, a⟩
theorem RpOs.two {F H : Hp} {xs : List V} {d e : D} (h : RpOs K F H xs [d, e]) : ∃ x y, xs = [x, y] ∧ RpO K F H x d ∧ RpO K F H y e := by
  cases h with
  | cons a b => cases b with | cons b c => cases c; exact ⟨_, _, rfl, a, b⟩
def lenD : List D → Option D
  | [.str z] => if z.length ≤ sizeLine then some (.int z.length) else none
  | [.lst xs] => some (.int xs.length)
  | [.tup xs] => some (.int xs.length)
  | [.dic xs] => some (.int xs.length)
  | _ => none
def rLenDic : List V → Hp → VK → Prop := fun xs H Q => ∃ a kvs, xs = [V.ref a] ∧ Rd H a (.dK kvs) ∧ Q (.int kvs.length) H
theorem call_lenR {X : Cx} : CallR X (.builtin "len") rLenDic := by
  intro pins s σ H xs us Q I r h
  obtain ⟨a, kvs, rfl, ha, q⟩ := h
  obtain ⟨u, rfl, ru⟩ := vals1 r
  cases ru
  exact d_len I ha fun t s' I' => ⟨.int kvs.length, H, I', ⟨t, rfl⟩, q⟩
def rLenX (K : PySem.W.Frag) : List V → Hp → VK → Prop := fun xs H Q => (∃ x n, xs = [x] ∧ LenV K x H n ∧ Q (.int n) H) ∨ rLenDic xs H Q
theorem call_lenX {X : Cx} : CallR X (.builtin "len") (rLenX X.K) := call_len.or call_lenR
theorem Rpk.length {F : Hp} : ∀ {xs : List (Key × V)} {ds : List (Key × D)}, Rpk K F xs ds → xs.length = ds.length
  | _, _, .nil => rfl
  | _, _, .cons _ r => congrArg (· + 1) (Rpk.length r)
theorem cm_len : CallM K (rLenX K) lenD := by
  intro B F e σ H xs ds d Q I r hf q
  unfold lenD at hf
  split at hf
  · split at hf
    · rename_i z hz
      cases hf
      obtain ⟨x, rfl, rx⟩ := r.one
      refine .inl ⟨x, _, rfl, ?_, q F _ H (Same.refl F) I (.int _)⟩
      rw [rx.str.1]
      exact ⟨hz, rfl⟩
    · cases hf
  · cases hf
    obtain ⟨x, rfl, rx⟩ := r.one
    obtain ⟨a, ys, e1, t1, r1⟩ := rx.lst' I.sf
    refine .inl ⟨x, _, rfl, ?_, q F _ H (Same.refl F) I (.int _)⟩
    rw [e1]
    exact .inl ⟨ys, t1, r1.length.symm⟩
  · cases hf
    obtain ⟨x, rfl, rx⟩ := r.one
    obtain ⟨a, ys, e1, t1, _, r1⟩ := rx.tup' I.sf
    refine .inl ⟨x, _, rfl, ?_, q F _ H (Same.refl F) I (.int _)⟩
    rw [e1]
    exact .inr ⟨ys, t1, r1.length.symm⟩
  · cases hf
    obtain ⟨x, rfl, rx⟩ := r.one
    obtain ⟨a, ys, e1, t1, r1⟩ := rx.dic' I.sf
    refine .inr ⟨a, ys, by rw [e1], t1, ?_⟩
    rw [r1.length]
    exact q F _ H (Same.refl F) I (.int _)
  · cases hf
def intOfD : List D → Option D
  | [.int i] => some (.int i)
  | [.bl b] => some (.int (if b then 1 else 0))
  | _ => none
theorem cm_int : CallM K (fun xs H Q => (∃ i, xs = [.int i] ∧ Q (.int i) H) ∨ ∃ k, xs = [.bl k] ∧ Q (.int (if k then 1 else 0)) H) intOfD := by
  intro B F e σ H xs ds d Q I r hf q
  unfold intOfD at hf
  split at hf
  · cases hf
    obtain ⟨x, rfl, rx⟩ := r.one
    exact .inl ⟨_, by rw [rx.int], q F _ H (Same.refl F) I (.int _)⟩
  · cases hf
    obtain ⟨x, rfl, rx⟩ := r.one
    exact .inr ⟨_, by rw [rx.bl], q F _ H (Same.refl F) I (.int _)⟩
  · cases hf
def maxD : List D → Option D
  | [.int i, .int j] => some (.int (if j > i then j else i))
  | _ => none
theorem cm_max : CallM K (fun xs H Q => ∃ i j, xs = [.int i, .int j] ∧ Q (.int (if j > i then j else i)) H) maxD := by
  intro B F e σ H xs ds d Q I r hf q
  unfold maxD at hf
  split at hf
  · cases hf
    obtain ⟨x, y, rfl, rx, ry⟩ := r.two
    exact ⟨_, _, by rw [rx.int, ry.int], q F _ H (Same.refl F) I (.int _)⟩
  · cases hf
def minD : List D → Option D
  | [.int i, .int j] => some (.int (if j < i then j else i))
  | _ => none
theorem cm_min : CallM K (fun xs H Q => ∃ i j, xs = [.int i, .int j] ∧ Q (.int (if j < i then j else i)) H) minD := by
  intro B F e σ H xs ds d Q I r hf q
  unfold minD at hf
  split at hf
  · cases hf
    obtain ⟨x, y, rfl, rx, ry⟩ := r.two
    exact ⟨_, _, by rw [rx.int, ry.int], q F _ H (Same.refl F) I (.int _)⟩
  · cases hf
def tupD : List D → Option D
  | [.lst xs] => some (.tup xs)
  | [.tup xs] => some (.tup xs)
  | _ => none
theorem cm_tup : CallM K (fun xs H Q => ∃ p ys, xs = [.ref p] ∧ ((SqL K H p ys ∧ ∀ l, H l = none → Q (.ref l) (upd H l (.tup ys))) ∨ (SqT K H p ys ∧ Q (.ref p) H))) tupD := by
  intro B F e σ H xs ds d Q I r hf q
  unfold tupD at hf
  split at hf
  · cases hf
    obtain ⟨x, rfl, rx⟩ := r.one
    obtain ⟨a, ys, e1, t1, r1⟩ := rx.lst' I.sf
    refine ⟨a, ys, by rw [e1], .inl ⟨t1, fun p hp => ?_⟩⟩
    have sm := same_upd (o := .tup ys) (I.free hp).1
    exact q _ _ _ sm (I.laid hp) (.tup (.inl (.inl upd_same)) (r1.mono sm))
  · cases hf
    obtain ⟨x, rfl, rx⟩ := r.one
    obtain ⟨a, ys, e1, t1, g1, r1⟩ := rx.tup' I.sf
    exact ⟨a, ys, by rw [e1], .inr ⟨t1, q F _ H (Same.refl F) I (.tup g1 r1)⟩⟩
  · cases hf
def lstD : List D → Option D
  | [.lst xs] => some (.lst xs)
  | [.tup xs] => some (.lst xs)
  | _ => none
theorem cm_lst : CallM K (fun xs H Q => ∃ p ys, xs = [.ref p] ∧ (SqL K H p ys ∨ SqT K H p ys) ∧ ∀ l, H l = none → Q (.ref l) (upd H l (.lst ys))) lstD := by
  intro B F e σ H xs ds d Q I r hf q
  unfold lstD at hf
  split at hf
  · cases hf
    obtain ⟨x, rfl, rx⟩ := r.one
    obtain ⟨a, ys, e1, t1, r1⟩ := rx.lst' I.sf
    refine ⟨a, ys, by rw [e1], .inl t1, fun p hp => ?_⟩
    have sm := same_upd (o := .lst ys) (I.free hp).1
    exact q _ _ _ sm (I.laid hp) (.lst (.inl (.inl upd_same)) (r1.mono sm))
  · cases hf
    obtain ⟨x, rfl, rx⟩ := r.one
    obtain ⟨a, ys, e1, t1, g1, r1⟩ := rx.tup' I.sf
    refine ⟨a, ys, by rw [e1], .inr t1, fun p hp => ?_⟩
    have sm := same_upd (o := .lst ys) (I.free hp).1
    exact q _ _ _ sm (I.laid hp) (.lst (.inl (.inl upd_same)) (r1.mono sm))
  · cases hf
def bools : List D → Option (List Bool)
  | [] => some []
  | .bl b :: r => (bools r).map (b :: ·)
  | _ => none
theorem bools_rps {F : Hp} : ∀ {xs : List V} {ds : List D} {bs : List Bool}, Rps K F xs ds → bools ds = some bs → xs = bs.map V.bl
  | _, _, _, .nil, h => by cases h; rfl
  | _, _, _, .cons (d := d) r t, h => by
    cases d with
    | bl b =>
      obtain ⟨bs, h1, h2⟩ := Option.map_eq_some_iff.mp h
      subst h2
      cases r
      rw [bools_rps t h1]
      rfl
    | _ => cases h
def allD : List D → Option D
  | [.lst xs] => (bools xs).map fun bs => .bl (bs.all id)
  | _ => none
def anyD : List D → Option D
  | [.lst xs] => (bools xs).map fun bs => .bl (bs.any id)
  | _ => none
theorem cm_all : CallM K (rAll K) allD := by
  intro B F e σ H xs ds d Q I r hf q
  unfold allD at hf
  split at hf
  · obtain ⟨bs, h1, h2⟩ := Option.map_eq_some_iff.mp hf
    subst h2
    obtain ⟨x, rfl, rx⟩ := r.one
    obtain ⟨a, ys, e1, t1, r1⟩ := rx.lst' I.sf
    rw [bools_rps r1 h1] at t1
    exact ⟨a, bs, by rw [e1], t1, q F _ H (Same.refl F) I (.bl _)⟩
  · cases hf
theorem cm_any : CallM K (rAny K) anyD := by
  intro B F e σ H xs ds d Q I r hf q
  unfold anyD at hf
  split at hf
  · obtain ⟨bs, h1, h2⟩ := Option.map_eq_some_iff.mp hf
    subst h2
    obtain ⟨x, rfl, rx⟩ := r.one
    obtain ⟨a, ys, e1, t1, r1⟩ := rx.lst' I.sf
    rw [bools_rps r1 h1] at t1
    exact ⟨a, bs, by rw [e1], t1, q F _ H (Same.refl F) I (.bl _)⟩
  · cases hf
/-! isinstance -/
def D.cls : D → Option String
  | .non => some "NoneType"
  | .bl _ => some "bool"
  | .int _ => some "int"
  | .str _ => some "str"
  | .lst _ => some "list"
  | .tup _ => some "tuple"
  | .dic _ => some "dict"
  | _ => none
def isaQ : String → String → Option Bool
  | "str", "str" => some true
  | "list", "list" => some true
  | "tuple", "tuple" => some true
  | "dict", "dict" => some true
  | "int", "int" => some true
  | "bool", "bool" => some true
  | "bool", "int" => some true
  | a, b => if a ∈ ["NoneType", "bool", "int", "str", "list", "tuple", "dict"] ∧ b ∈ ["bool", "int", "str", "list", "tuple", "dict"] then some false else none
def isaD : List D → Option D
  | [d, .ty T] => d.cls.bind fun c => (isaQ c T).map .bl
  | _ => none
theorem tyX_of {F H : Hp} {x : V} {d : D} {c : String} (sf : Same F H) (r : RpO K F H x d) (h : d.cls = some c) : TyX K H x (.type c) := by
  cases d with
  | non => cases h; rw [r.non]; exact .base .non
  | bl b => cases h; rw [r.bl]; exact .base (.bl _)
  | int b => cases h; rw [r.int]; exact .base (.int _)
  | str b => cases h; rw [r.str.1]; exact .base (.str _)
  | lst ds =>
    cases h
    obtain ⟨a, xs, rfl, t, _⟩ := r.lst' sf
    rcases t with (t | ⟨o, t⟩) | ⟨o, its, n, k, c, _⟩
    · exact .base (.lst t)
    · exact .base (.frz t)
    · exact .kList k c
  | tup ds =>
    cases h
    obtain ⟨a, xs, rfl, t, _⟩ := r.tup' sf
    rcases t with (t | ⟨o, t⟩) | ⟨o, its, n, k, c, _⟩
    · exact .base (.tup t)
    · exact .fTuple t
    · exact .kTuple k c
  | dic ds =>
    cases h
    obtain ⟨a, xs, rfl, t, _⟩ := r.dic' sf
    rcases t with t | ⟨o, t⟩
    · exact .base (.dK t)
    · exact .fDict t
  | ty n => cases h
  | fn a => cases h
  | ob c es => cases h
end
end M

namespace M
open PySem PySem.Spec PyProof.Rows L2

theorem isa_kit {K : PySem.W.Frag} {a b : String} {r : Bool} (h : isaQ a b = some r) : PySem.W.kitOne K (.type a) (.type b) = some r := by
  apply kit_ty
  unfold isaQ at h
  split at h
  all_goals first
    | (cases h; decide +kernel)
    | (split at h
       · rename_i hm
         cases h
         obtain ⟨h1, h2⟩ := hm
         simp only [List.mem_cons, List.not_mem_nil, or_false] at h1 h2
         rcases h1 with rfl | rfl | rfl | rfl | rfl | rfl | rfl <;> rcases h2 with rfl | rfl | rfl | rfl | rfl | rfl <;> first
           | decide +kernel
           | (exfalso; simp_all)
       · cases h)
theorem cm_isa {K : PySem.W.Frag} : CallM K (rIsi K) isaD := by
  intro B F e σ H xs ds d Q I r hf q
  unfold isaD at hf
  split at hf
  · obtain ⟨c, h1, hf⟩ := bnd hf
    obtain ⟨k, h2, h3⟩ := Option.map_eq_some_iff.mp hf
    subst h3
    obtain ⟨x, y, rfl, rx, ry⟩ := r.two
    exact ⟨x, _, _, _, k, by rw [ry.ty], .ty _, tyX_of I.sf rx h1, isa_kit h2, q F _ H (Same.refl F) I (.bl _)⟩
  · cases hf
theorem je_ty {X : Cx} {np : Nat} {x : Str} {T : String} {pos : Pos} (hg : Gl X x) (hm : X.mg x = none) (hv : bootBuiltins x = some (.type T)) (hn : x ≠ "__name__" := by decide) (hd : (x == ("__debug__" : Str)) = false := by decide) :
    JE X np (.Name x pos) (tC (.ty T)) (fC (.ty T)) := je_c (pe_bltn hg hm hv (show RelV (.ty T) _ from rfl) hn hd) fun _ => .ty T

/-! ### methods of texts -/
def strsOf : List D → Option (List Str)
  | [] => some []
  | .str s :: r => (strsOf r).map (s :: ·)
  | _ => none
theorem strs_rps {K : PySem.W.Frag} {F : Hp} : ∀ {xs : List V} {ds : List D} {ss : List Str}, Rps K F xs ds → strsOf ds = some ss → xs = ss.map V.str ∧ ∀ s ∈ ss, sOk s
  | _, _, _, .nil, h => by cases h; exact ⟨rfl, fun _ z => nomatch z⟩
  | _, _, _, .cons (d := d) r t, h => by
    cases d with
    | str b =>
      obtain ⟨bs, h1, h2⟩ := Option.map_eq_some_iff.mp h
      subst h2
      cases r with
      | str _ hb =>
        obtain ⟨e, f⟩ := strs_rps t h1
        refine ⟨by rw [e]; rfl, fun s hs => ?_⟩
        rcases List.mem_cons.mp hs with z | z
        · rw [z]; exact hb
        · exact f s z
    | _ => cases h
def joinD (x y : D) : Option D := match x, y with
  | .str a, .lst ds => (strsOf ds).bind fun ys => if (ys.map (·.length)).sum + ys.length * a.length ≤ 16777216 then some (.str (Str.join a ys)) else none
  | _, _ => none
def upperD (x : D) : Option D := match x with
  | .str a => if (∀ c ∈ a.cps.toList, c < 128) ∧ a.length ≤ 5592405 then some (.str (Txt.upper a)) else none
  | _ => none
def fM1 (g : D → D → Option D) (k l : FK) : FE := fun e => (k e).bind fun p => match p.2 p.1 with
  | some (.str a) => (l p.1).bind fun q => (q.2 q.1).bind fun y => (g (.str a) y).bind fun d => some (q.1, d)
  | _ => none
def fM0 (g : D → Option D) (k : FK) : FE := fun e => (k e).bind fun p => match p.2 p.1 with
  | some (.str a) => (g (.str a)).bind fun d => some (p.1, d)
  | _ => none
/-- a text's method of one argument, of none -/
def M1M (K : PySem.W.Frag) (r : V → List V → Hp → VK → Prop) (g : D → D → Option D) : Prop :=
  ∀ (B : Bs) (F : Hp) (e : Sls) (σ : L2.St) (H : Hp) (a : Str) (y : V) (dy d : D) (Q : VK), IV K B F e σ H → sOk a → RpO K F H y dy → g (.str a) dy = some d →
    (∀ (F' : Hp) (v : V) (H' : Hp), Same F F' → IV K B F' e σ H' → Rp K F' v d → Q v H') → r (.str a) [y] H Q
def M0M (K : PySem.W.Frag) (r : V → List V → Hp → VK → Prop) (g : D → Option D) : Prop :=
  ∀ (B : Bs) (F : Hp) (e : Sls) (σ : L2.St) (H : Hp) (a : Str) (d : D) (Q : VK), IV K B F e σ H → sOk a → g (.str a) = some d →
    (∀ (F' : Hp) (v : V) (H' : Hp), Same F F' → IV K B F' e σ H' → Rp K F' v d → Q v H') → r (.str a) [] H Q
section
variable {X : Cx} {np : Nat} {o a : Expr} {to te : TE} {k l : FK} {id : String} {name : Str} {apos pos : Pos} {r : V → List V → Hp → VK → Prop}
theorem je_m1 {g : D → D → Option D} (slot : Slot "str" name id) (ty : typeOf (.builtin id) = pure (.type "method_descriptor")) (rule : MtR X id r) (hm : M1M X.K r g) (ho : JK X np o to k) (ha : JK X np a te l)
    (hs : starEach [a] X.env = [(false, eval a X.env)] := by rfl) (hbase : attributeBase o name X.env (eval o X.env) = eval o X.env := by rfl) (hline : (apos.endLine == pos.line) = true := by rfl) :
    JE X np (.Call (.Attribute o name apos) [a] [] pos) (tM1 r to te) (fM1 g k l) := by
  refine ⟨pe_m1 slot ty rule ho.pe ha.pe hs hbase hline, fun B F e σ H Q hn I e' d hf q => ?_⟩
  obtain ⟨⟨e1, r1⟩, h1, hf⟩ := bnd hf
  split at hf
  · rename_i z hz
    obtain ⟨⟨e2, r2⟩, h2, hf⟩ := bnd hf
    obtain ⟨y, h3, hf⟩ := bnd hf
    obtain ⟨d', h4, hf⟩ := bnd hf
    cases hf
    refine ho.de B F e σ H _ hn I e1 r1 h1 fun F1 v1 H1 s1 I1 l1 => ?_
    have rx := l1 F1 e1 H1 _ (Same.refl _) I1 hz
    rw [rx.str.1]
    refine ⟨⟨z, rfl⟩, ha.de B F1 e1 σ H1 _ hn I1 e2 r2 h2 fun F2 v2 H2 s2 I2 l2 => ?_⟩
    exact hm B F2 e2 σ H2 z v2 y d Q I2 rx.str.2 (l2 F2 e2 H2 y (Same.refl _) I2 h3) h4 fun F' v H' s I' rp => q F' v H' (s1.trans (s2.trans s)) I' rp
  · cases hf
theorem je_m0 {g : D → Option D} (slot : Slot "str" name id) (ty : typeOf (.builtin id) = pure (.type "method_descriptor")) (rule : MtR X id r) (hm : M0M X.K r g) (ho : JK X np o to k)
    (hbase : attributeBase o name X.env (eval o X.env) = eval o X.env := by rfl) (hline : (apos.endLine == pos.line) = true := by rfl) :
    JE X np (.Call (.Attribute o name apos) [] [] pos) (tM0 r to) (fM0 g k) := by
  refine ⟨pe_m0 slot ty rule ho.pe hbase hline, fun B F e σ H Q hn I e' d hf q => ?_⟩
  obtain ⟨⟨e1, r1⟩, h1, hf⟩ := bnd hf
  split at hf
  · rename_i z hz
    obtain ⟨d', h4, hf⟩ := bnd hf
    cases hf
    refine ho.de B F e σ H _ hn I e1 r1 h1 fun F1 v1 H1 s1 I1 l1 => ?_
    have rx := l1 F1 e1 H1 _ (Same.refl _) I1 hz
    rw [rx.str.1]
    exact ⟨⟨z, rfl⟩, hm B F1 e1 σ H1 z d Q I1 rx.str.2 h4 fun F' v H' s I' rp => q F' v H' (s1.trans s) I' rp⟩
  · cases hf
end
theorem sOk_ofString (s : String) : sOk (Str.ofString s) := by
  intro c hc
  rw [Str.ofString_eq_toList] at hc
  simp only [List.toList_toArray, List.mem_map] at hc
  obtain ⟨x, _, rfl⟩ := hc
  have h := x.valid
  simp only [UInt32.isValidChar, Nat.isValidChar] at h
  show x.val.toNat < 1114112
  omega
theorem sOk_join {a : Str} (ha : sOk a) : ∀ {ys : List Str}, (∀ s ∈ ys, sOk s) → sOk (Str.join a ys)
  | [], _ => fun c hc => nomatch (show c ∈ ([] : List Nat) from hc)
  | [x], h => h x (by simp)
  | x :: y :: r, h => sOk_append (a := x ++ a) (b := Str.join a (y :: r)) (sOk_append (h x (by simp)) ha) (sOk_join ha fun s hs => h s (List.mem_cons_of_mem _ hs))
theorem mm_join {K : PySem.W.Frag} : M1M K (fun x xs H Q => ∃ a p, ∃ ys : List Str, x = .str a ∧ xs = [.ref p] ∧ (SqL K H p (ys.map V.str) ∨ SqT K H p (ys.map V.str)) ∧
    (ys.map (·.length)).sum + ys.length * a.length ≤ 16777216 ∧ Q (.str (Txt.join a ys)) H) joinD := by
  intro B F e σ H a y dy d Q I ha ry hf q
  unfold joinD at hf
  split at hf
  · rename_i b ds hab
    cases hab
    obtain ⟨ys, h1, hf⟩ := bnd hf
    split at hf
    · rename_i hz
      cases hf
      obtain ⟨p, xs, e1, t1, r1⟩ := ry.lst' I.sf
      obtain ⟨e2, ok⟩ := strs_rps r1 h1
      subst e2
      refine ⟨a, p, ys, rfl, by rw [e1], .inl t1, hz, ?_⟩
      rw [show Txt.join a ys = Str.join a ys from TL.join_eq a ys]
      exact q F _ H (Same.refl F) I (.str _ (sOk_join ha ok))
    · cases hf
  · cases hf
theorem mm_upper {K : PySem.W.Frag} : M0M K (fun x xs H Q => ∃ a, x = .str a ∧ xs = [] ∧ a.length ≤ 5592405 ∧ Q (.str (Txt.upper a)) H) upperD := by
  intro B F e σ H a d Q I ha hf q
  unfold upperD at hf
  simp only at hf
  split at hf
  · rename_i hz
    cases hf
    refine ⟨a, rfl, rfl, hz.2, q F _ H (Same.refl F) I (.str _ ?_)⟩
    rw [upper_ascii hz.1]
    intro c hc
    simp only [Array.toList_map, List.mem_map] at hc
    obtain ⟨b, hb, rfl⟩ := hc
    have := hz.1 b hb
    unfold up1
    split <;> omega
  · cases hf
def strOfD : List D → Option D
  | [.int i] => if i.natAbs.log2 < 1920 then some (.str (Str.ofString (toString i))) else none
  | _ => none
theorem cm_str {K : PySem.W.Frag} : CallM K (fun xs H Q => ∃ i : Int, xs = [.int i] ∧ i.natAbs.log2 < 1920 ∧ Q (.str (toString i)) H) strOfD := by
  intro B F e σ H xs ds d Q I r hf q
  unfold strOfD at hf
  split at hf
  · split at hf
    · rename_i hz
      cases hf
      obtain ⟨x, rfl, rx⟩ := r.one
      exact ⟨_, by rw [rx.int], hz, q F _ H (Same.refl F) I (.str _ (sOk_ofString _))⟩
    · cases hf
  · cases hf
end M

namespace M
open PySem PySem.Spec PyProof.Rows L2

/-! ### what is walked -/
def ItOk (K : PySem.W.Frag) (F : Hp) (J : It) (ds : List D) : Prop :=
  ∀ (F2 : Hp) (B : Bs) (e : Sls) (σ : L2.St) (H : Hp), Same F F2 → IV K B F2 e σ H → (∀ i, i < ds.length → J.go i H) ∧ J.stop ds.length H ∧
    ∀ i x H2, i < ds.length → J.yld i H x H2 → ∃ F3 d, Same F2 F3 ∧ IV K B F3 e σ H2 ∧ ds[i]? = some d ∧ Rp K F3 x d
abbrev FI := Sls → Option (Sls × List D)
def DI (K : PySem.W.Frag) (np : Nat) (wi : TI) (f : FI) : Prop :=
  ∀ (B : Bs) (F : Hp) (e : Sls) (σ : L2.St) (H : Hp) (R : It → Hp → Prop), B.np = np → IV K B F e σ H → ∀ (e' : Sls) (ds : List D), f e = some (e', ds) →
    (∀ (F' : Hp) (J : It) (H' : Hp), Same F F' → IV K B F' e' σ H' → ItOk K F' J ds → R J H') → wi σ H R
structure JI (X : Cx) (np : Nat) (tg iter : Expr) (wi : TI) (f : FI) : Prop where
  pi : PI X tg iter wi
  de : DI X.K np wi f
def chars (z : Str) : List D := z.cps.toList.map fun c => .str ⟨#[c]⟩
def fIt (f : FE) : FI := fun e => (f e).bind fun p => match p.2 with
  | .lst ds => some (p.1, ds)
  | .tup ds => some (p.1, ds)
  | .str z => some (p.1, chars z)
  | _ => none
def iSeq (K : PySem.W.Frag) (t : TE) : TI := fun σ H R => (iList K t σ H R ∨ iTup K t σ H R) ∨ iStr t σ H R
theorem pi_or {X : Cx} {tg it : Expr} {w1 w2 : TI} (h1 : PI X tg it w1) (h2 : PI X tg it w2) : PI X tg it (fun σ H R => w1 σ H R ∨ w2 σ H R) := by
  refine ⟨fun pins s σ H R I h => ?_⟩
  rcases h with h | h
  · exact h1.run pins s σ H R I h
  · exact h2.run pins s σ H R I h
theorem itOk_list {K : PySem.W.Frag} {F : Hp} {a : Addr} {xs : List V} {ds : List D} (h : SqL K F a xs) (r : Rps K F xs ds) : ItOk K F (Itl K a) ds := by
  intro F2 B e σ H s I
  have hq : SqL K H a xs := I.sf.seq (s.seq h)
  have l := r.length
  refine ⟨fun i hi => ⟨xs, xs[i]'(by omega), hq, by simp [l, hi]⟩, ⟨xs, hq, by omega⟩, fun i x H2 hi y => ?_⟩
  obtain ⟨rfl, y⟩ := y
  obtain ⟨d, h1, h2⟩ := (r.mono s).get (y xs hq)
  exact ⟨F2, d, Same.refl _, I, h1, h2⟩
theorem itOk_tup {K : PySem.W.Frag} {F : Hp} {a : Addr} {xs : List V} {ds : List D} (h : SqT K F a xs) (r : Rps K F xs ds) : ItOk K F (Itt K a) ds := by
  intro F2 B e σ H s I
  have hq : SqT K H a xs := sqt_mono I.sf (sqt_mono s h)
  have l := r.length
  refine ⟨fun i hi => ⟨xs, xs[i]'(by omega), hq, by simp [l, hi]⟩, ⟨xs, hq, by omega⟩, fun i x H2 hi y => ?_⟩
  obtain ⟨rfl, y⟩ := y
  obtain ⟨d, h1, h2⟩ := (r.mono s).get (y xs hq)
  exact ⟨F2, d, Same.refl _, I, h1, h2⟩
theorem itOk_str {K : PySem.W.Frag} {F : Hp} {z : Str} (h : sOk z) : ItOk K F (Its z) (chars z) := by
  intro F2 B e σ H s I
  have l : (chars z).length = z.cps.size := by unfold chars; simp
  refine ⟨fun i hi => by rw [l] at hi; exact hi, Nat.le_of_eq l.symm, fun i x H2 hi y => ?_⟩
  obtain ⟨rfl, c, hc, rfl⟩ := y
  have hc' : z.cps.toList[i]? = some c := by rw [Array.getElem?_toList]; exact hc
  refine ⟨F2, .str ⟨#[c]⟩, Same.refl _, I, ?_, .str _ (sOk_one h (List.mem_of_getElem? hc'))⟩
  unfold chars
  rw [List.getElem?_map, hc'] <;> rfl
def rngD (lo : Int) (n : Nat) : List D := (List.range n).map fun i => .int (lo + (i : Nat))
theorem itOk_range {K : PySem.W.Frag} {F : Hp} {lo : Int} {n : Nat} : ItOk K F (Itr lo n) (rngD lo n) := by
  intro F2 B e σ H s I
  have l : (rngD lo n).length = n := by unfold rngD; simp
  refine ⟨fun i hi => by rw [l] at hi; exact hi, Nat.le_of_eq l.symm, fun i x H2 hi y => ?_⟩
  obtain ⟨rfl, rfl⟩ := y
  rw [l] at hi
  refine ⟨F2, .int (lo + (i : Nat)), Same.refl _, I, ?_, .int _⟩
  unfold rngD
  rw [List.getElem?_map, List.getElem?_range hi] <;> rfl
/-- (told so that the kernel does not go through a great literal one by one) -/
def rngB : Int → Bool
  | .ofNat n => Nat.ble n 8000000
  | .negSucc n => Nat.ble n 8000000
theorem rngB_of {j : Int} (h : rngB j = true) : -(2 ^ 62) ≤ j ∧ j < 2 ^ 62 := by
  have key : ∀ n : Nat, Nat.ble n 8000000 = true → n ≤ 8000000 := fun n h => Nat.le_of_ble_eq_true h
  cases j with
  | ofNat n => have := key n h; exact ⟨by have : (0 : Int) ≤ Int.ofNat n := Int.natCast_nonneg n; omega, by have : Int.ofNat n ≤ 8000000 := Int.ofNat_le.mpr this; omega⟩
  | negSucc n =>
    have := key n h
    have e : Int.negSucc n = -((n : Int) + 1) := by omega
    have l : (n : Int) ≤ 8000000 := Int.ofNat_le.mpr this
    have g : (0 : Int) ≤ n := Int.natCast_nonneg n
    rw [e]
    generalize (n : Int) = k at l g
    exact ⟨by omega, by omega⟩
theorem rngB_n {n : Nat} (h : n ≤ 8000000) : rngB (n : Int) = true := Nat.ble_eq_true_of_le h
theorem rngB_i {j : Int} (h0 : 0 ≤ j) (h : j ≤ 8000000) : rngB j = true := by
  obtain ⟨n, rfl⟩ := Int.eq_ofNat_of_zero_le h0
  exact rngB_n (Int.ofNat_le.mp h)
def fRng1 (k : FKs) : FI := fun e => (k e).bind fun p => match p.2 p.1 with
  | some [.int j] => if rngB j = true then some (p.1, rngD 0 j.toNat) else none
  | _ => none
def fRng2 (k : FKs) : FI := fun e => (k e).bind fun p => match p.2 p.1 with
  | some [.int i, .int j] => if rngB i = true ∧ rngB j = true then some (p.1, rngD i (j - i).toNat) else none
  | _ => none
section
variable {X : Cx} {np : Nat} {tg a b : Expr} {t : TE} {ta : TA} {f : FE} {k : FKs} {p pos : Pos}
theorem ji_seq (h : JE X np a t f) : JI X np tg a (iSeq X.K t) (fIt f) := by
  refine ⟨pi_or (pi_or (pi_list h.pe) (pi_tup h.pe)) (pi_str h.pe), fun B F e σ H R hn I e' ds hf q => ?_⟩
  obtain ⟨⟨e1, d⟩, h1, hf⟩ := bnd hf
  cases d with
  | lst ds =>
    cases hf
    refine .inl (.inl (h.de B F e σ H _ hn I e1 _ h1 fun F' v H' s I' r => ?_))
    cases r with
    | lst r1 r2 => exact ⟨_, rfl, ⟨_, I'.sf.seq r1⟩, q F' _ H' s I' (itOk_list r1 r2)⟩
  | tup ds =>
    cases hf
    refine .inl (.inr (h.de B F e σ H _ hn I e1 _ h1 fun F' v H' s I' r => ?_))
    cases r with
    | tup r1 r2 => exact ⟨_, rfl, ⟨_, sqt_mono I'.sf r1⟩, q F' _ H' s I' (itOk_tup r1 r2)⟩
  | str z =>
    cases hf
    refine .inr (h.de B F e σ H _ hn I e1 _ h1 fun F' v H' s I' r => ?_)
    cases r with
    | str _ hz => exact ⟨_, rfl, q F' _ H' s I' (itOk_str hz)⟩
  | _ => cases hf
theorem ji_range1 (hg : Gl X "range") (hm : X.mg "range" = none) (ha : JKs X np [a] ta k) (hs : starEach [a] X.env = [(false, eval a X.env)] := by rfl) : JI X np tg (.Call (.Name "range" p) [a] [] pos) (iRng1 ta) (fRng1 k) := by
  refine ⟨pi_range1 hg hm ha.pa hs, fun B F e σ H R hn I e' ds hf q => ?_⟩
  obtain ⟨⟨e1, r⟩, h1, hf⟩ := bnd hf
  refine ha.de B F e σ H _ hn I e1 r h1 fun F' vs H' s I' l => ?_
  split at hf
  · rename_i j hj
    split at hf
    · rename_i hb
      cases hf
      obtain ⟨x, e2, rx⟩ := (l F' e1 H' _ (Same.refl _) I' hj).one
      exact ⟨j, by rw [e2, rx.int], (rngB_of hb).1, (rngB_of hb).2, q F' _ H' s I' itOk_range⟩
    · cases hf
  · cases hf
theorem ji_range2 (hg : Gl X "range") (hm : X.mg "range" = none) (ha : JKs X np [a, b] ta k) (hs : starEach [a, b] X.env = [(false, eval a X.env), (false, eval b X.env)] := by rfl) (hs2 : starEach [b] X.env = [(false, eval b X.env)] := by rfl) :
    JI X np tg (.Call (.Name "range" p) [a, b] [] pos) (iRng2 ta) (fRng2 k) := by
  refine ⟨pi_range2 hg hm ha.pa hs hs2, fun B F e σ H R hn I e' ds hf q => ?_⟩
  obtain ⟨⟨e1, r⟩, h1, hf⟩ := bnd hf
  refine ha.de B F e σ H _ hn I e1 r h1 fun F' vs H' s I' l => ?_
  split at hf
  · rename_i i j hj
    split at hf
    · rename_i hb
      cases hf
      obtain ⟨x, y, e2, rx, ry⟩ := (l F' e1 H' _ (Same.refl _) I' hj).two
      exact ⟨i, j, by rw [e2, rx.int, ry.int], ⟨(rngB_of hb.1).1, (rngB_of hb.1).2, (rngB_of hb.2).1, (rngB_of hb.2).2⟩, q F' _ H' s I' itOk_range⟩
    · cases hf
  · cases hf
/-- a new pair at each turn -/
theorem itOk_pairs {K : PySem.W.Frag} {F : Hp} {J : It} {ds : List D} {xs ys : Nat → Option V} (w : ∀ H, Same F H → Walk J ds.length (fun H => Same F H) (YPair xs ys))
    (h : ∀ i, i < ds.length → ∀ x y, xs i = some x → ys i = some y → ∃ d e, ds[i]? = some (.tup [d, e]) ∧ Rp K F x d ∧ Rp K F y e) : ItOk K F J ds := by
  intro F2 B e σ H s I
  have sH := s.trans I.sf
  have w := w H sH
  refine ⟨fun i hi => w.goes i H hi sH, w.stops H sH, fun i x H2 hi y => ?_⟩
  obtain ⟨T, x1, y1, rfl, hT, rfl, e1, e2⟩ := w.yields i H x H2 hi sH y
  obtain ⟨d, d2, e3, r1, r2⟩ := h i hi x1 y1 e1 e2
  have sm := same_upd (o := .tup [x1, y1]) (I.free hT).1
  have s2 := s.trans sm
  exact ⟨_, _, sm, I.laid hT, e3, .tup (.inl (.inl upd_same)) (.cons (r1.mono s2) (.cons (r2.mono s2) .nil))⟩
def pairs : List D → List D → List D
  | x :: xs, y :: ys => .tup [x, y] :: pairs xs ys
  | _, _ => []
theorem pairs_length : ∀ xs ys, (pairs xs ys).length = min xs.length ys.length
  | [], _ => by simp [pairs]
  | _ :: _, [] => by simp [pairs]
  | _ :: xs, _ :: ys => by simp [pairs, pairs_length xs ys]
theorem pairs_get : ∀ (xs ys : List D) (i : Nat) (x y : D), xs[i]? = some x → ys[i]? = some y → (pairs xs ys)[i]? = some (.tup [x, y])
  | [], _, _, _, _, h, _ => by simp at h
  | _ :: _, [], _, _, _, _, h => by simp at h
  | a :: xs, b :: ys, 0, x, y, h, h2 => by simp at h h2; subst h; subst h2; rfl
  | a :: xs, b :: ys, i + 1, x, y, h, h2 => by
    show (pairs xs ys)[i]? = _
    exact pairs_get xs ys i x y (by simpa using h) (by simpa using h2)
def fZip (k : FEs) : FI := fun e => (k e).bind fun p => match p.2 with
  | [.lst xs, .lst ys] => some (p.1, pairs xs ys)
  | _ => none
theorem ji_zip {n : Nat} {k : FEs} (hg : Gl X "zip") (hm : X.mg "zip" = none) (ha : JEs X np [a, b] n ta k) (hz : PI X tg (.Call (.Name "zip" p) [a, b] [] pos) (iZip X.K ta)) : JI X np tg (.Call (.Name "zip" p) [a, b] [] pos) (iZip X.K ta) (fZip k) := by
  refine ⟨hz, fun B F e σ H R hn I e' ds hf q => ?_⟩
  obtain ⟨⟨e1, l⟩, h1, hf⟩ := bnd hf
  refine ha.de B F e σ H _ hn I e1 l h1 fun F' vs H' s I' r _ => ?_
  split at hf
  · rename_i xs ys hl
    simp only at hl
    subst hl
    cases hf
    cases r with
    | cons r1 r2 =>
      cases r2 with
      | cons r2 r3 =>
        cases r3
        cases r1 with
        | @lst pa us _ a1 a2 =>
          cases r2 with
          | @lst pb ws _ b1 b2 =>
            refine ⟨pa, pb, us, ws, rfl, I'.sf.seq a1, I'.sf.seq b1, q F' _ H' s I' (itOk_pairs (xs := fun i => us[i]?) (ys := fun i => ws[i]?) (fun H0 _ => ?_) fun i hi x y e1 e2 => ?_)⟩
            · exact (walk_zip (a := pa) (b := pb) (K := X.K) (by rw [pairs_length, a2.length, b2.length])).mono (fun H h => ⟨h.seq a1, h.seq b1⟩) fun _ _ _ _ _ _ h => h
            · obtain ⟨d, g1, g2⟩ := a2.get e1
              obtain ⟨d2, g3, g4⟩ := b2.get e2
              exact ⟨d, d2, pairs_get _ _ _ _ _ g1 g3, g2, g4⟩
  · cases hf
def numbered (ds : List D) : List D := pairs (rngD 0 ds.length) ds
def fEnum (k : FEs) : FI := fun e => (k e).bind fun p => match p.2 with
  | [.lst xs] => some (p.1, numbered xs)
  | _ => none
theorem ints_get {lo : Int} {n i : Nat} (h : i < n) : (rngD lo n)[i]? = some (.int (lo + (i : Nat))) := by
  unfold rngD
  rw [List.getElem?_map, List.getElem?_range h] <;> rfl
theorem numbered_length (ds : List D) : (numbered ds).length = ds.length := by
  unfold numbered
  rw [pairs_length]
  simp [rngD]
theorem ji_enum {n : Nat} {k : FEs} (ha : JEs X np [a] n ta k) (hz : PI X tg (.Call (.Name "enumerate" p) [a] [] pos) (iEnum X.K ta)) : JI X np tg (.Call (.Name "enumerate" p) [a] [] pos) (iEnum X.K ta) (fEnum k) := by
  refine ⟨hz, fun B F e σ H R hn I e' ds hf q => ?_⟩
  obtain ⟨⟨e1, l⟩, h1, hf⟩ := bnd hf
  refine ha.de B F e σ H _ hn I e1 l h1 fun F' vs H' s I' r _ => ?_
  split at hf
  · rename_i xs hl
    simp only at hl
    subst hl
    cases hf
    cases r with
    | cons r1 r2 =>
      cases r2
      cases r1 with
      | @lst pa us _ a1 a2 =>
        refine ⟨pa, us, rfl, I'.sf.seq a1, q F' _ H' s I' (itOk_pairs (xs := fun i => some (.int (i : Nat))) (ys := fun i => us[i]?) (fun H0 _ => ?_) fun i hi x y e1 e2 => ?_)⟩
        · rw [numbered_length, ← a2.length]
          exact (walk_enum (a := pa) (K := X.K)).mono (fun H h => h.seq a1) fun _ _ _ _ _ _ h => h
        · obtain ⟨d, g1, g2⟩ := a2.get e2
          rw [numbered_length] at hi
          cases e1
          refine ⟨.int (i : Nat), d, pairs_get _ _ _ _ _ ?_ g1, .int _, g2⟩
          rw [ints_get hi]
          simp
  · cases hf
end

/-! ### targets -/
abbrev FG := Sls → D → Option Sls
abbrev FGs := Sls → List D → Option Sls
def Out (ts : List Nat) (σ σ' : L2.St) : Prop := σ'.length = σ.length ∧ ∀ i, i ∉ ts → σ'[i]? = σ[i]?
def DG (K : PySem.W.Frag) (np : Nat) (ts : List Nat) (g : TG) (b : FG) : Prop :=
  ∀ (B : Bs) (F : Hp) (e : Sls) (σ : L2.St) (H : Hp) (v : V) (d : D) (Q : L2.St → Hp → Prop), B.np = np → IV K B F e σ H → Rp K F v d → ∀ e', b e d = some e' →
    (∀ (F' : Hp) (σ' : L2.St) (H' : Hp), Same F F' → IV K B F' e' σ' H' → Out ts σ σ' → Q σ' H') → g v σ H Q
def DGs (K : PySem.W.Frag) (np : Nat) (ts : List Nat) (g : TGs) (b : FGs) : Prop :=
  ∀ (B : Bs) (F : Hp) (e : Sls) (σ : L2.St) (H : Hp) (vs : List V) (ds : List D) (Q : L2.St → Hp → Prop), B.np = np → IV K B F e σ H → Rps K F vs ds → ∀ e', b e ds = some e' →
    (∀ (F' : Hp) (σ' : L2.St) (H' : Hp), Same F F' → IV K B F' e' σ' H' → Out ts σ σ' → Q σ' H') → g vs σ H Q
structure JG (X : Cx) (np : Nat) (tg : Expr) (ts : List Nat) (g : TG) (b : FG) : Prop where
  pg : PG X tg g
  de : DG X.K np ts g b
structure JGs (X : Cx) (np : Nat) (tg : List Expr) (n : Nat) (ts : List Nat) (g : TGs) (b : FGs) : Prop where
  pgs : PGs X tg g
  len : tg.length = n
  de : DGs X.K np ts g b
def bName (i : Nat) : FG := fun e d => some (e.set i (.im d))
def bNil : FGs := fun e ds => match ds with | [] => some e | _ => none
def bCons (b : FG) (bs : FGs) : FGs := fun e ds => match ds with | d :: r => (b e d).bind fun e1 => bs e1 r | _ => none
def bTup (n : Nat) (bs : FGs) : FG := fun e d => match d with | .tup ds => if ds.length = n then bs e ds else none | _ => none
section
variable {X : Cx} {np : Nat}
theorem jg_name {i : Nat} {x : Str} {pos : Pos} (h : PG X (.Name x pos) (gName i)) (hi : np ≤ i := by decide) : JG X np (.Name x pos) [i] (gName i) (bName i) := by
  refine ⟨h, fun B F e σ H v d Q hn I r e' hb q => ?_⟩
  cases hb
  refine q F _ H (Same.refl F) (I.set (by rw [hn]; exact hi) r) ⟨by rw [List.length_set], fun j hj => ?_⟩
  rw [List.getElem?_set_ne (fun z => hj (by rw [z]; exact List.mem_singleton.mpr rfl))]
theorem jgs_nil : JGs X np [] 0 [] gNil bNil := by
  refine ⟨pgs_nil, rfl, fun B F e σ H vs ds Q hn I r e' hb q => ?_⟩
  cases r with
  | nil => cases hb; exact ⟨rfl, q F σ H (Same.refl F) I ⟨rfl, fun _ _ => rfl⟩⟩
  | cons _ _ => cases hb
theorem jgs_cons {e : Expr} {es : List Expr} {n : Nat} {ts us : List Nat} {g : TG} {gs : TGs} {b : FG} {bs : FGs} (h : JG X np e ts g b) (h2 : JGs X np es n us gs bs) (hs : (assignEach (e :: es) X.env).map (·.2) = assign e X.env :: (assignEach es X.env).map (·.2) := by rfl) : JGs X np (e :: es) (n + 1) (ts ++ us) (gCons g gs) (bCons b bs) := by
  refine ⟨pgs_cons h.pg h2.pgs hs, by rw [List.length_cons, h2.len], fun B F e σ H vs ds Q hn I r e' hb q => ?_⟩
  cases r with
  | nil => cases hb
  | cons r1 r2 =>
    obtain ⟨e1, h3, hb⟩ := bnd hb
    refine ⟨_, _, rfl, h.de B F e σ H _ _ _ hn I r1 e1 h3 fun F' σ' H' s I' o => ?_⟩
    refine h2.de B F' e1 σ' H' _ _ _ hn I' (r2.mono s) e' hb fun F2 σ2 H2 s2 I2 o2 => ?_
    refine q F2 σ2 H2 (s.trans s2) I2 ⟨o2.1.trans o.1, fun i hi => ?_⟩
    rw [o2.2 i fun z => hi (List.mem_append_right _ z), o.2 i fun z => hi (List.mem_append_left _ z)]
theorem jg_tup {es : List Expr} {n : Nat} {ts : List Nat} {gs : TGs} {bs : FGs} {x1} {pos : Pos} (hc : X.calm = true) (h : JGs X np es n ts gs bs) (hn : (assignEach es X.env).length = n := by rfl) (hst : (assignEach es X.env).findIdx? (·.1) = none := by rfl) :
    JG X np (.Tuple es x1 pos) ts (gTup X.K n gs) (bTup n bs) := by
  refine ⟨pg_tup hc h.pgs hn hst, fun B F e σ H v d Q hn I r e' hb q => ?_⟩
  cases d with
  | tup ds =>
    simp only [bTup] at hb
    split at hb
    · rename_i hl
      cases r with
      | tup r1 r2 => exact ⟨_, _, rfl, sqt_mono I.sf r1, r2.length.trans hl, h.de B F e σ H _ _ _ hn I r2 e' hb q⟩
    · cases hb
  | _ => cases hb
end
end M

namespace M
open PySem PySem.Spec PyProof.Rows L2

/-! ### slots set anew -/
theorem IV.re {K : PySem.W.Frag} {B : Bs} {F : Hp} {e e' : Sls} {σ σ' : L2.St} {H : Hp} (I : IV K B F e σ H) (hl : e'.length = σ'.length)
    (h : ∀ (i : Nat) (s : Sl), e'[i]? = some s → s = .un ∨ (e[i]? = some s ∧ σ'[i]? = σ[i]?) ∨ ∃ v d, s = .im d ∧ σ'[i]? = some (some v) ∧ Rp K F v d) (ha : ∀ i, i < B.np → σ'[i]? = σ[i]?) : IV K B F e' σ' H := by
  refine ⟨I.sf, I.sg, I.g1, I.g2, I.g3, hl, fun i s v h1 h2 => ?_, fun i j s t hij h1 h2 o1 o2 => ?_, fun i v hi hv => ?_⟩
  · rcases h i s h1 with rfl | ⟨q1, q2⟩ | ⟨w, d, rfl, q, r⟩
    · exact .un
    · rw [q2] at h2; exact I.sl i s v q1 h2
    · rw [q] at h2; cases h2; exact .im r
  · have p1 : e[i]? = some s ∧ σ'[i]? = σ[i]? := by
      rcases h i s h1 with rfl | q | ⟨w, d, rfl, _⟩
      · cases o1
      · exact q
      · cases o1
    have p2 : e[j]? = some t ∧ σ'[j]? = σ[j]? := by
      rcases h j t h2 with rfl | q | ⟨w, d, rfl, _⟩
      · cases o2
      · exact q
      · cases o2
    rw [p1.2, p2.2]
    exact I.ap i j s t hij p1.1 p2.1 o1 o2
  · rw [ha i hi]; exact I.an i v hi hv
def wipeS (e : Sls) : List Nat → Sls
  | [] => e
  | v :: vs => (wipeS e vs).set v .un
def restS (o e : Sls) : List Nat → Sls
  | [] => e
  | v :: vs => (restS o e vs).set v (o[v]?.getD .un)
theorem wipeS_length (e : Sls) : ∀ vs, (wipeS e vs).length = e.length
  | [] => rfl
  | v :: vs => by rw [wipeS, List.length_set, wipeS_length e vs]
theorem restS_length (o e : Sls) : ∀ vs, (restS o e vs).length = e.length
  | [] => rfl
  | v :: vs => by rw [restS, List.length_set, restS_length o e vs]
theorem wipeS_get {e : Sls} {i : Nat} {s : Sl} : ∀ {vs}, (wipeS e vs)[i]? = some s → s = .un ∨ (i ∉ vs ∧ e[i]? = some s)
  | [], h => .inr ⟨by simp, h⟩
  | v :: vs, h => by
    rw [wipeS] at h
    by_cases z : v = i
    · subst z
      rw [List.getElem?_set] at h
      simp only [if_true] at h
      split at h
      · cases h; exact .inl rfl
      · cases h
    · rw [List.getElem?_set_ne z] at h
      rcases wipeS_get h with q | ⟨q1, q2⟩
      · exact .inl q
      · exact .inr ⟨fun m => (List.mem_cons.mp m).elim (fun y => z y.symm) q1, q2⟩
theorem restS_get {o e : Sls} {i : Nat} {s : Sl} : ∀ {vs}, (restS o e vs)[i]? = some s → (i ∈ vs ∧ s = o[i]?.getD .un) ∨ (i ∉ vs ∧ e[i]? = some s)
  | [], h => .inr ⟨by simp, h⟩
  | v :: vs, h => by
    rw [restS] at h
    by_cases z : v = i
    · subst z
      rw [List.getElem?_set] at h
      simp only [if_true] at h
      split at h
      · cases h; exact .inl ⟨by simp, rfl⟩
      · cases h
    · rw [List.getElem?_set_ne z] at h
      rcases restS_get h with ⟨q1, q2⟩ | ⟨q1, q2⟩
      · exact .inl ⟨List.mem_cons_of_mem _ q1, q2⟩
      · exact .inr ⟨fun m => (List.mem_cons.mp m).elim (fun y => z y.symm) q1, q2⟩

/-! ### comprehensions -/
structure JTs (X : Cx) (np : Nat) (es : List Expr) (t : TT) (f : FT) : Prop where
  pts : PTs X es t
  de : DT X.K np t f
def fYes : FT := fun e => some (e, true)
theorem jts_nil {X : Cx} {np : Nat} : JTs X np [] tYes fYes := by
  refine ⟨pts_nil, fun B F e σ H Q hn I e' b hf q => ?_⟩
  cases hf
  exact q F H (Same.refl F) I
theorem jts_one {X : Cx} {np : Nat} {c : Expr} {t : TT} {f : FT} (h : JT X np c t f) : JTs X np [c] t f := ⟨pts_one h.pt, h.de⟩
def lcLoop (vs : List Nat) (b : FG) (c : FT) (f : FE) : List D → Sls → List D → Option (Sls × List D)
  | [], e, acc => some (e, acc)
  | d :: ds, e, acc => (b e d).bind fun e1 => (c e1).bind fun p => if p.2 = true then (f p.1).bind fun q => if acc.length < sizeLine then lcLoop vs b c f ds (wipeS q.1 vs) (acc ++ [q.2]) else none
    else lcLoop vs b c f ds (wipeS p.1 vs) acc
def fLc (it : FI) (vs : List Nat) (b : FG) (c : FT) (f : FE) : FE := fun e => (it e).bind fun p =>
  if vs.all (fun i => !((p.1[i]?.getD .un).own)) = true then (lcLoop vs b c f p.2 (wipeS p.1 vs) []).bind fun q => some (restS p.1 q.1 vs, .lst q.2) else none
theorem Out.wipe {ts vs : List Nat} {σ σ' : L2.St} (h : Out ts σ σ') (hs : ∀ i ∈ ts, i ∈ vs) : L2.wipe σ' vs = L2.wipe σ vs := by
  apply List.ext_getElem?
  intro i
  by_cases hi : i ∈ vs
  · have n : ∀ (τ : L2.St), τ.length = σ.length → (L2.wipe τ vs)[i]? = (L2.wipe σ vs)[i]? := fun τ hl => by
      have g : ∀ (us : List Nat), i ∈ us → (L2.wipe τ us)[i]? = (L2.wipe σ us)[i]? := fun us => by
        induction us with
        | nil => intro h; cases h
        | cons v us ih =>
          intro hm
          unfold L2.wipe
          by_cases z : v = i
          · subst z
            rw [List.getElem?_set, List.getElem?_set]
            simp only [wipe_length, hl, if_true]
          · rw [List.getElem?_set_ne z, List.getElem?_set_ne z]
            rcases List.mem_cons.mp hm with q | q
            · exact absurd q.symm z
            · exact ih q
      exact g vs hi
    exact n σ' h.1
  · rw [wipe_out hi, wipe_out hi]
    exact h.2 i fun m => hi (hs i m)
theorem Out.get {ts vs : List Nat} {σ σ' : L2.St} (h : Out ts (L2.wipe σ vs) σ') (hs : ∀ i ∈ ts, i ∈ vs) {i : Nat} (hi : i ∉ vs) : σ'[i]? = σ[i]? := by
  rw [h.2 i fun m => hi (hs i m), wipe_out hi]
theorem Same.upd_of {G H : Hp} {D : Addr} {o : HO} (s : Same G H) (hG : G D = none) : Same (upd G D o) (upd H D o) := same_both s
/-- what a comprehension's list is: kept apart while it grows -/
theorem IV.guard {K : PySem.W.Frag} {B : Bs} {F : Hp} {e : Sls} {σ : L2.St} {H : Hp} (I : IV K B F e σ H) {p : Addr} {o : HO} (hp : H p = none) : IV K { B with G := upd B.G p o } F e σ (upd H p o) := by
  obtain ⟨f1, f2, f3, f4⟩ := I.free hp
  refine ⟨fun b u q => ?_, same_both I.sg, I.g1, fun b => ?_, fun b q => ?_, I.len, fun i s v h1 h2 => ?_, I.ap, I.an⟩
  · rw [upd_ne (ne_of_none q f1)]; exact I.sf b u q
  · by_cases z : b = p
    · subst z; exact .inl (f1.trans f3.symm)
    · rcases I.g2 b with q | ⟨q1, q2, q3⟩
      · exact .inl q
      · exact .inr ⟨q1, q2, by show upd B.G p o b = none; rw [upd_ne z]; exact q3⟩
  · by_cases z : b = p
    · subst z; exact f4
    · rw [upd_ne z] at q; exact I.g3 b q
  · have r := I.sl i s v h1 h2
    cases r with
    | un => exact .un
    | im r => exact .im r
    | ow r g1 g2 g3 =>
      rename_i a
      have na : a ≠ p := fun z => by rw [z] at r; exact r.some hp
      exact .ow (r.mono (Same.refl F) (upd_ne na)) g1 (by show upd B.G p o a = none; rw [upd_ne na]; exact g2) g3
/-- the guarded list grows -/
theorem IV.grow {K : PySem.W.Frag} {B : Bs} {F : Hp} {e : Sls} {σ : L2.St} {H : Hp} {p : Addr} {o o' : HO} (hB : B.F p = none) (I : IV K { B with G := upd B.G p o } F e σ H) : IV K { B with G := upd B.G p o' } F e σ (upd H p o') := by
  have hF : F p = none := by
    rcases I.g2 p with q | ⟨_, _, q⟩
    · exact q.trans hB
    · rw [show ({ B with G := upd B.G p o } : Bs).G p = upd B.G p o p from rfl, upd_same] at q; cases q
  refine ⟨fun b u q => ?_, fun b u q => ?_, I.g1, fun b => ?_, fun b q => ?_, I.len, fun i s v h1 h2 => ?_, I.ap, I.an⟩
  · rw [upd_ne (ne_of_none q hF)]; exact I.sf b u q
  · have q' : upd B.G p o' b = some u := q
    by_cases z : b = p
    · subst z; rw [upd_same] at q' ⊢; exact q'
    · rw [upd_ne z] at q' ⊢
      exact I.sg b u (show upd B.G p o b = some u by rw [upd_ne z]; exact q')
  · by_cases z : b = p
    · subst z; exact .inl (hF.trans hB.symm)
    · rcases I.g2 b with q | ⟨q1, q2, q3⟩
      · exact .inl q
      · have q3' : upd B.G p o b = none := q3
        rw [upd_ne z] at q3'
        exact .inr ⟨q1, q2, show upd B.G p o' b = none by rw [upd_ne z]; exact q3'⟩
  · by_cases z : b = p
    · subst z; rw [upd_same] at q; cases q
    · rw [upd_ne z] at q; exact I.g3 b q
  · have r := I.sl i s v h1 h2
    cases r with
    | un => exact .un
    | im r => exact .im r
    | ow r g1 g2 g3 =>
      rename_i a
      have na : a ≠ p := fun z => by
        have g2' : upd B.G p o a = none := g2
        rw [z, upd_same] at g2'; cases g2'
      have g2' : upd B.G p o a = none := g2
      rw [upd_ne na] at g2'
      exact .ow (r.mono (Same.refl F) (upd_ne na)) g1 (show upd B.G p o' a = none by rw [upd_ne na]; exact g2') g3
/-- the guarded list is done: it stays -/
theorem IV.unguard {K : PySem.W.Frag} {B : Bs} {F : Hp} {e : Sls} {σ : L2.St} {H : Hp} {p : Addr} {o : HO} (hB : B.F p = none) (hG : B.G p = none) (hH : B.H p = none) (I : IV K { B with G := upd B.G p o } F e σ H) :
    Same F (upd F p o) ∧ IV K B (upd F p o) e σ H ∧ (upd F p o) p = some o := by
  have hF : F p = none := by
    rcases I.g2 p with q | ⟨_, _, q⟩
    · exact q.trans hB
    · rw [show ({ B with G := upd B.G p o } : Bs).G p = upd B.G p o p from rfl, upd_same] at q; cases q
  have hp : H p = some o := I.sg p o (show upd B.G p o p = some o from upd_same)
  have sm : Same F (upd F p o) := same_upd hF
  refine ⟨sm, ⟨fun b u q => ?_, fun b u q => ?_, I.g1.trans sm, fun b => ?_, I.g3, I.len, fun i s v h1 h2 => ?_, I.ap, I.an⟩, upd_same⟩
  · by_cases z : b = p
    · subst z; rw [upd_same] at q; rw [hp]; exact q
    · rw [upd_ne z] at q; exact I.sf b u q
  · exact I.sg b u (show upd B.G p o b = some u by rw [upd_ne (ne_of_none q hG)]; exact q)
  · by_cases z : b = p
    · subst z; exact .inr ⟨hB, hH, hG⟩
    · rcases I.g2 b with q | ⟨q1, q2, q3⟩
      · rw [upd_ne z]; exact .inl q
      · have q3' : upd B.G p o b = none := q3
        rw [upd_ne z] at q3'
        exact .inr ⟨q1, q2, q3'⟩
  · have r := I.sl i s v h1 h2
    cases r with
    | un => exact .un
    | im r => exact .im (r.mono sm)
    | ow r g1 g2 g3 =>
      rename_i a
      have g2' : upd B.G p o a = none := g2
      have na : a ≠ p := fun z => by rw [z, upd_same] at g2'; cases g2'
      rw [upd_ne na] at g2'
      exact .ow (r.mono sm rfl) (by rw [upd_ne na]; exact g1) g2' g3

theorem de_lc {K : PySem.W.Frag} {np : Nat} {wi : TI} {fi : FI} {ts vs : List Nat} {g : TG} {b : FG} {tt : TT} {c : FT} {te : TE} {f : FE} (hi : DI K np wi fi) (hg : DG K np ts g b) (ht : DT K np tt c) (he : DE K np te f)
    (hts : ∀ i ∈ ts, i ∈ vs) (hvs : ∀ i ∈ vs, np ≤ i) : DE K np (tLc wi g tt te vs) (fLc fi vs b c f) := by
  intro B F e σ H Q hn I e' d hf q
  obtain ⟨⟨e1, ds⟩, h1, hf⟩ := bnd hf
  split at hf
  · rename_i hown
    obtain ⟨⟨e2, out⟩, h2, hf⟩ := bnd hf
    cases hf
    refine hi B F e σ H _ hn I e1 ds h1 fun F1 J H1 s1 I1 it => fun p hp => ?_
    obtain ⟨fp, gp, bp, hp0⟩ := I1.free hp
    -- the wiped slots at the start of a turn
    have hw : ∀ {B' : Bs} {F' : Hp} {e' : Sls} {σ' : L2.St} {H' : Hp}, B'.np = np → IV K B' F' e' σ' H' → Out ts (L2.wipe σ vs) σ' → IV K B' F' (wipeS e' vs) (L2.wipe σ vs) H' := fun {B' F' e' σ' H'} hn' I' o => by
      refine I'.re (by rw [wipeS_length, I'.len, o.1]) (fun i s hs => ?_) fun i hi' => ?_
      · rcases wipeS_get hs with q | ⟨q1, q2⟩
        · exact .inl q
        · exact .inr (.inl ⟨q2, by rw [wipe_out q1, o.get hts q1]⟩)
      · have : i ∉ vs := fun m => by have := hvs i m; omega
        rw [wipe_out this, o.get hts this]
    refine ⟨fun i m H' => m = ds.length - i ∧ i ≤ ds.length ∧ ∃ F' e' acc accv, Same F1 F' ∧ IV K { B with G := upd B.G p (.lst accv) } F' e' (L2.wipe σ vs) H' ∧ Rps K F' accv acc ∧ lcLoop vs b c f (ds.drop i) e' acc = some (e2, out), ⟨ds.length, rfl, Nat.zero_le _, F1, wipeS e1 vs, [], [], Same.refl _, ?_, .nil, by rw [List.drop_zero]; exact h2⟩, ?_⟩
    · refine IV.guard ?_ hp
      refine I1.re (by rw [wipeS_length, L2.wipe_length, I1.len]) (fun i s hs => ?_) fun i hi' => ?_
      · rcases wipeS_get hs with q | ⟨q1, q2⟩
        · exact .inl q
        · exact .inr (.inl ⟨q2, by rw [wipe_out q1]⟩)
      · have : i ∉ vs := fun m => by have := hvs i m; omega
        rw [wipe_out this]
    · rintro i m H' ⟨rfl, hle, F', e', acc, accv, s2, I2, r2, hl⟩
      obtain ⟨i1, i2, i3⟩ := it F' _ e' _ H' s2 I2
      by_cases hlt : i < ds.length
      · refine .inr ⟨i1 i hlt, fun H4 => ∃ m', m' < ds.length - i ∧ m' = ds.length - (i + 1) ∧ i + 1 ≤ ds.length ∧ ∃ F' e' acc accv, Same F1 F' ∧ IV K { B with G := upd B.G p (.lst accv) } F' e' (L2.wipe σ vs) H4 ∧ Rps K F' accv acc ∧ lcLoop vs b c f (ds.drop (i + 1)) e' acc = some (e2, out),
          fun H4 ⟨m', a1, a2, a3⟩ => ⟨m', a1, a2, a3⟩, fun x H3 hy => ?_⟩
        obtain ⟨F3, dx, s3, I3, hd, rx⟩ := i3 i x H3 hlt hy
        have ed : ds.drop i = dx :: ds.drop (i + 1) := by
          have hlt' := hlt
          rw [List.getElem?_eq_getElem hlt] at hd
          cases hd
          exact List.drop_eq_getElem_cons hlt'
        rw [ed, lcLoop] at hl
        obtain ⟨ea, ha, hl⟩ := bnd hl
        obtain ⟨⟨eb, k⟩, hb, hl⟩ := bnd hl
        refine hg { B with G := upd B.G p (.lst accv) } F3 e' _ H3 x dx _ hn I3 rx ea ha fun F4 σ4 H4 s4 I4 o4 => ⟨?_, ?_⟩
        · have := o4.wipe hts
          rw [this]
          apply List.ext_getElem?
          intro j
          by_cases hj : j ∈ vs
          · have z : ∀ (τ : L2.St) (us : List Nat), j ∈ us → (L2.wipe τ us)[j]? = if j < τ.length then some none else none := fun τ us => by
              induction us with
              | nil => intro h; cases h
              | cons v us ih =>
                intro hm
                unfold L2.wipe
                by_cases z : v = j
                · subst z
                  rw [List.getElem?_set]
                  simp only [if_true, wipe_length]
                · rw [List.getElem?_set_ne z]
                  rcases List.mem_cons.mp hm with q | q
                  · exact absurd q.symm z
                  · exact ih q
            rw [z _ _ hj, z _ _ hj, wipe_length]
          · rw [wipe_out hj]
        refine ht { B with G := upd B.G p (.lst accv) } F4 ea σ4 H4 _ hn I4 eb k hb fun F5 H5 s5 I5 => ?_
        cases k with
        | false =>
          refine iteF ⟨_, by omega, rfl, hlt, F5, wipeS eb vs, acc, accv, s2.trans (s3.trans (s4.trans s5)), hw hn I5 o4, r2.mono (s3.trans (s4.trans s5)), hl⟩
        | true =>
          simp only [if_true] at hl
          obtain ⟨⟨ec, y⟩, hc, hl⟩ := bnd hl
          split at hl
          · rename_i hsz
            refine iteT (he { B with G := upd B.G p (.lst accv) } F5 eb σ4 H5 _ hn I5 ec y hc fun F6 v6 H6 s6 I6 r6 => ?_)
            have s26 := s3.trans (s4.trans (s5.trans s6))
            refine ⟨accv, I6.sg p _ (show upd B.G p _ p = some _ from upd_same), by rw [r2.length]; exact hsz, _, by omega, rfl, hlt, F6, wipeS ec vs, acc ++ [y], accv ++ [v6], s2.trans s26, ?_, (r2.mono s26).append (.cons r6 .nil), hl⟩
            exact IV.grow bp (hw hn I6 o4)
          · cases hl
      · have e : i = ds.length := by omega
        subst e
        rw [List.drop_length, lcLoop] at hl
        cases hl
        refine .inl ⟨i2, ?_⟩
        obtain ⟨sm, I3, hpp⟩ := IV.unguard bp gp hp0 I2
        refine q _ (.ref p) H' (s1.trans (s2.trans sm)) ?_ (.lst (.inl (.inl hpp)) (r2.mono sm))
        refine I3.re (by rw [restS_length, I3.len, L2.wipe_length]) (fun i s hs => ?_) fun i hi' => ?_
        · rcases restS_get hs with ⟨q1, q2⟩ | ⟨q1, q2⟩
          · have ho := List.all_eq_true.mp hown i q1
            cases hs1 : e1[i]? with
            | none => rw [hs1] at q2; exact .inl q2
            | some s0 =>
              rw [hs1] at q2 ho
              cases s0 with
              | un => exact .inl q2
              | im d0 =>
                obtain ⟨v0, hv0, r0⟩ := I1.slot hs1
                obtain ⟨x0, e0, r1⟩ := r0.of_im
                subst e0
                exact .inr (.inr ⟨x0, d0, q2, hv0, r1.mono (s2.trans sm)⟩)
              | lst _ => cases ho
              | dic _ => cases ho
          · exact .inr (.inl ⟨q2, by rw [wipe_out q1]⟩)
        · have : i ∉ vs := fun m => by have := hvs i m; omega
          rw [wipe_out this]
  · cases hf
theorem je_lc {X : Cx} {np : Nat} {elt tg iter : Expr} {ifs : List Expr} {scope : Scope} {own : List (Str × Nat)} {pos : Pos} {wi : TI} {fi : FI} {ts : List Nat} {g : TG} {b : FG} {tt : TT} {c : FT} {te : TE} {f : FE} (hc : X.calm = true) (hN : X.N.Nodup)
    (hi : JI X np tg iter wi fi) (ok : BlkOk X.N X.env.scope scope own)
    (hg : ∀ (s : Shared) (H : Hp) (C : Addr) (cl : List (Str × Addr)) (fp : List Addr), JG (X.blk s H scope (compEnvC scope cl C X.env) fp) np tg ts g b)
    (ht : ∀ (s : Shared) (H : Hp) (C : Addr) (cl : List (Str × Addr)) (fp : List Addr), JTs (X.blk s H scope (compEnvC scope cl C X.env) fp) np ifs tt c)
    (he : ∀ (s : Shared) (H : Hp) (C : Addr) (cl : List (Str × Addr)) (fp : List Addr), JE (X.blk s H scope (compEnvC scope cl C X.env) fp) np elt te f)
    (hts : ∀ i ∈ ts, i ∈ own.map (·.2) := by decide) (hvs : ∀ i ∈ own.map (·.2), np ≤ i := by decide) (hs : ∀ x, foldedSetIterable iter X.env x = pure x := by intro _; rfl) :
    JE X np (.ListComp elt [⟨tg, iter, ifs, 0⟩] scope pos) (tLc wi g tt te (own.map (·.2))) (fLc fi (own.map (·.2)) b c f) := by
  refine ⟨pe_lc hc hN hi.pi ok (fun s H C cl fp => (hg s H C cl fp).pg) (fun s H C cl fp => (ht s H C cl fp).pts) (fun s H C cl fp => (he s H C cl fp).pe) hs, ?_⟩
  exact de_lc hi.de (hg X.s_0 X.H_0 0 [] []).de (ht X.s_0 X.H_0 0 [] []).de (he X.s_0 X.H_0 0 [] []).de hts hvs
end M

namespace M
open PySem PySem.Spec PyProof.Rows L2

/-! ### statements -/
inductive Fl where
  | nx
  | rt (d : D)
  | ro (s : Sl)
  | bk
  | ct
abbrev FS := Sls → Option (Sls × Fl)
def Post (K : PySem.W.Frag) (B : Bs) (F : Hp) (E : Ends) (e' : Sls) : Fl → Prop
  | .nx => ∀ (F' : Hp) (σ' : L2.St) (H' : Hp), Same F F' → IV K B F' e' σ' H' → E.nx σ' H'
  | .bk => ∀ (F' : Hp) (σ' : L2.St) (H' : Hp), Same F F' → IV K B F' e' σ' H' → E.bk σ' H'
  | .ct => ∀ (F' : Hp) (σ' : L2.St) (H' : Hp), Same F F' → IV K B F' e' σ' H' → E.ct σ' H'
  | .rt d => ∀ (F' : Hp) (v : V) (σ' : L2.St) (H' : Hp), Same F F' → IV K B F' e' σ' H' → Rp K F' v d → E.rt v H'
  | .ro s => ∀ (F' : Hp) (a : Addr) (σ' : L2.St) (H' : Hp), Same F F' → IV K B F' e' σ' H' → Ow K F' H' a s → F' a = none → B.G a = none → B.H a = none → E.rt (.ref a) H'
theorem Post.mono {K : PySem.W.Frag} {B : Bs} {F F1 : Hp} {E : Ends} {e' : Sls} {fl : Fl} (s : Same F F1) (h : Post K B F E e' fl) : Post K B F1 E e' fl := by
  cases fl with
  | nx => exact fun F' σ' H' s' I => h F' σ' H' (s.trans s') I
  | bk => exact fun F' σ' H' s' I => h F' σ' H' (s.trans s') I
  | ct => exact fun F' σ' H' s' I => h F' σ' H' (s.trans s') I
  | rt d => exact fun F' v σ' H' s' I r => h F' v σ' H' (s.trans s') I r
  | ro x => exact fun F' v σ' H' s' I r f g b => h F' v σ' H' (s.trans s') I r f g b
def DS (K : PySem.W.Frag) (np : Nat) (t : TS) (f : FS) : Prop :=
  ∀ (B : Bs) (F : Hp) (e : Sls) (σ : L2.St) (H : Hp) (E : Ends), B.np = np → IV K B F e σ H → ∀ (e' : Sls) (fl : Fl), f e = some (e', fl) → Post K B F E e' fl → t E σ H
structure JS (X : Cx) (np : Nat) (st : Stmt) (t : TS) (f : FS) : Prop where
  ps : PS X st t
  de : DS X.K np t f
structure JSs (X : Cx) (np : Nat) (st : List Stmt) (t : TS) (f : FS) : Prop where
  ps : PSs X st t
  de : DS X.K np t f
def sNil : FS := fun e => some (e, .nx)
def sSeq (f g : FS) : FS := fun e => (f e).bind fun p => match p.2 with
  | .nx => g p.1
  | fl => some (p.1, fl)
def sIf (c : FT) (f g : FS) : FS := fun e => (c e).bind fun p => if p.2 = true then f p.1 else g p.1
def sRet (f : FE) : FS := fun e => (f e).bind fun p => some (p.1, .rt p.2)
def sRetN : FS := fun e => some (e, .rt .non)
def sDrop (f : FE) : FS := fun e => (f e).bind fun p => some (p.1, .nx)
def sSet (f : FE) (b : FG) : FS := fun e => (f e).bind fun p => (b p.1 p.2).bind fun e1 => some (e1, .nx)
def sBreak : FS := fun e => some (e, .bk)
def sCont : FS := fun e => some (e, .ct)
section
variable {X : Cx} {np : Nat} {st : Stmt} {rest a b : List Stmt} {t u : TS} {f g : FS} {pos : Pos} {ex : Expr} {te : TE} {fe : FE}
theorem jss_nil : JSs X np [] tNext sNil := by
  refine ⟨pss_nil, fun B F e σ H E hn I e' fl hf q => ?_⟩
  cases hf
  exact q F σ H (Same.refl F) I
theorem jss_cons (h1 : JS X np st t f) (h2 : JSs X np rest u g) : JSs X np (st :: rest) (tSeq t u) (sSeq f g) := by
  refine ⟨pss_cons h1.ps h2.ps, fun B F e σ H E hn I e' fl hf q => ?_⟩
  obtain ⟨⟨e1, fl1⟩, q1, hf⟩ := bnd hf
  refine h1.de B F e σ H { E with nx := u E } hn I e1 fl1 q1 ?_
  cases fl1 with
  | nx => exact fun F' σ' H' s I' => h2.de B F' e1 σ' H' E hn I' e' fl hf (q.mono s)
  | rt d => cases hf; exact q
  | ro d => cases hf; exact q
  | bk => cases hf; exact q
  | ct => cases hf; exact q
theorem jss_one (h1 : JS X np st t f) : JSs X np [st] t f := ⟨pss_one h1.ps, h1.de⟩
theorem js_if {c : Expr} {tc : TT} {fc : FT} (hc : JT X np c tc fc) (ha : JSs X np a t f) (hb : JSs X np b u g) : JS X np (.If c a b pos) (tIfS tc t u) (sIf fc f g) := by
  refine ⟨ps_if hc.pt ha.ps hb.ps, fun B F e σ H E hn I e' fl hf q => ?_⟩
  obtain ⟨⟨e1, k⟩, q1, hf⟩ := bnd hf
  refine hc.de B F e σ H _ hn I e1 k q1 fun F' H' s I' => ?_
  cases k with
  | true => exact iteT (ha.de B F' e1 σ H' E hn I' e' fl hf (q.mono s))
  | false => exact iteF (hb.de B F' e1 σ H' E hn I' e' fl hf (q.mono s))
theorem js_ret (h : JE X np ex te fe) : JS X np (.Return (some ex) pos) (tRet te) (sRet fe) := by
  refine ⟨ps_ret h.pe, fun B F e σ H E hn I e' fl hf q => ?_⟩
  obtain ⟨⟨e1, d⟩, q1, hf⟩ := bnd hf
  cases hf
  exact h.de B F e σ H _ hn I e1 d q1 fun F' v H' s I' r => q F' v σ H' s I' r
theorem js_retN : JS X np (.Return none pos) tRetN sRetN := by
  refine ⟨ps_retN, fun B F e σ H E hn I e' fl hf q => ?_⟩
  cases hf
  exact q F _ σ H (Same.refl F) I .non
theorem js_expr (h : JE X np ex te fe) (hs : swapsWith ex none pos.line X.env = pure false := by rfl) : JS X np (.Expr ex pos) (tDrop te) (sDrop fe) := by
  refine ⟨ps_expr h.pe hs, fun B F e σ H E hn I e' fl hf q => ?_⟩
  obtain ⟨⟨e1, d⟩, q1, hf⟩ := bnd hf
  cases hf
  exact h.de B F e σ H _ hn I e1 d q1 fun F' v H' s I' r => q F' σ H' s I'
theorem js_pass : JS X np (.Pass pos) tNext sNil := by
  refine ⟨ps_pass, fun B F e σ H E hn I e' fl hf q => ?_⟩
  cases hf
  exact q F σ H (Same.refl F) I
theorem js_break : JS X np (.Break pos) tBreak sBreak := by
  refine ⟨ps_break, fun B F e σ H E hn I e' fl hf q => ?_⟩
  cases hf
  exact q F σ H (Same.refl F) I
theorem js_cont : JS X np (.Continue pos) tCont sCont := by
  refine ⟨ps_continue, fun B F e σ H E hn I e' fl hf q => ?_⟩
  cases hf
  exact q F σ H (Same.refl F) I
theorem ds_asg {K : PySem.W.Frag} {ts : List Nat} {tg : TG} {bg : FG} (h : DE K np te fe) (hg : DG K np ts tg bg) : DS K np (tAsg te tg) (sSet fe bg) := by
  intro B F e σ H E hn I e' fl hf q
  obtain ⟨⟨e1, d⟩, q1, hf⟩ := bnd hf
  obtain ⟨e2, q2, hf⟩ := bnd hf
  cases hf
  refine h B F e σ H _ hn I e1 d q1 fun F' v H' s I' r => ?_
  exact hg B F' e1 σ H' v d _ hn I' r e' q2 fun F2 σ2 H2 s2 I2 _ => q F2 σ2 H2 (s.trans s2) I2
theorem js_asg {tg : Expr} {ts : List Nat} {tt : TG} {bg : FG} (h : JE X np ex te fe) (hg : JG X np tg ts tt bg) (hp : PS X (.Assign [tg] ex pos) (tAsg te tt)) : JS X np (.Assign [tg] ex pos) (tAsg te tt) (sSet fe bg) := ⟨hp, ds_asg h.de hg.de⟩

/-! ### loops -/
def forL (b : FG) (body : FS) : List D → Sls → Option (Sls × Fl)
  | [], e => some (e, .nx)
  | d :: ds, e => (b e d).bind fun e1 => (body e1).bind fun p => match p.2 with
    | .nx => forL b body ds p.1
    | .ct => forL b body ds p.1
    | .bk => some (p.1, .nx)
    | .rt d => some (p.1, .rt d)
    | .ro d => some (p.1, .ro d)
def sFor (it : FI) (b : FG) (body : FS) : FS := fun e => (it e).bind fun p => forL b body p.2 p.1
theorem ds_for {K : PySem.W.Frag} {wi : TI} {fi : FI} {ts : List Nat} {tg : TG} {bg : FG} (hi : DI K np wi fi) (hg : DG K np ts tg bg) (hb : DS K np t f) : DS K np (tFor wi tg t) (sFor fi bg f) := by
  intro B F e σ H E hn I e' fl hf q
  obtain ⟨⟨e1, ds⟩, q1, hf⟩ := bnd hf
  refine hi B F e σ H _ hn I e1 ds q1 fun F1 J H1 s1 I1 it => ?_
  refine ⟨fun i m σ' H' => m = ds.length - i ∧ i ≤ ds.length ∧ ∃ F' e2, Same F1 F' ∧ IV K B F' e2 σ' H' ∧ forL bg f (ds.drop i) e2 = some (e', fl), ⟨ds.length, rfl, Nat.zero_le _, F1, e1, Same.refl _, I1, by rw [List.drop_zero]; exact hf⟩, ?_⟩
  rintro i m σ' H' ⟨rfl, hle, F', e2, s2, I2, hl⟩
  obtain ⟨i1, i2, i3⟩ := it F' B e2 σ' H' s2 I2
  by_cases hlt : i < ds.length
  · refine .inr ⟨i1 i hlt, fun σ4 H4 => ∃ F' e2, Same F1 F' ∧ IV K B F' e2 σ4 H4 ∧ forL bg f (ds.drop (i + 1)) e2 = some (e', fl), fun σ4 H4 ⟨F4, e4, a1, a2, a3⟩ => ⟨ds.length - (i + 1), by omega, rfl, hlt, F4, e4, a1, a2, a3⟩, fun x H3 hy => ?_⟩
    obtain ⟨F3, dx, s3, I3, hd, rx⟩ := i3 i x H3 hlt hy
    have ed : ds.drop i = dx :: ds.drop (i + 1) := by
      rw [List.getElem?_eq_getElem hlt] at hd
      cases hd
      exact List.drop_eq_getElem_cons hlt
    rw [ed, forL] at hl
    obtain ⟨ea, ha, hl⟩ := bnd hl
    obtain ⟨⟨eb, k⟩, hk, hl⟩ := bnd hl
    refine hg B F3 e2 σ' H3 x dx _ hn I3 rx ea ha fun F4 σ4 H4 s4 I4 _ => ?_
    have s14 := s2.trans (s3.trans s4)
    refine hb B F4 ea σ4 H4 _ hn I4 eb k hk ?_
    cases k with
    | nx => exact fun F5 σ5 H5 s5 I5 => ⟨F5, eb, s14.trans s5, I5, hl⟩
    | ct => exact fun F5 σ5 H5 s5 I5 => ⟨F5, eb, s14.trans s5, I5, hl⟩
    | bk =>
      cases hl
      exact fun F5 σ5 H5 s5 I5 => q F5 σ5 H5 (s1.trans (s14.trans s5)) I5
    | rt d =>
      cases hl
      exact fun F5 v σ5 H5 s5 I5 r => q F5 v σ5 H5 (s1.trans (s14.trans s5)) I5 r
    | ro d =>
      cases hl
      exact fun F5 v σ5 H5 s5 I5 r f g b => q F5 v σ5 H5 (s1.trans (s14.trans s5)) I5 r f g b
  · have ei : i = ds.length := by omega
    subst ei
    rw [List.drop_length, forL] at hl
    cases hl
    exact .inl ⟨i2, q F' σ' H' (s1.trans s2) I2⟩
theorem js_for {tg it : Expr} {wi : TI} {fi : FI} {ts : List Nat} {tt : TG} {bg : FG} (hp : PassesOwn (model X.prog X.w) X.A X.env X.xe) (hc : X.calm = true) (hi : JI X np tg it wi fi) (hg : JG X np tg ts tt bg) (hb : JSs X np a t f)
    (hs : ∀ x, foldedSetIterable it X.env x = pure x := by intro _; rfl) : JS X np (.For tg it a [] pos) (tFor wi tt t) (sFor fi bg f) := ⟨ps_for hp hc hi.pi hg.pg hb.ps hs, ds_for hi.de hg.de hb.de⟩
def whileN (c : FT) (body : FS) : Nat → Sls → Option (Sls × Fl)
  | 0, _ => none
  | n + 1, e => (c e).bind fun p => if p.2 = true then (body p.1).bind fun q => match q.2 with
      | .nx => whileN c body n q.1
      | .ct => whileN c body n q.1
      | .bk => some (q.1, .nx)
      | .rt d => some (q.1, .rt d)
      | .ro d => some (q.1, .ro d)
    else some (p.1, .nx)
/-- a while with so many turns at most -/
def sWhile (n : Nat) (c : FT) (body : FS) : FS := whileN c body n
theorem js_while {n : Nat} {c : Expr} {tc : TT} {fc : FT} (hp : PassesOwn (model X.prog X.w) X.A X.env X.xe) (hc : JT X np c tc fc) (hb : JSs X np a t f) : JS X np (.While c a [] pos) (tWhile tc t) (sWhile n fc f) := by
  refine ⟨ps_while hp hc.pt hb.ps, fun B F e σ H E hn I e' fl hf q => ?_⟩
  refine ⟨fun m σ' H' => ∃ F' e2, Same F F' ∧ IV X.K B F' e2 σ' H' ∧ whileN fc f m e2 = some (e', fl), ⟨n, F, e, Same.refl F, I, hf⟩, ?_⟩
  rintro m σ' H' ⟨F', e2, s2, I2, hl⟩
  cases m with
  | zero => cases hl
  | succ m =>
    rw [whileN] at hl
    obtain ⟨⟨e3, k⟩, q3, hl⟩ := bnd hl
    refine hc.de B F' e2 σ' H' _ hn I2 e3 k q3 fun F3 H3 s3 I3 => ?_
    cases k with
    | false =>
      simp only [Bool.false_eq_true, if_false] at hl
      cases hl
      exact iteF (q F3 σ' H3 (s2.trans s3) I3)
    | true =>
      simp only [if_true] at hl
      obtain ⟨⟨e4, k4⟩, q4, hl⟩ := bnd hl
      refine iteT ⟨fun σ4 H4 => ∃ F' e2, Same F F' ∧ IV X.K B F' e2 σ4 H4 ∧ whileN fc f m e2 = some (e', fl), fun σ4 H4 h => ⟨m, Nat.lt_succ_self m, h⟩, hb.de B F3 e3 σ' H3 _ hn I3 e4 k4 q4 ?_⟩
      have s13 := s2.trans s3
      cases k4 with
      | nx => exact fun F5 σ5 H5 s5 I5 => ⟨F5, e4, s13.trans s5, I5, hl⟩
      | ct => exact fun F5 σ5 H5 s5 I5 => ⟨F5, e4, s13.trans s5, I5, hl⟩
      | bk => cases hl; exact fun F5 σ5 H5 s5 I5 => q F5 σ5 H5 (s13.trans s5) I5
      | rt d => cases hl; exact fun F5 v σ5 H5 s5 I5 r => q F5 v σ5 H5 (s13.trans s5) I5 r
      | ro d => cases hl; exact fun F5 v σ5 H5 s5 I5 r f g b => q F5 v σ5 H5 (s13.trans s5) I5 r f g b
end

/-! ### own lists -/
def fAppend (i : Nat) (f : FE) : FE := fun e => match e[i]? with
  | some (.lst _) => (f e).bind fun p => match p.1[i]? with
    | some (.lst ds) => if ds.length < sizeLine then some (p.1.set i (.lst (ds ++ [p.2])), .non) else none
    | _ => none
  | _ => none
section
variable {X : Cx} {np : Nat} {ex : Expr} {te : TE} {fe : FE} {x : Str} {p apos cpos : Pos}
theorem je_append (i : Nat) (ho : PE X (.Name x p) (tVar i)) (ha : JE X np ex te fe) (hp : PE X (.Call (.Attribute (.Name x p) "append" apos) [ex] [] cpos) (tBM X.K "list" rAppend (tVar i) (tCons te tNil))) :
    JE X np (.Call (.Attribute (.Name x p) "append" apos) [ex] [] cpos) (tBM X.K "list" rAppend (tVar i) (tCons te tNil)) (fAppend i fe) := by
  refine ⟨hp, fun B F e σ H Q hn I e' d hf q => ?_⟩
  unfold fAppend at hf
  split at hf
  · rename_i ds0 h0
    obtain ⟨⟨e1, d1⟩, h1, hf⟩ := bnd hf
    split at hf
    · rename_i ds h2
      split at hf
      · rename_i hsz
        cases hf
        obtain ⟨v0, hv0, r0⟩ := I.slot h0
        obtain ⟨a, ev, o0, _⟩ := r0.of_own rfl
        subst ev
        cases o0 with
        | @lst xs0 _ g1 g2 =>
          refine ⟨.ref a, hv0, .inl ⟨rfl, _, .inl (.inl g1)⟩, ha.de B F e σ H _ hn I e1 d1 h1 fun F1 v1 H1 s1 I1 r1 => ?_⟩
          have sl := I1.sl i _ _ h2 hv0
          obtain ⟨a', ev, o1, _⟩ := sl.of_own rfl
          cases ev
          cases o1 with
          | @lst xs1 _ g3 g4 =>
            refine ⟨a, xs1, v1, rfl, rfl, g3, by rw [g4.length]; exact hsz, ?_⟩
            exact q F1 _ _ s1 (I1.turn (s' := .lst (ds ++ [d1])) h2 rfl hv0 (.lst upd_same (g4.append (.cons r1 .nil)))) .non
      · cases hf
    · cases hf
  · cases hf
/-- a name's list or dict, made anew -/
def DOw (K : PySem.W.Frag) (np : Nat) (t : TE) (f : Sls → Option (Sls × Sl)) : Prop :=
  ∀ (B : Bs) (F : Hp) (e : Sls) (σ : L2.St) (H : Hp) (Q : VK), B.np = np → IV K B F e σ H → ∀ (e' : Sls) (s : Sl), f e = some (e', s) →
    (∀ (F' : Hp) (a : Addr) (H' : Hp), Same F F' → IV K B F' e' σ H' → Ow K F' H' a s → F' a = none → B.G a = none → B.H a = none → (∀ (j : Nat) (s' : Sl), e'[j]? = some s' → s'.own = true → σ[j]? ≠ some (some (.ref a))) → Q (.ref a) H') → t σ H Q
structure JOw (X : Cx) (np : Nat) (e : Expr) (t : TE) (f : Sls → Option (Sls × Sl)) : Prop where
  pe : PE X e t
  de : DOw X.K np t f
def oLst (f : FEs) : Sls → Option (Sls × Sl) := fun e => (f e).bind fun p => some (p.1, .lst p.2)
def sSetO (i : Nat) (f : Sls → Option (Sls × Sl)) : FS := fun e => (f e).bind fun p => some (p.1.set i p.2, .nx)
theorem IV.newOwn {K : PySem.W.Frag} {B : Bs} {F : Hp} {e : Sls} {σ : L2.St} {H : Hp} (I : IV K B F e σ H) {p : Addr} {o : HO} (hp : H p = none) : IV K B F e σ (upd H p o) ∧ (∀ (j : Nat) (s : Sl), e[j]? = some s → s.own = true → σ[j]? ≠ some (some (.ref p))) := by
  obtain ⟨f1, f2, f3, f4⟩ := I.free hp
  refine ⟨⟨fun b u q => ?_, fun b u q => ?_, I.g1, I.g2, fun b q => ?_, I.len, fun i s v h1 h2 => ?_, I.ap, I.an⟩, fun j s h1 h2 z => ?_⟩
  · rw [upd_ne (ne_of_none q f1)]; exact I.sf b u q
  · rw [upd_ne (ne_of_none q f2)]; exact I.sg b u q
  · by_cases z : b = p
    · subst z; exact f4
    · rw [upd_ne z] at q; exact I.g3 b q
  · have r := I.sl i s v h1 h2
    cases r with
    | un => exact .un
    | im r => exact .im r
    | ow r g1 g2 g3 =>
      rename_i a
      have na : a ≠ p := fun z => by rw [z] at r; exact r.some hp
      exact .ow (r.mono (Same.refl F) (upd_ne na)) g1 g2 g3
  · obtain ⟨a, e1, r, _⟩ := (I.sl j s _ h1 z).of_own h2
    cases e1
    exact r.some hp
theorem jow_lst {es : List Expr} {n : Nat} {t : TA} {fs : FEs} {pos : Pos} (h : JEs X np es n t fs) (hz : n ≤ sizeLine := by decide) : JOw X np (.List es pos) (tLst t) (oLst fs) := by
  refine ⟨pe_lst h.pa, fun B F e σ H Q hn I e' s hf q => ?_⟩
  obtain ⟨⟨e1, ds⟩, h1, hf⟩ := bnd hf
  cases hf
  refine h.de B F e σ H _ hn I e1 ds h1 fun F1 vs H1 s1 I1 r l => ⟨by rw [l]; exact hz, fun p hp => ?_⟩
  obtain ⟨f1, f2, f3, f4⟩ := I1.free hp
  obtain ⟨I2, ne⟩ := I1.newOwn (o := .lst vs) hp
  exact q F1 p _ s1 I2 (.lst upd_same r) f1 f2 f4 ne
theorem js_setO {i : Nat} {t : TE} {f : Sls → Option (Sls × Sl)} {pos : Pos} (h : JOw X np ex t f) (hp : PS X (.Assign [.Name x p] ex pos) (tAsg t (gName i))) (hi : np ≤ i := by decide) : JS X np (.Assign [.Name x p] ex pos) (tAsg t (gName i)) (sSetO i f) := by
  refine ⟨hp, fun B F e σ H E hn I e' fl hf q => ?_⟩
  obtain ⟨⟨e1, s⟩, h1, hf⟩ := bnd hf
  cases hf
  refine h.de B F e σ H _ hn I e1 s h1 fun F' a H' s' I' o f1 f2 f3 ne => ?_
  exact q F' _ H' s' (I'.setOw (by rw [hn]; exact hi) o f1 f2 f3 fun j s0 _ h1 h2 => ne j s0 h1 h2)
/-- what is returned is the caller's own -/
def sRetO (f : Sls → Option (Sls × Sl)) : FS := fun e => (f e).bind fun p => some (p.1, .ro p.2)
theorem js_retO {t : TE} {f : Sls → Option (Sls × Sl)} {pos : Pos} (h : JOw X np ex t f) : JS X np (.Return (some ex) pos) (tRet t) (sRetO f) := by
  refine ⟨ps_ret h.pe, fun B F e σ H E hn I e' fl hf q => ?_⟩
  obtain ⟨⟨e1, s⟩, h1, hf⟩ := bnd hf
  cases hf
  exact h.de B F e σ H _ hn I e1 s h1 fun F' a H' s' I' o f1 f2 f3 _ => q F' a σ H' s' I' o f1 f2 f3
/-- an own name given away -/
def sRetV (np i : Nat) : FS := fun e => match e[i]? with
  | some s => if s.own = true ∧ np ≤ i then some (e, .ro s) else none
  | none => none
theorem js_retV (i : Nat) {pos : Pos} (h : PE X (.Name x p) (tVar i)) : JS X np (.Return (some (.Name x p)) pos) (tRet (tVar i)) (sRetV np i) := by
  refine ⟨ps_ret h, fun B F e σ H E hn I e' fl hf q => ?_⟩
  unfold sRetV at hf
  split at hf
  · rename_i s0 h0
    split at hf
    · rename_i ho
      cases hf
      obtain ⟨v0, hv0, r0⟩ := I.slot h0
      obtain ⟨a, ev, o, f1, f2, f3⟩ := r0.of_own ho.1
      subst ev
      exact ⟨.ref a, hv0, q F a σ H (Same.refl F) I o f1 f2 (f3 (by simp; omega))⟩
    · cases hf
  · cases hf
/-- x[i] = e of an own list -/
def sSetIx (i : Nat) (f g : FE) : FS := fun e => (f e).bind fun p => match p.1[i]? with
  | some (.lst _) => (g p.1).bind fun q => match q.1[i]?, q.2 with
    | some (.lst ds), .int k => (ixN ds.length k).bind fun j => some (q.1.set i (.lst (ds.set j p.2)), .nx)
    | _, _ => none
  | _ => none
theorem js_setIx {i : Nat} {ix : Expr} {ti : TE} {fi : FE} {pos tpos : Pos} (h : JE X np ex te fe) (hi : JE X np ix ti fi) (hp : PS X (.Assign [.Subscript (.Name x p) ix tpos] ex pos) (tAsg te (gSub (tVar i) ti rSetL))) :
    JS X np (.Assign [.Subscript (.Name x p) ix tpos] ex pos) (tAsg te (gSub (tVar i) ti rSetL)) (sSetIx i fe fi) := by
  refine ⟨hp, fun B F e σ H E hn I e' fl hf q => ?_⟩
  obtain ⟨⟨e1, d⟩, h1, hf⟩ := bnd hf
  simp only at hf
  split at hf
  · rename_i ds0 h0
    obtain ⟨⟨e2, k⟩, h2, hf⟩ := bnd hf
    simp only at hf
    split at hf
    · rename_i ds k hds
      obtain ⟨j, h3, hf⟩ := bnd hf
      cases hf
      refine h.de B F e σ H _ hn I e1 d h1 fun F1 v1 H1 s1 I1 r1 => ?_
      obtain ⟨v0, hv0, r0⟩ := I1.slot h0
      obtain ⟨a, ev, _, _⟩ := r0.of_own rfl
      subst ev
      refine ⟨.ref a, hv0, hi.de B F1 e1 σ H1 _ hn I1 e2 _ h2 fun F2 v2 H2 s2 I2 r2 => ?_⟩
      cases r2
      obtain ⟨a', ev, o1, _⟩ := (I2.sl i _ _ hds hv0).of_own rfl
      cases ev
      cases o1 with
      | @lst xs _ g3 g4 =>
        refine ⟨a, xs, k, j, rfl, rfl, g3, by rw [g4.length]; exact h3, ?_⟩
        exact q F2 _ _ (s1.trans s2) (I2.turn (s' := .lst (ds.set j d)) hds rfl hv0 (.lst upd_same (g4.set (r1.mono s2) j)))
    · cases hf
  · cases hf
/-! ### own dicts -/
def putG {α : Type} (kvs : List (Key × α)) (k : Key) (v : α) : List (Key × α) := if (kvs.any fun kv => decide (kv.1 = k)) = true then kvs.map fun kv => if kv.1 = k then (kv.1, v) else kv else kvs ++ [(k, v)]
theorem putG_put (kvs : List (Key × V)) (k : Key) (v : V) : putK kvs k v = putG kvs k v := rfl
theorem rpk_any {K : PySem.W.Frag} {F : Hp} {k : Key} : ∀ {kvs : List (Key × V)} {es : List (Key × D)}, Rpk K F kvs es → (kvs.any fun kv => decide (kv.1 = k)) = (es.any fun kv => decide (kv.1 = k))
  | _, _, .nil => rfl
  | _, _, .cons _ t => by simp only [List.any_cons, rpk_any t]
theorem rpk_map {K : PySem.W.Frag} {F : Hp} {k : Key} {v : V} {d : D} (r : Rp K F v d) : ∀ {kvs : List (Key × V)} {es : List (Key × D)}, Rpk K F kvs es → Rpk K F (kvs.map fun kv => if kv.1 = k then (kv.1, v) else kv) (es.map fun kv => if kv.1 = k then (kv.1, d) else kv)
  | _, _, .nil => .nil
  | _, _, .cons (k := j) r1 t => by
    simp only [List.map_cons]
    by_cases hj : j = k
    · simp only [hj, if_true]
      exact .cons r (rpk_map r t)
    · simp only [hj, if_false]
      exact .cons r1 (rpk_map r t)
theorem rpk_snoc {K : PySem.W.Frag} {F : Hp} {k : Key} {v : V} {d : D} (r : Rp K F v d) : ∀ {kvs : List (Key × V)} {es : List (Key × D)}, Rpk K F kvs es → Rpk K F (kvs ++ [(k, v)]) (es ++ [(k, d)])
  | _, _, .nil => .cons r .nil
  | _, _, .cons r1 t => .cons r1 (rpk_snoc r t)
theorem put_rpk {K : PySem.W.Frag} {F : Hp} {k : Key} {v : V} {d : D} (r : Rp K F v d) {kvs : List (Key × V)} {es : List (Key × D)} (q : Rpk K F kvs es) : Rpk K F (putG kvs k v) (putG es k d) := by
  unfold putG
  rw [rpk_any q]
  split
  · exact rpk_map r q
  · exact rpk_snoc r q
/-- x[k] = e of an own dict -/
def sDPutN (i : Nat) (f g : FE) : FS := fun e => (f e).bind fun p => match p.1[i]? with
  | some (.dic _) => (g p.1).bind fun q => match q.1[i]? with
    | some (.dic es) => q.2.key.bind fun k => if es.length < sizeLine then some (q.1.set i (.dic (putG es k p.2)), .nx) else none
    | _ => none
  | _ => none
theorem js_dput {i : Nat} {ix : Expr} {ti : TE} {fi : FE} {pos tpos : Pos} (h : JE X np ex te fe) (hi : JE X np ix ti fi) (hp : PS X (.Assign [.Subscript (.Name x p) ix tpos] ex pos) (L2.sDPut (tVar i) ti te)) :
    JS X np (.Assign [.Subscript (.Name x p) ix tpos] ex pos) (L2.sDPut (tVar i) ti te) (sDPutN i fe fi) := by
  refine ⟨hp, fun B F e σ H E hn I e' fl hf q => ?_⟩
  obtain ⟨⟨e1, d⟩, h1, hf⟩ := bnd hf
  simp only at hf
  split at hf
  · rename_i ds0 h0
    obtain ⟨⟨e2, kd⟩, h2, hf⟩ := bnd hf
    simp only at hf
    split at hf
    · rename_i es hds
      obtain ⟨k, h3, hf⟩ := bnd hf
      split at hf
      · rename_i hsz
        cases hf
        refine h.de B F e σ H _ hn I e1 d h1 fun F1 v1 H1 s1 I1 r1 => ?_
        obtain ⟨v0, hv0, r0⟩ := I1.slot h0
        obtain ⟨a, ev, _, _⟩ := r0.of_own rfl
        subst ev
        refine ⟨.ref a, hv0, hi.de B F1 e1 σ H1 _ hn I1 e2 _ h2 fun F2 v2 H2 s2 I2 r2 => ?_⟩
        obtain ⟨a', ev, o1, _⟩ := (I2.sl i _ _ hds hv0).of_own rfl
        cases ev
        cases o1 with
        | @dic kvs _ g3 g4 =>
          have ek := key_rpo (H := H2) (.rp r2) h3
          subst ek
          refine ⟨a, _, rfl, DPut.k g3 (by rw [g4.length]; exact hsz), ?_⟩
          rw [putG_put]
          exact q F2 _ _ (s1.trans s2) (I2.turn (s' := .dic (putG es k d)) hds rfl hv0 (.dic upd_same (put_rpk (r1.mono s2) g4)))
      · cases hf
    · cases hf
  · cases hf
end
end M

namespace M
open PySem PySem.Spec PyProof.Rows L2

/-! ### a def's promise, by its mirror -/
abbrev FC := Sls → Option (Sls × Sl)
inductive ResR (K : PySem.W.Frag) (B : Bs) (F H : Hp) : V → Sl → Prop
  | im {v : V} {d : D} : Rp K F v d → ResR K B F H v (.im d)
  | ow {a : Addr} {s : Sl} : Ow K F H a s → F a = none → B.G a = none → B.H a = none → ResR K B F H (.ref a) s
def spM (K : PySem.W.Frag) (n : Nat) (m : FC) : Sp := fun vs H Q _ => vs.length = n ∧ ∃ (F G : Hp) (es es' : Sls) (d : Sl), IV K ⟨F, H, G, vs, vs.length⟩ F es (vs.map some) H ∧ m es = some (es', d) ∧
  ∀ (F' : Hp) (v : V) (H' : Hp), IV K ⟨F, H, G, vs, vs.length⟩ F' es' (vs.map some) H' → ResR K ⟨F, H, G, vs, vs.length⟩ F' H' v d → Q v H'
inductive Arg where
  | im (d : D)
  | ow (i : Nat)
inductive ArgR (K : PySem.W.Frag) (F : Hp) (σ : L2.St) : V → Arg → Prop
  | im {v : V} {d : D} : Rp K F v d → ArgR K F σ v (.im d)
  | ow {v : V} {i : Nat} : σ[i]? = some (some v) → ArgR K F σ v (.ow i)
inductive ArgRs (K : PySem.W.Frag) (F : Hp) (σ : L2.St) : List V → List Arg → Prop
  | nil : ArgRs K F σ [] []
  | cons {v : V} {vs : List V} {a : Arg} {as : List Arg} : ArgR K F σ v a → ArgRs K F σ vs as → ArgRs K F σ (v :: vs) (a :: as)
theorem ArgR.mono {K : PySem.W.Frag} {F F' : Hp} {σ : L2.St} (s : Same F F') {v : V} {a : Arg} (h : ArgR K F σ v a) : ArgR K F' σ v a := by
  cases h with
  | im r => exact .im (r.mono s)
  | ow h => exact .ow h
theorem ArgRs.get {K : PySem.W.Frag} {F : Hp} {σ : L2.St} : ∀ {vs : List V} {as : List Arg} {j : Nat} {a : Arg}, ArgRs K F σ vs as → as[j]? = some a → ∃ v, vs[j]? = some v ∧ ArgR K F σ v a
  | _, _, _, _, .nil, h => by simp at h
  | _, _, 0, _, .cons r _, h => by simp at h; subst h; exact ⟨_, rfl, r⟩
  | _, _, j + 1, a, .cons _ t, h => by
    obtain ⟨v, h1, h2⟩ := ArgRs.get (j := j) (a := a) t (by simpa using h)
    exact ⟨v, by simpa using h1, h2⟩
theorem ArgRs.length {K : PySem.W.Frag} {F : Hp} {σ : L2.St} : ∀ {vs : List V} {as : List Arg}, ArgRs K F σ vs as → vs.length = as.length
  | _, _, .nil => rfl
  | _, _, .cons _ t => congrArg (· + 1) t.length
abbrev FA := Sls → Option (Sls × List Arg)
def DA (K : PySem.W.Frag) (np : Nat) (t : TA) (f : FA) : Prop :=
  ∀ (B : Bs) (F : Hp) (e : Sls) (σ : L2.St) (H : Hp) (Q : List V → Hp → Prop), B.np = np → IV K B F e σ H → ∀ (e' : Sls) (as : List Arg), f e = some (e', as) →
    (∀ (F' : Hp) (vs : List V) (H' : Hp), Same F F' → IV K B F' e' σ H' → ArgRs K F' σ vs as → Q vs H') → t σ H Q
structure JA (X : Cx) (np : Nat) (es : List Expr) (t : TA) (f : FA) : Prop where
  pa : PA X es t
  de : DA X.K np t f
def aNil : FA := fun e => some (e, [])
def aIm (f : FE) (g : FA) : FA := fun e => (f e).bind fun p => (g p.1).bind fun q => some (q.1, .im p.2 :: q.2)
def aOw (i : Nat) (g : FA) : FA := fun e => if ((e[i]?.getD .un).own) = true then (g e).bind fun q => some (q.1, .ow i :: q.2) else none
section
variable {X : Cx} {np : Nat} {ex : Expr} {es : List Expr} {te : TE} {t : TA} {fe : FE} {fa : FA}
theorem ja_nil : JA X np [] tNil aNil := by
  refine ⟨pa_nil, fun B F e σ H Q hn I e' as hf q => ?_⟩
  cases hf
  exact q F [] H (Same.refl F) I .nil
theorem ja_im (h : JE X np ex te fe) (h2 : JA X np es t fa) (hs : starEach (ex :: es) X.env = (false, eval ex X.env) :: starEach es X.env := by rfl) : JA X np (ex :: es) (tCons te t) (aIm fe fa) := by
  refine ⟨pa_cons h.pe h2.pa hs, fun B F e σ H Q hn I e' as hf q => ?_⟩
  obtain ⟨⟨e1, d⟩, h1, hf⟩ := bnd hf
  obtain ⟨⟨e2, as2⟩, h3, hf⟩ := bnd hf
  cases hf
  refine h.de B F e σ H _ hn I e1 d h1 fun F' v H' s I' r => ?_
  exact h2.de B F' e1 σ H' _ hn I' e2 as2 h3 fun F2 vs H2 s2 I2 r2 => q F2 (v :: vs) H2 (s.trans s2) I2 (.cons (.im (r.mono s2)) r2)
theorem ja_ow (i : Nat) {x : Str} {p : Pos} (h : PE X (.Name x p) (tVar i)) (h2 : JA X np es t fa) (hs : starEach (.Name x p :: es) X.env = (false, eval (.Name x p) X.env) :: starEach es X.env := by rfl) : JA X np (.Name x p :: es) (tCons (tVar i) t) (aOw i fa) := by
  refine ⟨pa_cons h h2.pa hs, fun B F e σ H Q hn I e' as hf q => ?_⟩
  unfold aOw at hf
  split at hf
  · rename_i ho
    obtain ⟨⟨e2, as2⟩, h3, hf⟩ := bnd hf
    cases hf
    cases hs0 : e[i]? with
    | none => rw [hs0] at ho; cases ho
    | some s0 =>
      rw [hs0] at ho
      obtain ⟨v0, hv0, r0⟩ := I.slot hs0
      obtain ⟨a, ev, _⟩ := r0.of_own ho
      subst ev
      exact ⟨.ref a, hv0, h2.de B F e σ H _ hn I e2 as2 h3 fun F2 vs H2 s2 I2 r2 => q F2 (.ref a :: vs) H2 s2 I2 (.cons (.ow hv0) r2)⟩
  · cases hf
end
def argS (e : Sls) : Arg → Option Sl
  | .im d => some (.im d)
  | .ow i => match e[i]? with
    | some s => if s.own = true then some s else none
    | none => none
def argSs (e : Sls) : List Arg → Option Sls
  | [] => some []
  | a :: as => (argS e a).bind fun s => (argSs e as).bind fun ss => some (s :: ss)
def owIx : List Arg → List Nat
  | [] => []
  | .im _ :: as => owIx as
  | .ow i :: as => i :: owIx as
def putBack (e : Sls) : List Arg → Sls → Sls
  | .ow i :: as, s :: ss => (putBack e as ss).set i s
  | .im _ :: as, _ :: ss => putBack e as ss
  | _, _ => e
def fCallS (m : FC) (k : FA) : Sls → Option (Sls × Sl) := fun e => (k e).bind fun p => if (owIx p.2).Nodup then (argSs p.1 p.2).bind fun es => (m es).bind fun q => some (putBack p.1 p.2 q.1, q.2) else none
def fCall (m : FC) (k : FA) : FE := fun e => (fCallS m k e).bind fun p => p.2.see.bind fun d => some (p.1, d)
def oCall (m : FC) (k : FA) : Sls → Option (Sls × Sl) := fun e => (fCallS m k e).bind fun p => if p.2.own = true then some p else none
theorem argSs_get {e : Sls} : ∀ {as : List Arg} {ss : Sls} {j : Nat} {s : Sl}, argSs e as = some ss → ss[j]? = some s → ∃ a, as[j]? = some a ∧ argS e a = some s
  | [], _, _, _, h, h2 => by cases h; simp at h2
  | a :: as, ss, j, s, h, h2 => by
    obtain ⟨s1, h3, h⟩ := bnd h
    obtain ⟨s2, h4, h⟩ := bnd h
    cases h
    cases j with
    | zero => simp at h2; subst h2; exact ⟨a, rfl, h3⟩
    | succ j =>
      obtain ⟨a', q1, q2⟩ := argSs_get (j := j) (s := s) h4 (by simpa using h2)
      exact ⟨a', by simpa using q1, q2⟩
theorem argSs_getA {e : Sls} : ∀ {as : List Arg} {ss : Sls} {j : Nat} {a : Arg}, argSs e as = some ss → as[j]? = some a → ∃ s, ss[j]? = some s ∧ argS e a = some s
  | [], _, _, _, h, h2 => by simp at h2
  | a :: as, ss, j, s, h, h2 => by
    obtain ⟨s1, h3, h⟩ := bnd h
    obtain ⟨s2, h4, h⟩ := bnd h
    cases h
    cases j with
    | zero => simp at h2; subst h2; exact ⟨s1, rfl, h3⟩
    | succ j =>
      obtain ⟨a', q1, q2⟩ := argSs_getA (j := j) (a := s) h4 (by simpa using h2)
      exact ⟨a', by simpa using q1, q2⟩
theorem argSs_length {e : Sls} : ∀ {as : List Arg} {ss : Sls}, argSs e as = some ss → ss.length = as.length
  | [], _, h => by cases h; rfl
  | a :: as, ss, h => by
    obtain ⟨s1, h3, h⟩ := bnd h
    obtain ⟨s2, h4, h⟩ := bnd h
    cases h
    exact congrArg (· + 1) (argSs_length h4)
theorem owIx_mem : ∀ {as : List Arg} {i : Nat}, i ∈ owIx as ↔ ∃ j : Nat, as[j]? = some (Arg.ow i)
  | [], i => by simp [owIx]
  | .im d :: as, i => by
    rw [owIx, owIx_mem]
    constructor
    · rintro ⟨j, h⟩; exact ⟨j + 1, by simpa using h⟩
    · rintro ⟨j, h⟩
      cases j with
      | zero => simp at h
      | succ j => exact ⟨j, by simpa using h⟩
  | .ow k :: as, i => by
    rw [owIx, List.mem_cons, owIx_mem]
    constructor
    · rintro (rfl | ⟨j, h⟩)
      · exact ⟨0, rfl⟩
      · exact ⟨j + 1, by simpa using h⟩
    · rintro ⟨j, h⟩
      cases j with
      | zero => simp at h; exact .inl h.symm
      | succ j => exact .inr ⟨j, by simpa using h⟩
theorem owIx_inj : ∀ {as : List Arg} {i j j' : Nat}, (owIx as).Nodup → as[j]? = some (Arg.ow i) → as[j']? = some (Arg.ow i) → j = j'
  | [], _, _, _, _, h, _ => by simp at h
  | .im d :: as, i, j, j', hn, h, h' => by
    cases j with
    | zero => simp at h
    | succ j =>
      cases j' with
      | zero => simp at h'
      | succ j' => exact congrArg (· + 1) (owIx_inj (as := as) hn (by simpa using h) (by simpa using h'))
  | .ow k :: as, i, j, j', hn, h, h' => by
    rw [owIx, List.nodup_cons] at hn
    cases j with
    | zero =>
      simp at h; subst h
      cases j' with
      | zero => rfl
      | succ j' => exact absurd (owIx_mem.mpr ⟨j', by simpa using h'⟩) hn.1
    | succ j =>
      cases j' with
      | zero => simp at h'; subst h'; exact absurd (owIx_mem.mpr ⟨j, by simpa using h⟩) hn.1
      | succ j' => exact congrArg (· + 1) (owIx_inj (as := as) hn.2 (by simpa using h) (by simpa using h'))
theorem putBack_length (e : Sls) : ∀ (as : List Arg) (ss : Sls), (putBack e as ss).length = e.length
  | [], _ => by simp [putBack]
  | .im _ :: as, [] => by simp [putBack]
  | .im _ :: as, _ :: ss => by rw [putBack]; exact putBack_length e as ss
  | .ow _ :: as, [] => by simp [putBack]
  | .ow _ :: as, _ :: ss => by rw [putBack, List.length_set]; exact putBack_length e as ss
theorem putBack_get {e : Sls} {i : Nat} {s : Sl} : ∀ {as : List Arg} {ss : Sls}, (owIx as).Nodup → ss.length = as.length → (putBack e as ss)[i]? = some s → (∃ j : Nat, as[j]? = some (Arg.ow i) ∧ ss[j]? = some s) ∨ (i ∉ owIx as ∧ e[i]? = some s)
  | [], ss, _, _, h => .inr ⟨by simp [owIx], by simpa [putBack] using h⟩
  | .im _ :: as, [], _, hl, _ => by simp at hl
  | .ow _ :: as, [], _, hl, _ => by simp at hl
  | .im _ :: as, _ :: ss, hn, hl, h => by
    rw [putBack] at h
    rcases putBack_get (as := as) hn (by simpa using hl) h with ⟨j, h1, h2⟩ | ⟨h1, h2⟩
    · exact .inl ⟨j + 1, by simpa using h1, by simpa using h2⟩
    · exact .inr ⟨h1, h2⟩
  | .ow k :: as, s0 :: ss, hn, hl, h => by
    rw [putBack] at h
    rw [owIx, List.nodup_cons] at hn
    by_cases z : k = i
    · subst z
      rw [List.getElem?_set] at h
      simp only [if_true] at h
      split at h
      · cases h; exact .inl ⟨0, rfl, rfl⟩
      · cases h
    · rw [List.getElem?_set_ne z] at h
      rcases putBack_get (as := as) hn.2 (by simpa using hl) h with ⟨j, h1, h2⟩ | ⟨h1, h2⟩
      · exact .inl ⟨j + 1, by simpa using h1, by simpa using h2⟩
      · exact .inr ⟨by rw [owIx]; exact fun m => (List.mem_cons.mp m).elim (fun y => z y.symm) h1, h2⟩

theorem IV.freezeNew {K : PySem.W.Frag} {B : Bs} {F : Hp} {e : Sls} {σ : L2.St} {H : Hp} (I : IV K B F e σ H) {a : Addr} {s : Sl} {d : D} (o : Ow K F H a s) (f : F a = none) (g : B.G a = none) (b : B.H a = none) (hs : s.see = some d) (hne : ∀ (j : Nat) (s' : Sl), e[j]? = some s' → s'.own = true → σ[j]? ≠ some (some (.ref a))) :
    ∃ F', Same F F' ∧ IV K B F' e σ H ∧ Rp K F' (.ref a) d := by
  obtain ⟨u, ha⟩ : ∃ u, H a = some u := by
    cases z : H a with
    | none => exact absurd z o.some
    | some u => exact ⟨u, rfl⟩
  have sm : Same F (upd F a u) := same_upd f
  have rr : Rp K (upd F a u) (.ref a) d := by
    cases o with
    | lst r1 r2 =>
      cases hs
      rw [ha] at r1
      cases r1
      exact .lst (.inl (.inl upd_same)) (r2.mono sm)
    | dic r1 r2 =>
      cases hs
      rw [ha] at r1
      cases r1
      exact .dic (.inl upd_same) (r2.mono sm)
  refine ⟨upd F a u, sm, ⟨fun c w q => ?_, I.sg, I.g1.trans sm, fun c => ?_, I.g3, I.len, fun j t w h1 h2 => ?_, I.ap, I.an⟩, rr⟩
  · by_cases z : c = a
    · subst z; rw [upd_same] at q; rw [ha]; exact q
    · rw [upd_ne z] at q; exact I.sf c w q
  · by_cases z : c = a
    · subst z; exact .inr ⟨I.g1.free f, b, g⟩
    · rw [upd_ne z]; exact I.g2 c
  · have q := I.sl j t w h1 h2
    cases q with
    | un => exact .un
    | im q => exact .im (q.mono sm)
    | ow r1 g1 g2 g3 =>
      rename_i c
      have nc : c ≠ a := fun y => by rw [y] at h2; exact hne j t h1 r1.own h2
      exact .ow (r1.mono sm rfl) (by rw [upd_ne nc]; exact g1) g2 g3
open Classical in
/-- all but what is passed -/
noncomputable def butPassed (H : Hp) (es : Sls) (vs : List V) : Hp := fun b => if ∃ (j : Nat) (s : Sl), es[j]? = some s ∧ s.own = true ∧ vs[j]? = some (.ref b) then none else H b
theorem len_some {vs : List V} {j : Nat} {v : V} (h : vs[j]? = some v) : (vs.map some)[j]? = some (some v) := by rw [List.getElem?_map, h] <;> rfl
theorem of_len_some {vs : List V} {j : Nat} {w : Option V} (h : (vs.map some)[j]? = some w) : ∃ v, w = some v ∧ vs[j]? = some v := by
  rw [List.getElem?_map] at h
  cases e : vs[j]? with
  | none => rw [e] at h; cases h
  | some v => rw [e] at h; cases h; exact ⟨v, rfl, rfl⟩
theorem call_core2 {K : PySem.W.Frag} {n : Nat} {m : FC} {E : XK} (hlen : ∀ {es r}, m es = some r → es.length = n) {B : Bs} {F1 : Hp} {e1 : Sls} {σ : L2.St} {H1 : Hp} {Q : VK} {vs : List V} {as : List Arg} {es es' : Sls} {d' : Sl} (I1 : IV K B F1 e1 σ H1) (r1 : ArgRs K F1 σ vs as)
    (hnd : (owIx as).Nodup) (h2 : argSs e1 as = some es) (h3 : m es = some (es', d')) (q : ∀ (F' : Hp) (v : V) (H' : Hp), Same F1 F' → IV K B F' (putBack e1 as es') σ H' → ResR K B F' H' v d' → (∀ a, v = .ref a → d'.own = true → ∀ (j : Nat) (s' : Sl), (putBack e1 as es')[j]? = some s' → s'.own = true → σ[j]? ≠ some (some (.ref a))) → Q v H') :
    spM K n m vs H1 Q E := by
  have lv : vs.length = es.length := by rw [r1.length, argSs_length h2]
  -- what an argument's slot is
  have arg : ∀ (j : Nat) (s : Sl) (v : V), es[j]? = some s → vs[j]? = some v → (∃ d, s = Sl.im d ∧ Rp K F1 v d) ∨ ∃ i : Nat, as[j]? = some (Arg.ow i) ∧ e1[i]? = some s ∧ s.own = true ∧ σ[i]? = some (some v) := fun j s v q1 q2 => by
    obtain ⟨a, q3, q4⟩ := argSs_get h2 q1
    obtain ⟨v', q5, q6⟩ := r1.get q3
    rw [q2] at q5; cases q5
    cases q6 with
    | im r => cases q4; exact .inl ⟨_, rfl, r⟩
    | ow r =>
      rename_i i
      unfold argS at q4
      simp only at q4
      cases e0 : e1[i]? with
      | none => rw [e0] at q4; cases q4
      | some s0 =>
        rw [e0] at q4
        simp only at q4
        split at q4
        · rename_i ho; cases q4; exact .inr ⟨i, q3, e0, ho, r⟩
        · cases q4
  have passed : ∀ b, (∃ (j : Nat) (s : Sl), es[j]? = some s ∧ s.own = true ∧ vs[j]? = some (.ref b)) → ∃ (i : Nat) (s : Sl), e1[i]? = some s ∧ s.own = true ∧ σ[i]? = some (some (.ref b)) := fun b ⟨j, s, a1, a2, a3⟩ => by
    rcases arg j s _ a1 a3 with ⟨d, rfl, _⟩ | ⟨i, b1, b2, b3, b4⟩
    · cases a2
    · exact ⟨i, s, b2, b3, b4⟩
  have gb : ∀ b o, butPassed H1 es vs b = some o → H1 b = some o := fun b o q => by
    unfold butPassed at q
    split at q
    · cases q
    · exact q
  have gp : ∀ b, (∃ (j : Nat) (s : Sl), es[j]? = some s ∧ s.own = true ∧ vs[j]? = some (.ref b)) → butPassed H1 es vs b = none := fun b q => by unfold butPassed; rw [if_pos q]
  have gn : ∀ b, ¬ (∃ (j : Nat) (s : Sl), es[j]? = some s ∧ s.own = true ∧ vs[j]? = some (.ref b)) → butPassed H1 es vs b = H1 b := fun b q => by unfold butPassed; rw [if_neg q]
  refine ⟨lv.trans (hlen h3), F1, butPassed H1 es vs, es, es', d', ⟨I1.sf, gb, Same.refl _, fun b => .inl rfl, fun b z => z, by rw [List.length_map, lv], fun j s w q1 q2 => ?_, fun i j s t hij q1 q2 o1 o2 => ?_, fun i v _ hv => len_some hv⟩, h3, fun F' v H' I' rv => ?_⟩
  · obtain ⟨v, rfl, q3⟩ := of_len_some q2
    rcases arg j s v q1 q3 with ⟨d, rfl, r⟩ | ⟨i, b1, b2, b3, b4⟩
    · exact .im r
    · obtain ⟨a, ev, o, f1, f2, f3⟩ := (I1.sl i s _ b2 b4).of_own b3
      cases ev
      refine .ow o f1 (gp a ⟨j, s, q1, b3, q3⟩) fun z => ?_
      have hj : j < vs.length := (List.getElem?_eq_some_iff.mp q3).1
      exact absurd z (by simp [hj])
  · intro z
    have h1' : ∀ {k : Nat} {u : Sl}, es[k]? = some u → ∃ v, vs[k]? = some v := fun {k u} hk => by
      have : k < vs.length := by rw [lv]; exact (List.getElem?_eq_some_iff.mp hk).1
      exact ⟨_, List.getElem?_eq_getElem this⟩
    obtain ⟨v1, e1'⟩ := h1' q1
    obtain ⟨v2, e2'⟩ := h1' q2
    rw [len_some e1', len_some e2'] at z
    cases z
    rcases arg i s v1 q1 e1' with ⟨d, rfl, _⟩ | ⟨i1, b1, b2, b3, b4⟩
    · cases o1
    rcases arg j t v1 q2 e2' with ⟨d, rfl, _⟩ | ⟨i2, c1, c2, c3, c4⟩
    · cases o2
    by_cases hi : i1 = i2
    · subst hi; exact hij (owIx_inj hnd b1 c1)
    · exact I1.ap i1 i2 s t hi b2 c2 b3 c3 (by rw [b4, c4])
  · -- behind the call
    have les : es'.length = as.length := by
      have := I'.len
      rw [List.length_map] at this
      rw [this, r1.length]
    have sm : Same F1 F' := I'.g1
    have rv' : ResR K B F' H' v d' := by
      cases rv with
      | im r => exact .im r
      | ow o f g b =>
        obtain ⟨f1, f2, f3, f4⟩ := I1.free (p := _) b
        exact .ow o f f2 f4
    have far : ∀ a, v = .ref a → d'.own = true → H1 a = none := fun a ev ho => by
      cases rv with
      | im r => cases ho
      | ow o f g b => cases ev; exact b
    have back : ∀ {k : Nat} {u : Sl}, (putBack e1 as es')[k]? = some u → u.own = true → ∃ u', e1[k]? = some u' ∧ u'.own = true := fun {k u} hk ho => by
        rcases putBack_get hnd les hk with ⟨j', a1, a2⟩ | ⟨a1, a2⟩
        · obtain ⟨s0, d1, d2⟩ := argSs_getA h2 a1
          unfold argS at d2
          simp only at d2
          split at d2
          · rename_i sx hx
            split at d2
            · rename_i hox; exact ⟨sx, hx, hox⟩
            · cases d2
          · cases d2
        · exact ⟨u, a2, ho⟩
    refine q F' v H' sm ⟨I'.sf, fun b u qb => ?_, I1.g1.trans sm, fun b => ?_, fun b qb => I1.g3 b (I'.g3 b qb), by rw [putBack_length]; exact I1.len, fun i s w q1 q2 => ?_, fun i j s t hij q1 q2 o1 o2 => ?_, I1.an⟩ rv' ?_
    · refine I'.sg b u (show butPassed H1 es vs b = some u from ?_)
      rw [gn]
      · exact I1.sg b u qb
      · intro z
        obtain ⟨i, s, b2, b3, b4⟩ := passed b z
        obtain ⟨a, ev, _, _, f2, _⟩ := (I1.sl i s _ b2 b4).of_own b3
        cases ev
        rw [f2] at qb; cases qb
    · rcases I'.g2 b with z | ⟨z1, z2, z3⟩
      · rw [z]; exact I1.g2 b
      · obtain ⟨f1, f2, f3, f4⟩ := I1.free (p := b) z2
        exact .inr ⟨f3, f4, f2⟩
    · rcases putBack_get hnd les q1 with ⟨j, a1, a2⟩ | ⟨a1, a2⟩
      · obtain ⟨v1, c1, c2⟩ := r1.get a1
        cases c2 with
        | ow c2 =>
          rw [q2] at c2; cases c2
          obtain ⟨s0, d1, d2⟩ := argSs_getA h2 a1
          have z := I'.sl j s _ a2 (len_some c1)
          rcases arg j s0 v1 d1 c1 with ⟨d, rfl, _⟩ | ⟨i', b1, b2, b3, b4⟩
          · unfold argS at d2
            simp only at d2
            split at d2
            · split at d2
              · rename_i ho; cases d2; cases ho
              · cases d2
            · cases d2
          · rw [a1] at b1; cases b1
            obtain ⟨a, ev, _, f1, f2, f3⟩ := (I1.sl i s0 _ b2 b4).of_own b3
            cases ev
            generalize hw : some (V.ref a) = w at z
            cases z with
            | un => exact .un
            | im r => cases hw; exact .im r
            | ow o g1 _ _ => cases hw; exact .ow o g1 f2 f3
      · have z := I1.sl i s w a2 q2
        cases z with
        | un => exact .un
        | im r => exact .im (r.mono sm)
        | ow o g1 g2 g3 =>
          rename_i a
          have np : ¬ (∃ (j : Nat) (s : Sl), es[j]? = some s ∧ s.own = true ∧ vs[j]? = some (.ref a)) := fun ⟨j, s', b1, b2, b3⟩ => by
            rcases arg j s' _ b1 b3 with ⟨d, rfl, _⟩ | ⟨i', c1, c2, c3, c4⟩
            · cases b2
            · have hne : i' ≠ i := fun y => by subst y; exact a1 (owIx_mem.mpr ⟨j, c1⟩)
              exact I1.ap i' i s' s hne c2 a2 c3 o.own (by rw [c4, q2])
          have ha : H' a = H1 a := by
            cases ho : H1 a with
            | none => exact absurd ho o.some
            | some u => exact I'.sg a u (show butPassed H1 es vs a = some u by rw [gn a np]; exact ho)
          refine .ow (o.mono sm ha) ?_ g2 g3
          rcases I'.g2 a with y | ⟨_, y, _⟩
          · exact y.trans g1
          · exact absurd y o.some
    · obtain ⟨s', w1, w2⟩ := back q1 o1
      obtain ⟨t', w3, w4⟩ := back q2 o2
      exact I1.ap i j s' t' hij w1 w3 w2 w4
    · intro a ev ho j s' q1 o1 q2
      obtain ⟨s'', w1, w2⟩ := back q1 o1
      obtain ⟨a', e', o', _⟩ := (I1.sl j s'' _ w1 q2).of_own w2
      cases e'
      exact o'.some (far a ev ho)
theorem call_core {K : PySem.W.Frag} {np n : Nat} {m : FC} {t : TA} {fa : FA} {E : XK} (h : DA K np t fa) (hlen : ∀ {es r}, m es = some r → es.length = n) :
    ∀ (B : Bs) (F : Hp) (e : Sls) (σ : L2.St) (H : Hp) (Q : VK), B.np = np → IV K B F e σ H → ∀ (e' : Sls) (d : Sl), fCallS m fa e = some (e', d) →
      (∀ (F' : Hp) (v : V) (H' : Hp), Same F F' → IV K B F' e' σ H' → ResR K B F' H' v d → (∀ a, v = .ref a → d.own = true → ∀ (j : Nat) (s' : Sl), e'[j]? = some s' → s'.own = true → σ[j]? ≠ some (some (.ref a))) → Q v H') → tCall (spM K n m) [] E t σ H Q := by
  intro B F e σ H Q hn I e' d hf q
  obtain ⟨⟨e1, as⟩, h1, hf⟩ := bnd hf
  simp only at hf
  split at hf
  · rename_i hnd
    obtain ⟨es, h2, hf⟩ := bnd hf
    obtain ⟨⟨es', d'⟩, h3, hf⟩ := bnd hf
    cases hf
    refine h B F e σ H _ hn I e1 as h1 fun F1 vs H1 s1 I1 r1 => ?_
    rw [List.append_nil]
    exact call_core2 hlen I1 r1 hnd h2 h3 fun F' v H' sm I' rv ne => q F' v H' (s1.trans sm) I' rv ne
  · cases hf
theorem de_call {K : PySem.W.Frag} {np n : Nat} {m : FC} {t : TA} {fa : FA} {E : XK} (h : DA K np t fa) (hlen : ∀ {es r}, m es = some r → es.length = n) : DE K np (tCall (spM K n m) [] E t) (fCall m fa) := by
  intro B F e σ H Q hn I e' d hf q
  obtain ⟨⟨e1, s⟩, h1, hf⟩ := bnd hf
  obtain ⟨d', h2, hf⟩ := bnd hf
  cases hf
  refine call_core (E := E) h hlen B F e σ H Q hn I e1 s h1 fun F' v H' s' I' r ne => ?_
  cases r with
  | im r => cases h2; exact q F' v H' s' I' r
  | ow o f g b =>
    obtain ⟨F2, s2, I2, r2⟩ := I'.freezeNew o f g b h2 (ne _ rfl o.own)
    exact q F2 _ H' (s'.trans s2) I2 r2
theorem dow_call {K : PySem.W.Frag} {np n : Nat} {m : FC} {t : TA} {fa : FA} {E : XK} (h : DA K np t fa) (hlen : ∀ {es r}, m es = some r → es.length = n) : DOw K np (tCall (spM K n m) [] E t) (oCall m fa) := by
  intro B F e σ H Q hn I e' s hf q
  obtain ⟨⟨e1, s0⟩, h1, hf⟩ := bnd hf
  split at hf
  · rename_i ho
    cases hf
    refine call_core (E := E) h hlen B F e σ H Q hn I _ _ h1 fun F' v H' s' I' r ne => ?_
    cases r with
    | im r => cases ho
    | ow o f g b => exact q F' _ H' s' I' o f g b (ne _ rfl ho)
  · cases hf
/-- an own thing, made anew, as the only argument -/
def fCall1 (m : FC) (k : Sls → Option (Sls × Sl)) : FE := fun e => (k e).bind fun p => if p.2.own = true then (m [p.2]).bind fun q => match q.2 with
  | .im d => some (p.1, d)
  | _ => none
  else none
theorem de_call1 {K : PySem.W.Frag} {np : Nat} {m : FC} {t : TE} {fo : Sls → Option (Sls × Sl)} {E : XK} (h : DOw K np t fo) : DE K np (tCall (spM K 1 m) [] E (tCons t tNil)) (fCall1 m fo) := by
  intro B F e σ H Q hn I e' d hf q
  obtain ⟨⟨e1, s⟩, h1, hf⟩ := bnd hf
  simp only at hf
  split at hf
  · rename_i ho
    obtain ⟨⟨es', s'⟩, h3, hf⟩ := bnd hf
    refine h B F e σ H _ hn I e1 s h1 fun F1 a H1 s1 I1 o f1 f2 f3 ne => ?_
    have gb : ∀ b u, (fun b => if b = a then none else H1 b : Hp) b = some u → H1 b = some u := fun b u z => by
      by_cases hb : b = a
      · simp [hb] at z
      · simpa [hb] using z
    refine ⟨rfl, F1, (fun b => if b = a then none else H1 b), [s], es', s', ⟨I1.sf, gb, Same.refl _, fun b => .inl rfl, fun b z => z, rfl, fun j s0 w q1 q2 => ?_, fun i j s t hij q1 q2 o1 o2 => ?_, fun i v _ hv => len_some hv⟩, h3, fun F' v H' I' rv => ?_⟩
    · match j with
      | 0 =>
        simp at q1 q2
        subst q1
        rw [← q2]
        exact .ow o f1 (by simp) fun z => absurd z (by simp)
      | j + 1 => simp at q1
    · match i, j with
      | 0, 0 => exact absurd rfl hij
      | i + 1, _ => simp at q1
      | 0, j + 1 => simp at q2
    · have sm : Same F1 F' := I'.g1
      have ra : Rp K F' v d ∧ e1 = e' := by
        split at hf
        · rename_i d0 hd
          simp only at hd
          subst hd
          cases hf
          cases rv with
          | im r => exact ⟨r, rfl⟩
          | ow o _ _ _ => cases o
        · cases hf
      obtain ⟨ra, rfl⟩ := ra
      refine q F' v H' (s1.trans sm) ⟨I'.sf, fun b u qb => ?_, I1.g1.trans sm, fun b => ?_, fun b qb => I1.g3 b (I'.g3 b qb), I1.len, fun i s w q1 q2 => ?_, I1.ap, I1.an⟩ ra
      · have hb : b ≠ a := fun z => by rw [z, f2] at qb; cases qb
        exact I'.sg b u (show (if b = a then none else H1 b) = some u by rw [if_neg hb]; exact I1.sg b u qb)
      · rcases I'.g2 b with z | ⟨z1, z2, z3⟩
        · rw [z]; exact I1.g2 b
        · obtain ⟨g1, g2, g3, g4⟩ := I1.free (p := b) z2
          exact .inr ⟨g3, g4, g2⟩
      · have z := I1.sl i s w q1 q2
        cases z with
        | un => exact .un
        | im r => exact .im (r.mono sm)
        | ow o' g1 g2 g3 =>
          rename_i c
          have hc : c ≠ a := fun y => by rw [y] at q2; exact ne i s q1 o'.own q2
          have hac : H' c = H1 c := by
            cases ho : H1 c with
            | none => exact absurd ho o'.some
            | some u => exact I'.sg c u (show (if c = a then none else H1 c) = some u by rw [if_neg hc]; exact ho)
          refine .ow (o'.mono sm hac) ?_ g2 g3
          rcases I'.g2 c with y | ⟨_, y, _⟩
          · exact y.trans g1
          · exact absurd y o'.some
  · cases hf
end M

namespace M
open PySem PySem.Spec PyProof.Rows L2

/-! ### room, counted finely: one for each call -/
structure RoomT (k : Nat) (A : Around) : Prop where
  hd : A.handled = none
  dp : A.depth + k + 8 < recursionLimit
  un : A.units + 5 * k + 200 < cLine
theorem RoomT.mono {j k : Nat} {A : Around} (r : RoomT k A) (h : j ≤ k) : RoomT j A := ⟨r.hd, by have := r.dp; omega, by have := r.un; omega⟩
theorem RoomT.deeper {k : Nat} {A : Around} (r : RoomT (k + 1) A) (env : PySem.Env) : RoomT k (A.deeper env) :=
  ⟨r.hd, by have := r.dp; show A.depth + 1 + k + 8 < _; omega, by have := r.un; show A.units + 3 + 5 * k + 200 < _; omega⟩
theorem RoomT.of {j k : Nat} {A : Around} (r : Room j A) (h : k + 3 ≤ 3 * j) : RoomT k A := ⟨r.hd, by have := r.dp; omega, by have := r.un; omega⟩
structure FnT (P : Program) (w : World) (K : PySem.W.Frag) (mg : Str → Option Value) (base : Heap) (k : Nat) (f : Addr) (fd : FuncData) (ps : List Str) (sp : Sp) : Prop where
  len : ∀ vs H Q E, sp vs H Q E → vs.length = ps.length
  run : ∀ (A : Around) (outer : List PySem.Env) (s : Shared) (H : Hp) (args : Args) (us : List Value) (vs : List V) (Q : VK) (E : XK), RoomT k A → Env0 P w K mg base A outer s H → BindsTo s fd args (ps.zip us) → Vals vs us → sp vs H Q E →
    codeAny (model P w) A (.call (.ref f) args) (CR CX0 outer P w H s Q E) s
theorem FnT.mono {P : Program} {w : World} {K : PySem.W.Frag} {mg : Str → Option Value} {base : Heap} {j k : Nat} {f : Addr} {fd : FuncData} {ps : List Str} {sp : Sp} (F : FnT P w K mg base j f fd ps sp) (h : j ≤ k) :
    FnT P w K mg base k f fd ps sp := ⟨F.len, fun A outer s H args us vs Q E hr => F.run A outer s H args us vs Q E (hr.mono h)⟩
theorem FnT.imp {P : Program} {w : World} {K : PySem.W.Frag} {mg : Str → Option Value} {base : Heap} {k : Nat} {f : Addr} {fd : FuncData} {ps : List Str} {sp sp' : Sp} (F : FnT P w K mg base k f fd ps sp)
    (h : ∀ vs H Q E, sp' vs H Q E → sp vs H Q E) : FnT P w K mg base k f fd ps sp' :=
  ⟨fun vs H Q E q => F.len vs H Q E (h _ _ _ _ q), fun A outer s H args us vs Q E hr he hb hv hs => F.run A outer s H args us vs Q E hr he hb hv (h _ _ _ _ hs)⟩
theorem FnT.ok {P : Program} {w : World} {K : PySem.W.Frag} {mg : Str → Option Value} {base : Heap} {j k : Nat} {f : Addr} {fd : FuncData} {ps : List Str} {sp : Sp} (F : FnT P w K mg base k f fd ps sp) (h : k + 3 ≤ 3 * j) : FnOk P w K mg base CX0 j f fd ps sp :=
  ⟨F.len, fun A outer s H args us vs Q E hr => F.run A outer s H args us vs Q E (.of hr h)⟩
section
variable {X : Cx} {k : Nat} {f C : Addr} {fd : FuncData} {ps ks : List Str} {sp : Sp} {dvs : List V} {ds : List Value} {E : XK} {x : Str} {p pos : Pos} {e : Expr} {es : List Expr} {kws : List Keyword} {t tk : TA} {g : List Value → List Value → List Value} {gV : List V → List V → List V}
theorem run_fnT {pins : List (Addr × Obj)} {σ : L2.St} {H : Hp} {s : Shared} {Q : VK} {us : List Value} {vs : List V} (F : FnT X.prog X.w X.K X.mg X.base k f fd ps sp) (hr : RoomT k X.A) (hb : Binds X.K fd ps ds) (hd : Vals dvs ds) (hx : Passes CX0 X E)
    (I : Inv X pins σ H s) (r : Vals vs us) (h : sp (vs ++ dvs) H Q E) : wpAny (model X.prog X.w) X.A (call (.ref f) us) (EP X pins σ Q) X.xe s := by
  have r2 : Vals (vs ++ dvs) (us ++ ds) := r.append hd
  have hl : (us ++ ds).length = ps.length := by rw [← r2.length]; exact F.len _ _ _ _ h
  refine wpAny_call (codeAny_mono (F.run X.A X.stack s H ⟨us, []⟩ (us ++ ds) (vs ++ dvs) Q E hr I.env0 (hb s us I.kIn hl) r2 h) fun r s' hq => ?_)
  cases r with
  | error e => exact hx pins σ H s e s' I hq
  | ok fl =>
    cases fl with
    | ret u => exact I.after hq
    | next => exact False.elim hq
    | brk => exact False.elim hq
    | cont => exact False.elim hq
theorem pe_callT (F : FnT X.prog X.w X.K X.mg X.base k f fd ps sp) (hr : RoomT k X.A) (hg : Gl X x) (hm : X.mg x = some (.ref f)) (hk : PySem.W.keepIn X.K (.ref f) = true) (hb : Binds X.K fd ps ds) (hd : Vals dvs ds) (hx : Passes CX0 X E)
    (ha : PA X (e :: es) t) (hdb : (x == ("__debug__" : Str)) = false := by decide) (he : starEach (e :: es) X.env = (false, eval e X.env) :: starEach es X.env := by rfl) (hpl : (backTo pos (starEach es X.env)).any (·.1) = false := by rfl) :
    PE X (.Call (.Name x p) (e :: es) [] pos) (tCall sp dvs E t) := by
  refine ⟨fun pins s σ H Q I h => ?_⟩
  refine wpAny_Call_Name_kw (ld_glob I hg hm ?_ hdb)
  refine PySem.W.callWith_K (h₀ := X.base) I.ok.mod.kin hk (thn (ha.run pos pins s σ H _ I h) fun us s1 ⟨vs, H1, I1, r, q⟩ => ⟨I1.kIn, ?_⟩) he hpl
  exact run_fnT F hr hb hd hx I1 r q
theorem pe_callLT {i : Nat} (F : FnT X.prog X.w X.K X.mg X.base k f fd ps sp) (hr : RoomT k X.A) (hN : X.N[i]? = some x) (hv : Vis X.env.scope x) (hk : PySem.W.keepIn X.K (.ref f) = true) (hb : Binds X.K fd ps ds) (hd : Vals dvs ds) (hx : Passes CX0 X E) (ha : PA X (e :: es) t)
    (hdb : (x == ("__debug__" : Str)) = false := by decide) (hcd : (x == ("__classdict__" : Str)) = false := by decide)
    (he : starEach (e :: es) X.env = (false, eval e X.env) :: starEach es X.env := by rfl) (hpl : (backTo pos (starEach es X.env)).any (·.1) = false := by rfl) : PE X (.Call (.Name x p) (e :: es) [] pos) (fun σ H Q => σ[i]? = some (some (.ref f)) ∧ t σ H fun vs H1 => sp (vs ++ dvs) H1 Q E) := by
  refine ⟨fun pins s σ H Q I h => ?_⟩
  obtain ⟨hs, ht⟩ := h
  refine wpAny_Call_Name_kw (thn ((pe_var (pos := p) hN hv hdb hcd).run pins s σ H (fun v H1 => v = .ref f ∧ H1 = H) I ⟨.ref f, hs, rfl, rfl⟩) fun u s1 ⟨v, H1, I1, r1, q1⟩ => ?_)
  obtain ⟨rfl, rfl⟩ := q1
  cases r1
  refine PySem.W.callWith_K (h₀ := X.base) I.ok.mod.kin hk (thn (ha.run pos pins s1 σ _ _ I1 ht) fun us s2 ⟨vs, H2, I2, r, q⟩ => ⟨I2.kIn, ?_⟩) he hpl
  exact run_fnT F hr hb hd hx I2 r q
theorem run_fnkT {pins : List (Addr × Obj)} {σ : L2.St} {H : Hp} {s : Shared} {Q : VK} {us ws : List Value} {vs zs : List V} (F : FnT X.prog X.w X.K X.mg X.base k f fd ps sp) (hr : RoomT k X.A) (hb : KBinds X.K fd ps ks g gV) (hx : Passes CX0 X E)
    (I : Inv X pins σ H s) (r : Vals vs us) (rz : Vals zs ws) (h : sp (gV vs zs) H Q E) : wpAny (model X.prog X.w) X.A (call (.ref f) us (ks.zip ws)) (EP X pins σ Q) X.xe s := by
  have r2 := hb.rel r rz
  have hl : (g us ws).length = ps.length := by rw [← r2.length]; exact F.len _ _ _ _ h
  refine wpAny_call (codeAny_mono (F.run X.A X.stack s H ⟨us, ks.zip ws⟩ (g us ws) (gV vs zs) Q E hr I.env0 (hb.to s us ws I.kIn hl) r2 h) fun r s' hq => ?_)
  cases r with
  | error e => exact hx pins σ H s e s' I hq
  | ok fl =>
    cases fl with
    | ret u => exact I.after hq
    | next => exact False.elim hq
    | brk => exact False.elim hq
    | cont => exact False.elim hq
theorem pe_callKT (F : FnT X.prog X.w X.K X.mg X.base k f fd ps sp) (hr : RoomT k X.A) (hg : Gl X x) (hm : X.mg x = some (.ref f)) (hk : PySem.W.keepIn X.K (.ref f) = true) (hb : KBinds X.K fd ps ks g gV) (hx : Passes CX0 X E)
    (ha : PA X (e :: es) t) (hkw : PK X kws tk) (hall : (backToKw pos (keywordEach kws X.env)).all (·.1.isSome) = true := by rfl) (hks : (backToKw pos (keywordEach kws X.env)).filterMap (·.1) = ks := by rfl)
    (hdb : (x == ("__debug__" : Str)) = false := by decide) (he : starEach (e :: es) X.env = (false, eval e X.env) :: starEach es X.env := by rfl)
    (hpl : ((backTo pos (starEach (e :: es) X.env)).any (·.1) || (backToKw pos (keywordEach kws X.env)).any (·.1.isNone)) = false := by rfl) :
    PE X (.Call (.Name x p) (e :: es) kws pos) (tCallK sp gV E t tk) := by
  refine ⟨fun pins s σ H Q I h => ?_⟩
  refine wpAny_Call_Name_kw (ld_glob I hg hm ?_ hdb)
  refine PySem.W.callWith_KW (h₀ := X.base) I.ok.mod.kin hk hall (thn (ha.run pos pins s σ H _ I h) fun us s1 ⟨vs, H1, I1, r, q⟩ => ?_) hpl he
  refine thn (hkw.run pos pins s1 σ H1 _ I1 q) fun ws s2 ⟨zs, H2, I2, rz, q2⟩ => ⟨I2.kIn, ?_⟩
  rw [hks]
  exact run_fnkT F hr hb hx I2 r rz q2
end
theorem fn_ofT {P : Program} {w : World} {K : PySem.W.Frag} {mg : Str → Option Value} {base : Heap} {k : Nat} {f : Addr} {name qual : Str} {params : Arguments} {body : List Stmt} {scope : Scope} {dV kV doc pm cdv ct oc : Value} {an od : Option Addr}
    {osl : Array (Option Value)} {N ps : List Str} {sp : Sp} (lk : K.lookup f = some ⟨oc, od, .func (PySem.W.fnOf name qual params body scope dV kV doc pm an cdv ct), osl⟩) (hcd : PySem.W.codeIn K cdv qual = true) (S : FnScope N ps scope)
    (len : ∀ vs H Q E, sp vs H Q E → vs.length = ps.length)
    (hbody : ∀ (A : Around) (outer : List PySem.Env) (s : Shared) (H : Hp) (vs : List V) (Q : VK) (E : XK), RoomT k (A.deeper (envOfC qual scope s.heap.objs.size f cdv)) → sp vs H Q E →
      ∃ t, PSs (cxOf CX0 P w K mg base N qual scope f cdv A outer s H E) body t ∧ t { nx := fun _ H' => Q .non H', rt := Q } (start N vs) H) :
    FnT P w K mg base (k + 1) f (PySem.W.fnOf name qual params body scope dV kV doc pm an cdv ct) ps sp := by
  refine ⟨len, fun A outer s H args us vs Q E hr e0 hb r hsp => ?_⟩
  have hl := len _ _ _ _ hsp
  have KX : K.In s.heap := e0.mod.kin.keeps fun b o e => (e0.bs b o e).1
  have lim : s.heap.NoLimit := e0.mod.nolimit.keeps fun b o e => (e0.bs b o e).1
  have hkind : ∀ y ∈ ps.zip us, scope.names.lookup y.1 = some .local ∨ (scope.names.lookup y.1 = some .cell ∧ ((cellsFrom (s.heap.objs.size + 1) scope.names []).lookup y.1).isSome = true) := fun ⟨n, v⟩ hy => by
    rcases S.par n (List.of_mem_zip hy).1 with q | q
    · exact .inl q
    · exact .inr ⟨q, PySem.W.cellsFrom_some _ _ _ (.inl q)⟩
  refine codeAny_call_function (by have := hr.dp; omega) (KX _ _ lk) rfl S.co S.gen rfl (PySem.W.codeRec_of KX hcd) (hb _ _ _ _ ?_)
  refine wpAny_newFunctionEnv_cells S.kind hkind fun env he s1 x => ?_
  subst he
  refine ⟨lim.keeps x.toInCall.keep, codeAny_func ?_⟩
  obtain ⟨t, ht, hq⟩ := hbody A outer s H vs Q E (hr.deeper _) hsp
  have I : Inv (cxOf CX0 P w K mg base N qual scope f cdv A outer s H E) [] (start N vs) H s1 := inv_start S hr.hd e0 hl r x
  refine wpAny_mono (ht.run [] s1 (start N vs) H _ I hq) (fun fl s' hs => ?_) fun e s' hs => hs
  have fin : ∀ {σ' : L2.St} {H' : Hp} {v : V} {u : Value}, Inv (cxOf CX0 P w K mg base N qual scope f cdv A outer s H E) [] σ' H' s' → RelV v u → Q v H' → CE outer P w H s Q u s' :=
    fun {σ' H' v u} J rv q => ⟨v, H', J.os, J.bare, J.base, J.hok, rv, q⟩
  cases fl with
  | ret u =>
    obtain ⟨v, σ', H', J, rv, q⟩ := hs
    exact fin J rv q
  | next =>
    obtain ⟨σ', H', J, q⟩ := hs
    exact fin (v := V.non) (u := Value.none) J rfl q
  | brk =>
    obtain ⟨_, _, _, q⟩ := hs
    exact False.elim q
  | cont =>
    obtain ⟨_, _, _, q⟩ := hs
    exact False.elim q
theorem funT_ok {P : Program} {w : World} {K : PySem.W.Frag} {mg : Str → Option Value} {base : Heap} {x qual : Str} {st : Stmt} {f : Addr} {fd : FuncData} {N ps : List Str} {k : Nat} {sp : Sp} (F : Fun K x qual st f fd) (S : FnScope N ps (defScope st)) (len : ∀ vs H Q E, sp vs H Q E → vs.length = ps.length)
    (hbody : ∀ (cdv : Value) (A : Around) (outer : List PySem.Env) (s : Shared) (H : Hp) (vs : List V) (Q : VK) (E : XK), RoomT k (A.deeper (envOfC qual (defScope st) s.heap.objs.size f cdv)) → sp vs H Q E →
      ∃ t, PSs (cxOf CX0 P w K mg base N qual (defScope st) f cdv A outer s H E).nox (defBody st) t ∧ t { nx := fun _ H' => Q .non H', rt := Q } (start N vs) H) : FnT P w K mg base (k + 1) f fd ps sp := by
  obtain ⟨oc, od, kV, doc, pm, an, cdv, ct, osl, rfl, lk, hcd⟩ := F.ex
  refine fn_ofT lk hcd S len fun A outer s H vs Q E hr hsp => ?_
  obtain ⟨t, h, q⟩ := hbody cdv A outer s H vs Q E hr hsp
  exact ⟨t, h.nox, q⟩
theorem je_call {X : Cx} {np n k : Nat} {x : Str} {p pos : Pos} {ex : Expr} {es : List Expr} {f : Addr} {fd : FuncData} {ps : List Str} {m : FC} {t : TA} {fa : FA} (G : FnT X.prog X.w X.K X.mg X.base k f fd ps (spM X.K n m)) (hlen : ∀ {es r}, m es = some r → es.length = n)
    (hr : RoomT k X.A) (hg : Gl X x) (hm : X.mg x = some (.ref f)) (hk : PySem.W.keepIn X.K (.ref f) = true) (hb : Binds X.K fd ps []) (ha : JA X np (ex :: es) t fa)
    (hdb : (x == ("__debug__" : Str)) = false := by decide) (he : starEach (ex :: es) X.env = (false, eval ex X.env) :: starEach es X.env := by rfl) (hpl : (backTo pos (starEach es X.env)).any (·.1) = false := by rfl) :
    JE X np (.Call (.Name x p) (ex :: es) [] pos) (tCall (spM X.K n m) [] E0 t) (fCall m fa) :=
  ⟨pe_callT G hr hg hm hk hb .nil pass0 ha.pa hdb he hpl, de_call ha.de hlen⟩

/-! ### a def's body -/
def demote (s : Sl) : Sl := if s.own = true then .un else s
def startS (NL n np : Nat) (es : Sls) : Sls := (es.take np ++ (es.drop np).map demote) ++ List.replicate (NL - n) .un
def backS (np : Nat) (es e : Sls) : Sls := e.take np ++ (es.drop np).map demote
def callF (NL n np : Nat) (f : FS) : FC := fun es => if es.length = n ∧ np ≤ n then (f (startS NL n np es)).bind fun p => match p.2 with
  | .rt d => if n ≤ p.1.length then some (backS np es p.1, .im d) else none
  | .ro s => if n ≤ p.1.length then some (backS np es p.1, s) else none
  | .nx => if n ≤ p.1.length then some (backS np es p.1, .im .non) else none
  | _ => none
  else none
theorem callF_len {NL n np : Nat} {f : FS} {es : Sls} {r : Sls × Sl} (h : callF NL n np f es = some r) : es.length = n := by
  unfold callF at h
  split at h
  · rename_i q; exact q.1
  · cases h
theorem take_get {α : Type} {l : List α} {n i : Nat} {x : α} (h : (l.take n)[i]? = some x) : i < n ∧ l[i]? = some x := by
  rw [List.getElem?_take] at h
  split at h
  · exact ⟨by assumption, h⟩
  · cases h
theorem mix_get {a es : Sls} {np i : Nat} {s : Sl} (hl : np ≤ a.length) (h : (a.take np ++ (es.drop np).map demote)[i]? = some s) : (i < np ∧ a[i]? = some s) ∨ (np ≤ i ∧ ∃ s0, es[i]? = some s0 ∧ s = demote s0) := by
  have lt : (a.take np).length = np := by rw [List.length_take]; omega
  by_cases hi : i < np
  · rw [List.getElem?_append_left (by omega)] at h
    exact .inl (take_get h)
  · rw [List.getElem?_append_right (by omega), lt, List.getElem?_map, List.getElem?_drop] at h
    rw [show np + (i - np) = i by omega] at h
    cases e : es[i]? with
    | none => rw [e] at h; cases h
    | some s0 => rw [e] at h; cases h; exact .inr ⟨by omega, s0, rfl, rfl⟩
theorem demote_own (s : Sl) : (demote s).own = false := by cases s <;> rfl
theorem iv_start {K : PySem.W.Frag} {F H G : Hp} {vs : List V} {es : Sls} {N : List Str} {np n : Nat} (I : IV K ⟨F, H, G, vs, vs.length⟩ F es (vs.map some) H) (hn : es.length = n) (hnp : np ≤ n) :
    IV K ⟨F, H, G, vs, np⟩ F (startS N.length n np es) (L2.start N vs) H := by
  have lv : vs.length = n := by have := I.len; rw [List.length_map] at this; omega
  have lm : (es.take np ++ (es.drop np).map demote).length = n := by rw [List.length_append, List.length_take, List.length_map, List.length_drop]; omega
  have st : ∀ (i : Nat), i < n → (L2.start N vs)[i]? = (vs.map some)[i]? := fun i hi => by
    unfold L2.start
    rw [List.getElem?_append_left (by rw [List.length_map]; omega)]
  -- what a slot is
  have sl : ∀ (i : Nat) (s : Sl), (startS N.length n np es)[i]? = some s → s = .un ∨ (i < n ∧ (s.own = true → i < np) ∧ ∃ s0, es[i]? = some s0 ∧ (s = s0 ∨ (s0.own = true ∧ s = .un))) := fun i s h => by
    unfold startS at h
    by_cases hi : i < n
    · rw [List.getElem?_append_left (by omega)] at h
      rcases mix_get (by omega) h with ⟨h1, h2⟩ | ⟨h1, s0, h2, rfl⟩
      · exact .inr ⟨hi, fun _ => h1, s, h2, .inl rfl⟩
      · refine .inr ⟨hi, fun q => ?_, s0, h2, ?_⟩
        · rw [demote_own] at q; cases q
        · unfold demote
          split
          · rename_i q; exact .inr ⟨q, rfl⟩
          · exact .inl rfl
    · rw [List.getElem?_append_right (by omega), List.getElem?_replicate] at h
      split at h
      · cases h; exact .inl rfl
      · cases h
  refine ⟨I.sf, I.sg, Same.refl _, fun b => .inl rfl, fun b z => z, ?_, fun i s v h1 h2 => ?_, fun i j s t hij h1 h2 o1 o2 => ?_, fun i v hi hv => ?_⟩
  · unfold startS L2.start
    rw [List.length_append, lm, List.length_replicate, List.length_append, List.length_map, List.length_replicate, lv]
  · rcases sl i s h1 with rfl | ⟨hi, ho, s0, q, rfl | ⟨_, rfl⟩⟩
    · exact .un
    · rw [st i hi] at h2
      have z := I.sl i s v q h2
      cases z with
      | un => exact .un
      | im r => exact .im r
      | ow o g1 g2 g3 => exact .ow o g1 g2 fun y => absurd (ho o.own) (by simpa using y)
    · exact .un
  · rcases sl i s h1 with rfl | ⟨hi, _, s0, q, rfl | ⟨_, rfl⟩⟩
    · cases o1
    · rcases sl j t h2 with rfl | ⟨hj, _, t0, q', rfl | ⟨_, rfl⟩⟩
      · cases o2
      · rw [st i hi, st j hj]
        exact I.ap i j s t hij q q' o1 o2
      · cases o2
    · cases o1
  · rw [st i (Nat.lt_of_lt_of_le hi hnp)]
    exact len_some hv
theorem iv_back {K : PySem.W.Frag} {F H G F' H' : Hp} {vs : List V} {es e' : Sls} {σ' : L2.St} {N : List Str} {np n : Nat} (I : IV K ⟨F, H, G, vs, vs.length⟩ F es (vs.map some) H) (hn : es.length = n) (hnp : np ≤ n) (hN : n ≤ e'.length)
    (I' : IV K ⟨F, H, G, vs, np⟩ F' e' σ' H') : IV K ⟨F, H, G, vs, vs.length⟩ F' (backS np es e') (vs.map some) H' := by
  have lv : vs.length = n := by have := I.len; rw [List.length_map] at this; omega
  have an : ∀ (i : Nat), i < np → σ'[i]? = (vs.map some)[i]? := fun i hi => by
    have hv : i < vs.length := by omega
    rw [len_some (List.getElem?_eq_getElem hv)]
    exact I'.an i _ hi (List.getElem?_eq_getElem hv)
  have sl : ∀ (i : Nat) (s : Sl), (backS np es e')[i]? = some s → (i < np ∧ e'[i]? = some s) ∨ (np ≤ i ∧ ∃ s0, es[i]? = some s0 ∧ s = demote s0) := fun i s h => mix_get (Nat.le_trans hnp hN) h
  refine ⟨I'.sf, I'.sg, I'.g1, I'.g2, I'.g3, ?_, fun i s v h1 h2 => ?_, fun i j s t hij h1 h2 o1 o2 => ?_, fun i v _ hv => len_some hv⟩
  · unfold backS
    rw [List.length_append, List.length_take, List.length_map, List.length_map, List.length_drop]
    omega
  · rcases sl i s h1 with ⟨hi, q⟩ | ⟨_, s0, q, rfl⟩
    · rw [← an i hi] at h2
      have z := I'.sl i s v q h2
      cases z with
      | un => exact .un
      | im r => exact .im r
      | ow o g1 g2 g3 => exact .ow o g1 g2 fun y => absurd y (by
          have : i < vs.length := by omega
          simp [this])
    · have z := I.sl i s0 v q h2
      cases z with
      | un => exact .un
      | im r => exact .im (r.mono I'.g1)
      | ow o _ _ _ =>
        unfold demote
        rw [if_pos o.own]
        exact .un
  · rcases sl i s h1 with ⟨hi, q⟩ | ⟨_, s0, q, rfl⟩
    · rcases sl j t h2 with ⟨hj, q'⟩ | ⟨_, t0, q', rfl⟩
      · rw [← an i hi, ← an j hj]
        exact I'.ap i j s t hij q q' o1 o2
      · rw [demote_own] at o2; cases o2
    · rw [demote_own] at o1; cases o1
section
variable {P : Program} {w : World} {K : PySem.W.Frag} {mg : Str → Option Value} {base : Heap}
/-- a def keeps its mirror's promise -/
theorem okM {x qual : Str} {st : Stmt} {f : Addr} {fd : FuncData} {N ps : List Str} {k n np : Nat} {t : TS} {fb : FS} (F : Fun K x qual st f fd) (S : FnScope N ps (defScope st)) (hn : ps.length = n) (hN : n ≤ N.length)
    (hb : ∀ (cdv : Value) (A : Around) (outer : List PySem.Env) (s : Shared) (H : Hp) (E : XK), RoomT k (A.deeper (envOfC qual (defScope st) s.heap.objs.size f cdv)) → JSs (cxOf CX0 P w K mg base N qual (defScope st) f cdv A outer s H E).nox np (defBody st) t fb) :
    FnT P w K mg base (k + 1) f fd ps (spM K n (callF N.length n np fb)) := by
  refine funT_ok F S (fun vs H Q E h => h.1.trans hn.symm) fun cdv A outer s H vs Q E hr h => ?_
  obtain ⟨lv, F0, G, es, es', d, I, hm, q⟩ := h
  have J := hb cdv A outer s H E hr
  refine ⟨t, J.ps, ?_⟩
  unfold callF at hm
  split at hm
  · rename_i hl
    obtain ⟨⟨e', fl⟩, h1, hm⟩ := bnd hm
    have I0 := iv_start (N := N) I hl.1 hl.2
    refine J.de ⟨F0, H, G, vs, np⟩ F0 _ _ H _ rfl I0 e' fl h1 ?_
    have ll : ∀ {F' H' : Hp} {σ' : L2.St}, IV K ⟨F0, H, G, vs, np⟩ F' e' σ' H' → n ≤ e'.length → IV K ⟨F0, H, G, vs, vs.length⟩ F' (backS np es e') (vs.map some) H' := fun I' hl' => iv_back (N := N) I hl.1 hl.2 hl' I'
    cases fl with
    | nx =>
      simp only at hm
      split at hm
      · rename_i hl'
        cases hm
        intro F' σ' H' s' I'
        exact q F' .non H' (ll I' hl') (.im .non)
      · cases hm
    | rt d' =>
      simp only at hm
      split at hm
      · rename_i hl'
        cases hm
        intro F' v σ' H' s' I' r
        exact q F' v H' (ll I' hl') (.im r)
      · cases hm
    | ro d' =>
      simp only at hm
      split at hm
      · rename_i hl'
        cases hm
        intro F' a σ' H' s' I' o f1 f2 f3
        exact q F' _ H' (ll I' hl') (.ow o f1 f2 f3)
      · cases hm
    | bk => cases hm
    | ct => cases hm
  · cases hm
theorem jow_call {X : Cx} {np n k : Nat} {x : Str} {p pos : Pos} {ex : Expr} {es : List Expr} {f : Addr} {fd : FuncData} {ps : List Str} {m : FC} {t : TA} {fa : FA} (G : FnT X.prog X.w X.K X.mg X.base k f fd ps (spM X.K n m)) (hlen : ∀ {es r}, m es = some r → es.length = n)
    (hr : RoomT k X.A) (hg : Gl X x) (hm : X.mg x = some (.ref f)) (hk : PySem.W.keepIn X.K (.ref f) = true) (hb : Binds X.K fd ps []) (ha : JA X np (ex :: es) t fa)
    (hdb : (x == ("__debug__" : Str)) = false := by decide) (he : starEach (ex :: es) X.env = (false, eval ex X.env) :: starEach es X.env := by rfl) (hpl : (backTo pos (starEach es X.env)).any (·.1) = false := by rfl) :
    JOw X np (.Call (.Name x p) (ex :: es) [] pos) (tCall (spM X.K n m) [] E0 t) (oCall m fa) :=
  ⟨pe_callT G hr hg hm hk hb .nil pass0 ha.pa hdb he hpl, dow_call ha.de hlen⟩
theorem je_call1 {X : Cx} {np k : Nat} {x : Str} {p pos : Pos} {ex : Expr} {f : Addr} {fd : FuncData} {ps : List Str} {m : FC} {te : TE} {fo : Sls → Option (Sls × Sl)} (G : FnT X.prog X.w X.K X.mg X.base k f fd ps (spM X.K 1 m))
    (hr : RoomT k X.A) (hg : Gl X x) (hm : X.mg x = some (.ref f)) (hk : PySem.W.keepIn X.K (.ref f) = true) (hb : Binds X.K fd ps []) (ha : JOw X np ex te fo)
    (hdb : (x == ("__debug__" : Str)) = false := by decide) (he : starEach (ex :: []) X.env = (false, eval ex X.env) :: starEach [] X.env := by rfl) (hpl : (backTo pos (starEach [] X.env)).any (·.1) = false := by rfl) :
    JE X np (.Call (.Name x p) [ex] [] pos) (tCall (spM X.K 1 m) [] E0 (tCons te tNil)) (fCall1 m fo) :=
  ⟨pe_callT G hr hg hm hk hb .nil pass0 (pa_cons ha.pe pa_nil he) hdb he hpl, de_call1 ha.de⟩
theorem fnOk_none {f : Addr} {fd : FuncData} {ps : List Str} {n : Nat} {m : FC} (h : ∀ es, m es = none) : FnT P w K mg base 0 f fd ps (spM K n m) := by
  have no : ∀ vs H Q E, ¬ spM K n m vs H Q E := fun vs H Q E ⟨_, _, _, es, _, _, _, h2, _⟩ => by rw [h es] at h2; cases h2
  exact ⟨fun vs H Q E h => absurd h (no vs H Q E), fun A outer s H args us vs Q E _ _ _ _ h => absurd h (no vs H Q E)⟩
end

/-! ### keywords -/
structure JPK (X : Cx) (np : Nat) (kws : List Keyword) (t : TA) (f : FA) : Prop where
  pk : PK X kws t
  de : DA X.K np t f
section
variable {X : Cx} {np : Nat} {ex : Expr} {es : List Expr} {te : TE} {t : TA} {fe : FE} {fa : FA} {kws : List Keyword}
theorem jpk_nil : JPK X np [] tNil aNil := by
  refine ⟨pk_nil, fun B F e σ H Q hn I e' as hf q => ?_⟩
  cases hf
  exact q F [] H (Same.refl F) I .nil
theorem jpk_im {nm : Option Str} {kpos : Pos} (h : JE X np ex te fe) (h2 : JPK X np kws t fa) : JPK X np (⟨nm, ex, kpos⟩ :: kws) (tCons te t) (aIm fe fa) := by
  refine ⟨pk_cons h.pe h2.pk, fun B F e σ H Q hn I e' as hf q => ?_⟩
  obtain ⟨⟨e1, d⟩, h1, hf⟩ := bnd hf
  obtain ⟨⟨e2, as2⟩, h3, hf⟩ := bnd hf
  cases hf
  refine h.de B F e σ H _ hn I e1 d h1 fun F' v H' s I' r => ?_
  exact h2.de B F' e1 σ H' _ hn I' e2 as2 h3 fun F2 vs H2 s2 I2 r2 => q F2 (v :: vs) H2 (s.trans s2) I2 (.cons (.im (r.mono s2)) r2)
/-- f(k = v, ..): keywords alone, in the parameters' order -/
def KwB (K : PySem.W.Frag) (fd : FuncData) (ps : List Str) : Prop := ∀ (s : Shared) (ws : List Value), K.In s.heap → ws.length = ps.length → BindsTo s fd ⟨[], ps.zip ws⟩ (ps.zip ws)
def gKw {α : Type} : List α → List α → List α
  | [], ws => ws
  | _ :: _, _ => []
theorem kwB_binds {K : PySem.W.Frag} {fd : FuncData} {ps : List Str} (h : KwB K fd ps) (hp : ps ≠ []) : KBinds K fd ps ps gKw gKw := by
  refine ⟨fun s us ws X l => ?_, fun r1 r2 => ?_⟩
  · cases us with
    | nil => exact h s ws X l
    | cons u us => exact absurd (List.length_eq_zero_iff.mp l.symm) hp
  · cases r1 with
    | nil => exact r2
    | cons _ _ => exact .nil
def tCall0K (sp : Sp) (E : XK) (tk : TA) : TE := fun σ H Q => tk σ H fun zs H2 => sp zs H2 Q E
theorem je_call0K {n k : Nat} {x : Str} {p pos : Pos} {f : Addr} {fd : FuncData} {ps : List Str} {m : FC} (G : FnT X.prog X.w X.K X.mg X.base k f fd ps (spM X.K n m)) (hlen : ∀ {es r}, m es = some r → es.length = n)
    (hr : RoomT k X.A) (hg : Gl X x) (hm : X.mg x = some (.ref f)) (hk : PySem.W.keepIn X.K (.ref f) = true) (hb : KwB X.K fd ps) (hp : ps ≠ []) (hkw : JPK X np kws t fa)
    (hall : (backToKw pos (keywordEach kws X.env)).all (·.1.isSome) = true := by rfl) (hks : (backToKw pos (keywordEach kws X.env)).filterMap (·.1) = ps := by rfl) (hdb : (x == ("__debug__" : Str)) = false := by decide)
    (hpl : ((backTo pos (starEach [] X.env)).any (·.1) || (backToKw pos (keywordEach kws X.env)).any (·.1.isNone)) = false := by rfl) :
    JE X np (.Call (.Name x p) [] kws pos) (tCall0K (spM X.K n m) E0 t) (fCall m fa) := by
  refine ⟨⟨fun pins s σ H Q I h => ?_⟩, fun B F e σ H Q hn I e' d hf q => ?_⟩
  · refine wpAny_Call_Name_kw (ld_glob I hg hm ?_ hdb)
    refine PySem.W.callWith_KW0 (h₀ := X.base) I.ok.mod.kin hk hall ?_ hpl
    refine thn (hkw.pk.run pos pins s σ H _ I h) fun ws s2 ⟨zs, H2, I2, rz, q2⟩ => ⟨I2.kIn, ?_⟩
    rw [hks]
    exact run_fnkT (us := []) (vs := []) G hr (kwB_binds hb hp) pass0 I2 .nil rz q2
  · have z := de_call (E := E0) hkw.de hlen B F e σ H Q hn I e' d hf q
    unfold tCall at z
    unfold tCall0K
    have e2 : (fun (zs : List V) (H2 : Hp) => spM X.K n m (zs ++ []) H2 Q E0) = fun zs H2 => spM X.K n m zs H2 Q E0 := by funext zs H2; rw [List.append_nil]
    rw [e2] at z
    exact z
end
end M

namespace M
open PySem PySem.Spec PyProof.Rows L2

/-! ### short words for printed walks -/
/-- how all arguments bind -/
def BindsA (fd : FuncData) (ps : List Str) : Prop := ∀ (s : Shared) (us : List Value), us.length = ps.length → BindsTo s fd ⟨us, []⟩ (ps.zip us)
theorem BindsA.b {K : PySem.W.Frag} {fd : FuncData} {ps : List Str} (h : BindsA fd ps) : Binds K fd ps [] := fun s us _ hl => by
  rw [List.append_nil] at hl ⊢
  exact h s us hl
/-- the def x stands, and keeps its mirror's promise -/
def DefOk (P : Program) (w : World) (K : PySem.W.Frag) (mg : Str → Option Value) (base : Heap) (x : Str) (ps : List Str) (k n : Nat) (m : FC) : Prop :=
  ∃ (f : Addr) (fd : FuncData), FnT P w K mg base k f fd ps (spM K n m) ∧ BindsA fd ps ∧ PySem.W.keepIn K (.ref f) = true ∧ mg x = some (.ref f) ∧ (∀ es r, m es = some r → es.length = n) ∧ KwB K fd ps ∧ ps ≠ [] ∧ ∃ o, K.lookup f = some o ∧ o.data = .func fd
theorem DefOk.level {P : Program} {w : World} {K : PySem.W.Frag} {mg : Str → Option Value} {base : Heap} {x : Str} {ps : List Str} {k k' n : Nat} {m : FC} (h : DefOk P w K mg base x ps k n m) (hk : k ≤ k') : DefOk P w K mg base x ps k' n m := by
  obtain ⟨f, fd, G, b, kp, e, l, kw⟩ := h
  exact ⟨f, fd, G.mono hk, b, kp, e, l, kw⟩
section
variable {X : Cx} {np : Nat}
theorem jcall {K : PySem.W.Frag} {n k : Nat} {x : Str} {p pos : Pos} {ex : Expr} {es : List Expr} {ps : List Str} {m : FC} {t : TA} {fa : FA} (G : DefOk X.prog X.w K X.mg X.base x ps k n m)
    (hr : RoomT k X.A) (hg : Gl X x) (ha : JA X np (ex :: es) t fa) (hdb : (x == ("__debug__" : Str)) = false := by decide)
    (he : starEach (ex :: es) X.env = (false, eval ex X.env) :: starEach es X.env := by rfl) (hpl : (backTo pos (starEach es X.env)).any (·.1) = false := by rfl) (hK : X.K = K := by rfl) :
    JE X np (.Call (.Name x p) (ex :: es) [] pos) (tCall (spM K n m) [] E0 t) (fCall m fa) := by
  subst hK
  obtain ⟨f, fd, G, b, kp, e, l, kw⟩ := G
  exact je_call G (fun {es r} h => l es r h) hr hg e kp b.b ha hdb he hpl
theorem jcallK {K : PySem.W.Frag} {n k : Nat} {x : Str} {p pos : Pos} {kws : List Keyword} {ps : List Str} {m : FC} {t : TA} {fa : FA} (G : DefOk X.prog X.w K X.mg X.base x ps k n m)
    (hr : RoomT k X.A) (hg : Gl X x) (ha : JPK X np kws t fa) (hall : (backToKw pos (keywordEach kws X.env)).all (·.1.isSome) = true := by rfl) (hks : (backToKw pos (keywordEach kws X.env)).filterMap (·.1) = ps := by rfl)
    (hdb : (x == ("__debug__" : Str)) = false := by decide) (hpl : ((backTo pos (starEach [] X.env)).any (·.1) || (backToKw pos (keywordEach kws X.env)).any (·.1.isNone)) = false := by rfl) (hK : X.K = K := by rfl) :
    JE X np (.Call (.Name x p) [] kws pos) (tCall0K (spM K n m) E0 t) (fCall m fa) := by
  subst hK
  obtain ⟨f, fd, G, b, kp, e, l, kw⟩ := G
  exact je_call0K G (fun {es r} h => l es r h) hr hg e kp kw.1 kw.2.1 ha hall hks hdb hpl
theorem jcallO {K : PySem.W.Frag} {n k : Nat} {x : Str} {p pos : Pos} {ex : Expr} {es : List Expr} {ps : List Str} {m : FC} {t : TA} {fa : FA} (G : DefOk X.prog X.w K X.mg X.base x ps k n m)
    (hr : RoomT k X.A) (hg : Gl X x) (ha : JA X np (ex :: es) t fa) (hdb : (x == ("__debug__" : Str)) = false := by decide)
    (he : starEach (ex :: es) X.env = (false, eval ex X.env) :: starEach es X.env := by rfl) (hpl : (backTo pos (starEach es X.env)).any (·.1) = false := by rfl) (hK : X.K = K := by rfl) :
    JOw X np (.Call (.Name x p) (ex :: es) [] pos) (tCall (spM K n m) [] E0 t) (oCall m fa) := by
  subst hK
  obtain ⟨f, fd, G, b, kp, e, l, kw⟩ := G
  exact jow_call G (fun {es r} h => l es r h) hr hg e kp b.b ha hdb he hpl
theorem jcall1 {K : PySem.W.Frag} {k : Nat} {x : Str} {p pos : Pos} {ex : Expr} {ps : List Str} {m : FC} {te : TE} {fo : Sls → Option (Sls × Sl)} (G : DefOk X.prog X.w K X.mg X.base x ps k 1 m)
    (hr : RoomT k X.A) (hg : Gl X x) (ha : JOw X np ex te fo) (hdb : (x == ("__debug__" : Str)) = false := by decide)
    (he : starEach (ex :: []) X.env = (false, eval ex X.env) :: starEach [] X.env := by rfl) (hpl : (backTo pos (starEach [] X.env)).any (·.1) = false := by rfl) (hK : X.K = K := by rfl) :
    JE X np (.Call (.Name x p) [ex] [] pos) (tCall (spM K 1 m) [] E0 (tCons te tNil)) (fCall1 m fo) := by
  subst hK
  obtain ⟨f, fd, G, b, kp, e, l, kw⟩ := G
  exact je_call1 G hr hg e kp b.b ha hdb he hpl
/-- name = value -/
theorem js_set {i : Nat} {x : Str} {p pos : Pos} {ex : Expr} {te : TE} {fe : FE} (hN : X.N.Nodup) (h : JE X np ex te fe) (hi : X.N[i]? = some x := by rfl) (hx : Loc X.env.scope x := by first | exact Or.inl rfl | exact Or.inr rfl) (hnp : np ≤ i := by decide)
    (hs : swapsWith ex (some (.Name x p)) pos.line X.env = pure false := by rfl) (hf : X.fn x = true ∨ X.env.scope.names.lookup x = some .local := by first | exact .inl rfl | exact .inr rfl) : JS X np (.Assign [.Name x p] ex pos) (tAsg te (gName i)) (sSet fe (bName i)) :=
  js_asg h (jg_name (pg_name hN hi hx hf) hnp) (ps_set hN hi hx h.pe hs hf)
theorem js_new {i : Nat} {x : Str} {p pos : Pos} {ex : Expr} {te : TE} {f : Sls → Option (Sls × Sl)} (hN : X.N.Nodup) (h : JOw X np ex te f) (hi : X.N[i]? = some x := by rfl) (hx : Loc X.env.scope x := by first | exact Or.inl rfl | exact Or.inr rfl) (hnp : np ≤ i := by decide)
    (hs : swapsWith ex (some (.Name x p)) pos.line X.env = pure false := by rfl) (hf : X.fn x = true ∨ X.env.scope.names.lookup x = some .local := by first | exact .inl rfl | exact .inr rfl) : JS X np (.Assign [.Name x p] ex pos) (tAsg te (gName i)) (sSetO i f) :=
  js_setO h (ps_set hN hi hx h.pe hs hf) hnp
theorem jname {i : Nat} {x : Str} {p : Pos} (hN : X.N.Nodup) (hi : X.N[i]? = some x := by rfl) (hx : Loc X.env.scope x := by first | exact Or.inl rfl | exact Or.inr rfl) (hnp : np ≤ i := by decide) (hf : X.fn x = true ∨ X.env.scope.names.lookup x = some .local := by first | exact .inl rfl | exact .inr rfl) :
    JG X np (.Name x p) [i] (gName i) (bName i) := jg_name (pg_name hN hi hx hf) hnp
theorem js_put {i : Nat} {x : Str} {p pos tpos : Pos} {ex ix : Expr} {te ti : TE} {fe fi : FE} (h : JE X np ex te fe) (hv : PE X (.Name x p) (tVar i)) (hi : JE X np ix ti fi)
    (ha : ∀ v, assign (.Subscript (.Name x p) ix tpos) X.env v = (do
      let ov ← holding [v] (eval (.Name x p) X.env)
      let iv ← holding [v, ov] (eval ix X.env)
      standAt tpos
      holding [v, ov, iv] (setItem ov iv v)
      release [v, ov, iv] []) := by intro _; rfl)
    (hs : swapsWithSole [.Subscript (.Name x p) ix tpos] ex pos.line X.env = pure false := by rfl) (hw : swappedStores [.Subscript (.Name x p) ix tpos] ex X.env = pure none := by rfl)
    (h1 : (assignEach [.Subscript (.Name x p) ix tpos] X.env).map (·.2) = [assign (.Subscript (.Name x p) ix tpos) X.env] := by rfl) :
    JS X np (.Assign [.Subscript (.Name x p) ix tpos] ex pos) (tAsg te (gSub (tVar i) ti rSetL)) (sSetIx i fe fi) :=
  js_setIx h hi (ps_asg h.pe (pg_sub hv hi.pe set_list ha) hs hw h1)
theorem jappend {K : PySem.W.Frag} {i : Nat} {x : Str} {p apos cpos : Pos} {ex : Expr} {te : TE} {fe : FE} (hv : PE X (.Name x p) (tVar i)) (h : JE X np ex te fe)
    (hs : starEach [ex] X.env = (false, eval ex X.env) :: starEach [] X.env := by rfl) (hbase : attributeBase (.Name x p) "append" X.env (eval (.Name x p) X.env) = eval (.Name x p) X.env := by rfl)
    (hfew : ((backTo cpos (starEach (ex :: []) X.env)).all (fun x => !x.1) && (backToKw cpos (keywordEach [] X.env)).all (fun x => x.1.isSome)
      && decide ((ex :: []).length + ([] : List Keyword).length + (if ([] : List Keyword).isEmpty then 0 else 1) < 30)) = true := by rfl)
    (hline : (apos.endLine == cpos.line) = true := by rfl) (hplain : (backTo cpos (starEach [] X.env)).any (·.1) = false := by rfl) (hK : X.K = K := by rfl) :
    JE X np (.Call (.Attribute (.Name x p) "append" apos) [ex] [] cpos) (tBM K "list" rAppend (tVar i) (tCons te tNil)) (fAppend i fe) := by
  subst hK
  exact je_append i hv h (pe_bm PySem.F.plainAttrs_list PySem.F.slot_list_append PySem.F.type_list_append mt_append hv (pa_cons h.pe pa_nil hs) hbase hfew hline hs hplain)
section
variable {K : PySem.W.Frag}
theorem oadd (hK : X.K = K := by rfl) : OpR X (binaryOp .Add) (rAddD K) := by subst hK; exact op_addD
theorem oeq (hu : X.A.units + 200 < cLine) (hK : X.K = K := by rfl) : OpR X (compareOp .Eq) (rEqX K) := by subst hK; exact op_eqX hu
theorem one (hu : X.A.units + 200 < cLine) (hK : X.K = K := by rfl) : OpR X (compareOp .NotEq) (rNeX K) := by subst hK; exact op_neX hu
theorem oin (hu : X.A.units + 200 < cLine) (hK : X.K = K := by rfl) : OpR X (compareOp .In) (fun x y H Q => ∃ b, InVals K H x y b ∧ Q (.bl b) H) := by subst hK; exact op_inX hu
theorem onin (hu : X.A.units + 200 < cLine) (hK : X.K = K := by rfl) : OpR X (compareOp .NotIn) (fun x y H Q => ∃ b, InVals K H x y b ∧ Q (.bl (!b)) H) := by subst hK; exact op_notInX hu
theorem oix (hu : X.A.units + 200 < cLine) (hK : X.K = K := by rfl) : IxR X (rIxD K) := by subst hK; exact ix_D hu
theorem olen (hK : X.K = K := by rfl) : CallR X (.builtin "len") (rLenX K) := by subst hK; exact call_lenX
theorem oisa (hK : X.K = K := by rfl) : CallR X (.builtin "isinstance") (rIsi K) := by subst hK; exact call_isi
theorem oall (hc : X.calm = true := by rfl) (hK : X.K = K := by rfl) : CallR X (.builtin "all") (rAll K) := by subst hK; exact cr_all hc
theorem oany (hc : X.calm = true := by rfl) (hK : X.K = K := by rfl) : CallR X (.builtin "any") (rAny K) := by subst hK; exact cr_any hc
theorem otup (hK : X.K = K := by rfl) : CallR X (.type "tuple") (fun xs H Q => ∃ p ys, xs = [.ref p] ∧ ((SqL K H p ys ∧ ∀ l, H l = none → Q (.ref l) (upd H l (.tup ys))) ∨ (SqT K H p ys ∧ Q (.ref p) H))) := by subst hK; exact call_tuple_of
theorem olst (hK : X.K = K := by rfl) : CallR X (.type "list") (fun xs H Q => ∃ p ys, xs = [.ref p] ∧ (SqL K H p ys ∨ SqT K H p ys) ∧ ∀ l, H l = none → Q (.ref l) (upd H l (.lst ys))) := by subst hK; exact call_list_of
theorem ojoin (hK : X.K = K := by rfl) : MtR X "str.join" (fun x xs H Q => ∃ a p, ∃ ys : List Str, x = .str a ∧ xs = [.ref p] ∧ (SqL K H p (ys.map V.str) ∨ SqT K H p (ys.map V.str)) ∧
    (ys.map (·.length)).sum + ys.length * a.length ≤ 16777216 ∧ Q (.str (Txt.join a ys)) H) := by subst hK; exact mt_join
end
theorem jseq {K : PySem.W.Frag} {tg a : Expr} {t : TE} {f : FE} (h : JE X np a t f) (hK : X.K = K := by rfl) : JI X np tg a (iSeq K t) (fIt f) := by
  subst hK
  exact ji_seq h
theorem jslice {K : PySem.W.Frag} {a : Expr} {lo hi : Option Expr} {pos p2 : Pos} {t : TE} {tl th : TO} {k : FK} {l h : FO} (ha : JK X np a t k) (hl : JO X np lo tl l) (hh : JO X np hi th h) (hK : X.K = K := by rfl) :
    JE X np (.Subscript a (.Slice lo hi none p2) pos) (tSl (rSlD K) t tl th) (fSl k l h) := by
  subst hK
  exact je_slice ha hl hh
theorem jtup {K : PySem.W.Frag} {es : List Expr} {n : Nat} {ts : List Nat} {gs : TGs} {bs : FGs} {x1} {pos : Pos} (hc : X.calm = true) (h : JGs X np es n ts gs bs) (hn : (assignEach es X.env).length = n := by rfl) (hst : (assignEach es X.env).findIdx? (·.1) = none := by rfl) (hK : X.K = K := by rfl) :
    JG X np (.Tuple es x1 pos) ts (gTup K n gs) (bTup n bs) := by
  subst hK
  exact jg_tup hc h hn hst
theorem jzip {K : PySem.W.Frag} {e1 e2 : Expr} {n kk : Nat} {elts : List Expr} {p pos tpos : Pos} {ta : TA} {k : FEs} (hg : Gl X "zip") (hm : X.mg "zip" = none) (ha : JEs X np [e1, e2] n ta k) (hs : starEach [e1, e2] X.env = (false, eval e1 X.env) :: starEach [e2] X.env := by rfl)
    (hpl : (backTo pos (starEach [e2] X.env)).any (·.1) = false := by rfl) (hK : X.K = K := by rfl) : JI X np (.Tuple elts kk tpos) (.Call (.Name "zip" p) [e1, e2] [] pos) (iZip K ta) (fZip k) := by
  subst hK
  exact ji_zip hg hm ha (pi_zip hg hm ha.pa hs hpl)
theorem jenum {K : PySem.W.Frag} {e1 : Expr} {n kk : Nat} {elts : List Expr} {p pos tpos : Pos} {ta : TA} {k : FEs} (hg : Gl X "enumerate") (hm : X.mg "enumerate" = none) (ha : JEs X np [e1] n ta k) (hs : starEach [e1] X.env = [(false, eval e1 X.env)] := by rfl) (hK : X.K = K := by rfl) :
    JI X np (.Tuple elts kk tpos) (.Call (.Name "enumerate" p) [e1] [] pos) (iEnum K ta) (fEnum k) := by
  subst hK
  exact ji_enum ha (pi_enum hg hm ha.pa hs)
end

/-! ### where a def stands -/
def Src (K : PySem.W.Frag) (mg : Str → Option Value) (x : Str) (st : Stmt) (ps : List Str) : Prop := ∃ (f : Addr) (fd : FuncData), Fun K x x st f fd ∧ BindsA fd ps ∧ mg x = some (.ref f) ∧ KwB K fd ps ∧ ps ≠ []
section
variable {P : Program} {w : World} {K : PySem.W.Frag} {mg : Str → Option Value} {base : Heap}
theorem src_mk {h : Heap} {x : Str} {st : Stmt} {ps : List Str} {f : Addr} {oc : Value} {od an : Option Addr} {osl : Array (Option Value)} {kV doc pm cdv ct : Value} (X : K.In h) (G : h.Ns mainGlobals mg) (a : PySem.W.nsIn K mainGlobals x = some (some (.ref f)))
    (l : K.lookup f = some ⟨oc, od, .func (PySem.W.fnOf x x (defArgs st) (defBody st) (defScope st) .none kV doc pm an cdv ct), osl⟩) (c : PySem.W.codeIn K cdv x = true) (k : PySem.W.keepIn K (.ref f) = true)
    (hb : ∀ (kV doc pm : Value) (an : Option Addr) (cdv ct : Value) (us : List Value), us.length = ps.length → bindArgs (PySem.W.fnOf x x (defArgs st) (defBody st) (defScope st) .none kV doc pm an cdv ct) ⟨us, []⟩ = pure (ps.zip us))
    (hk : ∀ (kV doc pm : Value) (an : Option Addr) (cdv ct : Value) (us : List Value), us.length = ps.length → bindArgs (PySem.W.fnOf x x (defArgs st) (defBody st) (defScope st) .none kV doc pm an cdv ct) ⟨[], ps.zip us⟩ = pure (ps.zip us)) (hp : ps ≠ []) : Src K mg x st ps := by
  have F := fun_mk (st := st) l c k
  exact ⟨f, _, F, fun s us hl => .of_eq (hb _ _ _ _ _ _ us hl), PySem.W.mg_of X G a, fun s ws _ hl => .of_eq (hk _ _ _ _ _ _ ws hl), hp⟩
theorem src_ok {x : Str} {st : Stmt} {ps N : List Str} {k n np : Nat} {t : TS} {fb : FS} {m : FC} (S : Src K mg x st ps) (sc : FnScope N ps (defScope st)) (hn : ps.length = n) (hN : n ≤ N.length)
    (hb : ∀ (f : Addr) (cdv : Value) (A : Around) (outer : List PySem.Env) (s : Shared) (H : Hp) (E : XK), RoomT k (A.deeper (envOfC x (defScope st) s.heap.objs.size f cdv)) → JSs (cxOf CX0 P w K mg base N x (defScope st) f cdv A outer s H E).nox np (defBody st) t fb)
    (hm : m = callF N.length n np fb) : DefOk P w K mg base x ps (k + 1) n m := by
  subst hm
  obtain ⟨f, fd, F, b, e, kw1, kw2⟩ := S
  obtain ⟨oc, od, kV, doc, pm, an, cdv, ct, osl, e1, lk, _⟩ := F.ex
  exact ⟨f, fd, okM F sc hn hN (hb f), b, F.kp, e, fun es r h => callF_len h, kw1, kw2, _, lk, rfl⟩
theorem src_none {x : Str} {st : Stmt} {ps : List Str} {n : Nat} {m : FC} (S : Src K mg x st ps) (hm : ∀ es, m es = none) : DefOk P w K mg base x ps 0 n m := by
  obtain ⟨f, fd, F, b, e, kw1, kw2⟩ := S
  obtain ⟨oc, od, kV, doc, pm, an, cdv, ct, osl, e1, lk, _⟩ := F.ex
  exact ⟨f, fd, fnOk_none hm, b, F.kp, e, (fun es r h => by rw [hm es] at h; exact nomatch h), kw1, kw2, _, lk, rfl⟩
end
theorem hu200 {A : Around} {k : Nat} (hr : RoomT k A) : A.units + 200 < cLine := by have := hr.un; omega
/-! ### the law's end -/
def spTrue (K : PySem.W.Frag) : Sp := fun vs H Q _ => ∃ (a : Addr) (ns : List Int), vs = [.ref a] ∧ SqL K H a (ns.map V.int) ∧ ns.length ≤ 63 ∧ (∀ z ∈ ns, Builtin.Int.intBits z ≤ 1048576) ∧ ∀ H', Q (.bl true) H'
def scriptD (ns : List Int) : D := .lst (ns.map .int)
theorem rps_ints {K : PySem.W.Frag} {F : Hp} : ∀ ns : List Int, Rps K F (ns.map V.int) (ns.map D.int)
  | [] => .nil
  | n :: ns => .cons (.int n) (rps_ints ns)
/-- the law's def, by its mirror: at every script it gives True -/
theorem law_imp {K : PySem.W.Frag} {m : FC} (h : ∀ ns : List Int, ns.length ≤ 63 → (∀ z ∈ ns, Builtin.Int.intBits z ≤ 1048576) → ∃ es', m [.im (scriptD ns)] = some (es', .im (.bl true))) :
    ∀ vs H Q E, spTrue K vs H Q E → spM K 1 m vs H Q E := by
  rintro vs H Q E ⟨a, ns, rfl, hs, hl, hb, q⟩
  obtain ⟨es', hm⟩ := h ns hl hb
  refine ⟨rfl, H, H, [.im (scriptD ns)], es', .im (.bl true), ⟨Same.refl _, Same.refl _, Same.refl _, fun b => .inl rfl, fun b z => z, rfl, fun i s v h1 h2 => ?_, fun i j s t hij h1 h2 o1 o2 => ?_, fun i v _ hv => len_some hv⟩, hm, fun F' v H' _ r => ?_⟩
  · match i with
    | 0 =>
      simp at h1 h2
      subst h1
      rw [← h2]
      exact .im (.lst hs (rps_ints ns))
    | i + 1 => simp at h1
  · match i, j with
    | 0, 0 => exact absurd rfl hij
    | i + 1, _ => simp at h1
    | 0, j + 1 => simp at h2
  · cases r with
    | im r => cases r; exact q H'
    | ow o _ _ _ => cases o
theorem law_end {P : Program} {w : World} {K : PySem.W.Frag} {mg : Str → Option Value} {x : Str} {j k : Nat} {m : FC} {f : Addr} (hj : k + 3 ≤ 3 * j) (h0 : Heap) (D : ∀ base, DefOk P w K mg base "law" [x] k 1 m) (e : mg "law" = some (.ref f))
    (h : ∀ ns : List Int, ns.length ≤ 63 → (∀ z ∈ ns, Builtin.Int.intBits z ≤ 1048576) → ∃ es', m [.im (scriptD ns)] = some (es', .im (.bl true))) :
    ∃ fd, (∀ (s : Shared) (v : Value), BindsTo s fd ⟨[v], []⟩ [(x, v)]) ∧ ∀ base : Heap, K.In base → base.Ns mainGlobals mg → FnOk P w K mg base CX0 j f fd [x] (spTrue K) := by
  obtain ⟨f', fd, G, b, kp, e', l, kw, _, o, lk, ho⟩ := D h0
  rw [e] at e'
  cases e'
  refine ⟨fd, fun s v => b s [v] rfl, fun base _ _ => ?_⟩
  obtain ⟨f2, fd2, G2, _, _, e2, _, _, _, o2, lk2, ho2⟩ := D base
  rw [e] at e2
  cases e2
  rw [lk] at lk2
  cases lk2
  rw [ho] at ho2
  cases ho2
  exact (G2.imp (law_imp h)).ok hj
end M

namespace M
open PySem PySem.Spec PyProof.Rows L2

/-! ### what a mirror gives: an answer with a property -/
def W {α : Type} (o : Option (Sls × α)) (Q : Sls → α → Prop) : Prop := ∃ e d, o = some (e, d) ∧ Q e d
theorem W_some {α : Type} (e : Sls) (d : α) (Q : Sls → α → Prop) : W (some (e, d)) Q = Q e d := by
  apply propext
  constructor
  · rintro ⟨e1, d1, h, q⟩; cases h; exact q
  · intro h; exact ⟨e, d, rfl, h⟩
theorem W_bind {α β : Type} (o : Option (Sls × α)) (k : Sls × α → Option (Sls × β)) (Q : Sls → β → Prop) : W (o.bind k) Q = W o fun e d => W (k (e, d)) Q := by
  apply propext
  constructor
  · rintro ⟨e1, d1, h, q⟩
    obtain ⟨⟨e2, d2⟩, h1, h2⟩ := bnd h
    exact ⟨e2, d2, h1, e1, d1, h2, q⟩
  · rintro ⟨e2, d2, h1, e1, d1, h2, q⟩
    exact ⟨e1, d1, by rw [h1]; exact h2, q⟩
theorem W_none {α : Type} (Q : Sls → α → Prop) : W none Q = False := by
  apply propext
  constructor
  · rintro ⟨e1, d1, h, q⟩; cases h
  · intro h; cases h
theorem W_ite {α : Type} (c : Prop) [Decidable c] (a b : Option (Sls × α)) (Q : Sls → α → Prop) : W (if c then a else b) Q = ((c → W a Q) ∧ (¬c → W b Q)) := by
  by_cases h : c
  · simp only [h, if_true, true_imp_iff, not_true, false_imp_iff, and_true]
  · simp only [h, if_false, true_imp_iff, not_false_iff, false_imp_iff, true_and]
theorem W_guard {α : Type} (c : Prop) [Decidable c] (a : Option (Sls × α)) (Q : Sls → α → Prop) : W (if c then a else none) Q = (c ∧ W a Q) := by
  by_cases h : c
  · simp only [h, if_true, true_and]
  · simp only [h, if_false, false_and, W_none]
theorem bind_guard {α β : Type} (c : Prop) [Decidable c] (a : Option α) (k : α → Option β) : (if c then a else none).bind k = if c then a.bind k else none := by
  by_cases h : c <;> simp [h]
theorem bind_ite {α β : Type} (c : Prop) [Decidable c] (a b : Option α) (k : α → Option β) : (if c then a else b).bind k = if c then a.bind k else b.bind k := by
  by_cases h : c <;> simp [h]
theorem W_mono {α : Type} {o : Option (Sls × α)} {Q R : Sls → α → Prop} (h : W o Q) (hr : ∀ e d, Q e d → R e d) : W o R := by
  obtain ⟨e, d, h, q⟩ := h
  exact ⟨e, d, h, hr _ _ q⟩

/-! ### the combinators at a state that shows its first slot -/
section
variable (s : Sl) (e : Sls)
theorem c_kE (f : FE) : kE f (s :: e) = (f (s :: e)).bind fun p => some (p.1, fun _ => some p.2) := rfl
theorem c_kVar (i : Nat) : kVar i (s :: e) = (peek i (s :: e)).bind fun _ => some (s :: e, peek i) := rfl
theorem c_peek (i : Nat) : peek i (s :: e) = ((s :: e)[i]?).bind Sl.see := rfl
theorem c_fC (d : D) : fC d (s :: e) = some (s :: e, d) := rfl
theorem c_fV (np i : Nat) : fV np i (s :: e) = match (s :: e)[i]? with
  | some (.im d) => some (s :: e, d)
  | some (.lst ds) => if np ≤ i then some ((s :: e).set i (.im (.lst ds)), .lst ds) else none
  | some (.dic es) => if np ≤ i then some ((s :: e).set i (.im (.dic es)), .dic es) else none
  | _ => none := rfl
theorem c_fOp (g : D → D → Option D) (ka kb : FK) : fOp g ka kb (s :: e) = (ka (s :: e)).bind fun p => (kb p.1).bind fun q => (p.2 q.1).bind fun x => (q.2 q.1).bind fun y => (g x y).bind fun d => some (q.1, d) := rfl
theorem c_fUn (g : D → Option D) (ka : FK) : fUn g ka (s :: e) = (ka (s :: e)).bind fun p => (p.2 p.1).bind fun x => (g x).bind fun d => some (p.1, d) := rfl
theorem c_fTest (f : FE) : fTest f (s :: e) = (f (s :: e)).bind fun p => match p.2 with | .bl b => some (p.1, b) | _ => none := rfl
theorem c_fTru (g : D → Option Bool) (ka : FK) : fTru g ka (s :: e) = (ka (s :: e)).bind fun p => (p.2 p.1).bind fun x => (g x).bind fun b => some (p.1, b) := rfl
theorem c_fAnd (f g : FT) : fAnd f g (s :: e) = (f (s :: e)).bind fun p => if p.2 = true then g p.1 else some (p.1, false) := rfl
theorem c_fOr (f g : FT) : fOr f g (s :: e) = (f (s :: e)).bind fun p => if p.2 = true then some (p.1, true) else g p.1 := rfl
theorem c_fNot (f : FT) : fNot f (s :: e) = (f (s :: e)).bind fun p => some (p.1, !p.2) := rfl
theorem c_fAndV (f g : FE) : fAndV f g (s :: e) = (f (s :: e)).bind fun p => match p.2 with | .bl b => if b = true then g p.1 else some (p.1, .bl false) | _ => none := rfl
theorem c_fOrV (f g : FE) : fOrV f g (s :: e) = (f (s :: e)).bind fun p => match p.2 with | .bl b => if b = true then some (p.1, .bl true) else g p.1 | _ => none := rfl
theorem c_fNotV (f : FE) : fNotV f (s :: e) = (f (s :: e)).bind fun p => match p.2 with | .bl b => some (p.1, .bl (!b)) | _ => none := rfl
theorem c_fIfE (c : FT) (f g : FE) : fIfE c f g (s :: e) = (c (s :: e)).bind fun p => if p.2 = true then f p.1 else g p.1 := rfl
theorem c_fNil : fNil (s :: e) = some (s :: e, []) := rfl
theorem c_fCons (f : FE) (g : FEs) : fCons f g (s :: e) = (f (s :: e)).bind fun p => (g p.1).bind fun q => some (q.1, p.2 :: q.2) := rfl
theorem c_kNil : kNil (s :: e) = some (s :: e, fun _ => some []) := rfl
theorem c_kCons (f : FK) (g : FKs) : kCons f g (s :: e) = (f (s :: e)).bind fun p => (g p.1).bind fun q => some (q.1, fun e2 => (p.2 e2).bind fun d => (q.2 e2).bind fun ds => some (d :: ds)) := rfl
theorem c_fTup (f : FEs) : fTup f (s :: e) = (f (s :: e)).bind fun p => some (p.1, .tup p.2) := rfl
theorem c_fLst (f : FEs) : fLst f (s :: e) = (f (s :: e)).bind fun p => some (p.1, .lst p.2) := rfl
theorem c_fCB (g : List D → Option D) (k : FKs) : fCB g k (s :: e) = (k (s :: e)).bind fun p => (p.2 p.1).bind fun ds => (g ds).bind fun d => some (p.1, d) := rfl
theorem c_fNoPart : fNoPart (s :: e) = some (s :: e, none) := rfl
theorem c_fPart (f : FE) : fPart f (s :: e) = (f (s :: e)).bind fun p => match p.2 with | .int i => some (p.1, some i) | _ => none := rfl
theorem c_fSl (k : FK) (l h : FO) : fSl k l h (s :: e) = (k (s :: e)).bind fun p => (l p.1).bind fun a => (h a.1).bind fun b => (p.2 b.1).bind fun d => (cutD d a.2 b.2).bind fun c => some (b.1, c) := rfl
theorem c_fM1 (g : D → D → Option D) (k l : FK) : fM1 g k l (s :: e) = (k (s :: e)).bind fun p => match p.2 p.1 with
  | some (.str a) => (l p.1).bind fun q => (q.2 q.1).bind fun y => (g (.str a) y).bind fun d => some (q.1, d)
  | _ => none := rfl
theorem c_fM0 (g : D → Option D) (k : FK) : fM0 g k (s :: e) = (k (s :: e)).bind fun p => match p.2 p.1 with
  | some (.str a) => (g (.str a)).bind fun d => some (p.1, d)
  | _ => none := rfl
theorem c_fIt (f : FE) : fIt f (s :: e) = (f (s :: e)).bind fun p => match p.2 with
  | .lst ds => some (p.1, ds)
  | .tup ds => some (p.1, ds)
  | .str z => some (p.1, chars z)
  | _ => none := rfl
theorem c_fRng1 (k : FKs) : fRng1 k (s :: e) = (k (s :: e)).bind fun p => match p.2 p.1 with
  | some [.int j] => if rngB j = true then some (p.1, rngD 0 j.toNat) else none
  | _ => none := rfl
theorem c_fRng2 (k : FKs) : fRng2 k (s :: e) = (k (s :: e)).bind fun p => match p.2 p.1 with
  | some [.int i, .int j] => if rngB i = true ∧ rngB j = true then some (p.1, rngD i (j - i).toNat) else none
  | _ => none := rfl
theorem c_fZip (k : FEs) : fZip k (s :: e) = (k (s :: e)).bind fun p => match p.2 with
  | [.lst xs, .lst ys] => some (p.1, pairs xs ys)
  | _ => none := rfl
theorem c_fEnum (k : FEs) : fEnum k (s :: e) = (k (s :: e)).bind fun p => match p.2 with
  | [.lst xs] => some (p.1, numbered xs)
  | _ => none := rfl
theorem c_bName (i : Nat) (d : D) : bName i (s :: e) d = some ((s :: e).set i (.im d)) := rfl
theorem c_bNil (ds : List D) : bNil (s :: e) ds = match ds with | [] => some (s :: e) | _ => none := rfl
theorem c_bCons (b : FG) (bs : FGs) (ds : List D) : bCons b bs (s :: e) ds = match ds with | d :: r => (b (s :: e) d).bind fun e1 => bs e1 r | _ => none := rfl
theorem c_bTup (n : Nat) (bs : FGs) (d : D) : bTup n bs (s :: e) d = match d with | .tup ds => if ds.length = n then bs (s :: e) ds else none | _ => none := rfl
theorem c_fYes : fYes (s :: e) = some (s :: e, true) := rfl
theorem c_fLc (it : FI) (vs : List Nat) (b : FG) (c : FT) (f : FE) : fLc it vs b c f (s :: e) = (it (s :: e)).bind fun p =>
  if vs.all (fun i => !((p.1[i]?.getD .un).own)) = true then (lcLoop vs b c f p.2 (wipeS p.1 vs) []).bind fun q => some (restS p.1 q.1 vs, .lst q.2) else none := rfl
theorem c_sNil : sNil (s :: e) = some (s :: e, .nx) := rfl
theorem c_sSeq (f g : FS) : sSeq f g (s :: e) = (f (s :: e)).bind fun p => match p.2 with
  | .nx => g p.1
  | fl => some (p.1, fl) := rfl
theorem c_sIf (c : FT) (f g : FS) : sIf c f g (s :: e) = (c (s :: e)).bind fun p => if p.2 = true then f p.1 else g p.1 := rfl
theorem c_sRet (f : FE) : sRet f (s :: e) = (f (s :: e)).bind fun p => some (p.1, .rt p.2) := rfl
theorem c_sRetN : sRetN (s :: e) = some (s :: e, .rt .non) := rfl
theorem c_sDrop (f : FE) : sDrop f (s :: e) = (f (s :: e)).bind fun p => some (p.1, .nx) := rfl
theorem c_sSet (f : FE) (b : FG) : sSet f b (s :: e) = (f (s :: e)).bind fun p => (b p.1 p.2).bind fun e1 => some (e1, .nx) := rfl
theorem c_sBreak : sBreak (s :: e) = some (s :: e, .bk) := rfl
theorem c_sCont : sCont (s :: e) = some (s :: e, .ct) := rfl
theorem c_sFor (it : FI) (b : FG) (body : FS) : sFor it b body (s :: e) = (it (s :: e)).bind fun p => forL b body p.2 p.1 := rfl
theorem c_sRetO (f : Sls → Option (Sls × Sl)) : sRetO f (s :: e) = (f (s :: e)).bind fun p => some (p.1, .ro p.2) := rfl
theorem c_sRetV (np i : Nat) : sRetV np i (s :: e) = match (s :: e)[i]? with
  | some t => if t.own = true ∧ np ≤ i then some (s :: e, .ro t) else none
  | none => none := rfl
theorem c_oLst (f : FEs) : oLst f (s :: e) = (f (s :: e)).bind fun p => some (p.1, .lst p.2) := rfl
theorem c_sSetO (i : Nat) (f : Sls → Option (Sls × Sl)) : sSetO i f (s :: e) = (f (s :: e)).bind fun p => some (p.1.set i p.2, .nx) := rfl
theorem c_fAppend (i : Nat) (f : FE) : fAppend i f (s :: e) = match (s :: e)[i]? with
  | some (.lst _) => (f (s :: e)).bind fun p => match p.1[i]? with
    | some (.lst ds) => if ds.length < sizeLine then some (p.1.set i (.lst (ds ++ [p.2])), .non) else none
    | _ => none
  | _ => none := rfl
theorem c_sSetIx (i : Nat) (f g : FE) : sSetIx i f g (s :: e) = (f (s :: e)).bind fun p => match p.1[i]? with
  | some (.lst _) => (g p.1).bind fun q => match q.1[i]?, q.2 with
    | some (.lst ds), .int k => (ixN ds.length k).bind fun j => some (q.1.set i (.lst (ds.set j p.2)), .nx)
    | _, _ => none
  | _ => none := rfl
theorem c_sDPutN (i : Nat) (f g : FE) : sDPutN i f g (s :: e) = (f (s :: e)).bind fun p => match p.1[i]? with
  | some (.dic _) => (g p.1).bind fun q => match q.1[i]? with
    | some (.dic es) => q.2.key.bind fun k => if es.length < sizeLine then some (q.1.set i (.dic (putG es k p.2)), .nx) else none
    | _ => none
  | _ => none := rfl
theorem c_fCallS (m : FC) (k : FA) : fCallS m k (s :: e) = (k (s :: e)).bind fun p => if (owIx p.2).Nodup then (argSs p.1 p.2).bind fun es => (m es).bind fun q => some (putBack p.1 p.2 q.1, q.2) else none := rfl
theorem c_fCall (m : FC) (k : FA) : fCall m k (s :: e) = (fCallS m k (s :: e)).bind fun p => p.2.see.bind fun d => some (p.1, d) := rfl
theorem c_oCall (m : FC) (k : FA) : oCall m k (s :: e) = (fCallS m k (s :: e)).bind fun p => if p.2.own = true then some p else none := rfl
theorem c_fCall1 (m : FC) (k : Sls → Option (Sls × Sl)) : fCall1 m k (s :: e) = (k (s :: e)).bind fun p => if p.2.own = true then (m [p.2]).bind fun q => match q.2 with
  | .im d => some (p.1, d)
  | _ => none
  else none := rfl
theorem c_aNil : aNil (s :: e) = some (s :: e, []) := rfl
theorem c_aIm (f : FE) (g : FA) : aIm f g (s :: e) = (f (s :: e)).bind fun p => (g p.1).bind fun q => some (q.1, .im p.2 :: q.2) := rfl
theorem c_aOw (i : Nat) (g : FA) : aOw i g (s :: e) = if ((s :: e)[i]?.getD .un).own = true then (g (s :: e)).bind fun q => some (q.1, .ow i :: q.2) else none := rfl
theorem c_callF (NL n np : Nat) (f : FS) : callF NL n np f (s :: e) = if (s :: e).length = n ∧ np ≤ n then (f (startS NL n np (s :: e))).bind fun p => match p.2 with
  | .rt d => if n ≤ p.1.length then some (backS np (s :: e) p.1, .im d) else none
  | .ro t => if n ≤ p.1.length then some (backS np (s :: e) p.1, t) else none
  | .nx => if n ≤ p.1.length then some (backS np (s :: e) p.1, .im .non) else none
  | _ => none
  else none := rfl
theorem c_startS (NL n np : Nat) : startS NL n np (s :: e) = ((s :: e).take np ++ ((s :: e).drop np).map demote) ++ List.replicate (NL - n) .un := rfl
theorem c_backS (np : Nat) (t : Sl) (e1 : Sls) : backS np (s :: e) (t :: e1) = (t :: e1).take np ++ ((s :: e).drop np).map demote := rfl
end
theorem see_im (d : D) : Sl.see (.im d) = some d := rfl
theorem see_lst (d : List D) : Sl.see (.lst d) = some (.lst d) := rfl
theorem see_dic (d : List (Key × D)) : Sl.see (.dic d) = some (.dic d) := rfl
theorem see_un : Sl.see .un = none := rfl
theorem own_im (d : D) : Sl.own (.im d) = false := rfl
theorem own_lst (d : List D) : Sl.own (.lst d) = true := rfl
theorem own_dic (d : List (Key × D)) : Sl.own (.dic d) = true := rfl
theorem own_un : Sl.own .un = false := rfl
theorem dem_im (d : D) : demote (.im d) = .im d := rfl
theorem dem_un : demote .un = .un := rfl
theorem dem_lst (d : List D) : demote (.lst d) = .un := rfl
theorem dem_dic (d : List (Key × D)) : demote (.dic d) = .un := rfl
theorem pb_nil (e : Sls) : putBack e [] [] = e := rfl
theorem pb_im (e : Sls) (d : D) (as : List Arg) (s : Sl) (ss : Sls) : putBack e (.im d :: as) (s :: ss) = putBack e as ss := rfl
theorem pb_ow (e : Sls) (i : Nat) (as : List Arg) (s : Sl) (ss : Sls) : putBack e (.ow i :: as) (s :: ss) = (putBack e as ss).set i s := rfl
theorem ws_nil (e : Sls) : wipeS e [] = e := rfl
theorem ws_cons (e : Sls) (v : Nat) (vs : List Nat) : wipeS e (v :: vs) = (wipeS e vs).set v .un := rfl
theorem rs_nil (o e : Sls) : restS o e [] = e := rfl
theorem rs_cons (o e : Sls) (v : Nat) (vs : List Nat) : restS o e (v :: vs) = (restS o e vs).set v (o[v]?.getD .un) := rfl

/-! ### loops -/
def lcStep (vs : List Nat) (b : FG) (c : FT) (f : FE) (d : D) (e : Sls) (acc : List D) : Option (Sls × List D) :=
  (b e d).bind fun e1 => (c e1).bind fun p => if p.2 = true then (f p.1).bind fun q => if acc.length < sizeLine then some (wipeS q.1 vs, acc ++ [q.2]) else none else some (wipeS p.1 vs, acc)
theorem lc_step (vs : List Nat) (b : FG) (c : FT) (f : FE) (d : D) (ds : List D) (e : Sls) (acc : List D) : lcLoop vs b c f (d :: ds) e acc = (lcStep vs b c f d e acc).bind fun q => lcLoop vs b c f ds q.1 q.2 := by
  rw [lcLoop]
  unfold lcStep
  cases b e d with
  | none => rfl
  | some e1 =>
    simp only [Option.bind_some]
    cases c e1 with
    | none => rfl
    | some p =>
      simp only [Option.bind_some]
      by_cases h : p.2 = true
      · simp only [h, if_true]
        cases f p.1 with
        | none => rfl
        | some q =>
          simp only [Option.bind_some]
          by_cases h2 : acc.length < sizeLine
          · simp only [h2, if_true, Option.bind_some]
          · simp only [h2, if_false]; rfl
      · simp only [h]; rfl
theorem w_lc {vs : List Nat} {b : FG} {c : FT} {f : FE} (Inv : List D → Sls → List D → Prop) {ds : List D} {e : Sls} {acc : List D} {Q : Sls → List D → Prop} (h0 : Inv ds e acc)
    (hs : ∀ d ds e acc, Inv (d :: ds) e acc → W (lcStep vs b c f d e acc) fun e' acc' => Inv ds e' acc') (hq : ∀ e acc, Inv [] e acc → Q e acc) : W (lcLoop vs b c f ds e acc) Q := by
  induction ds generalizing e acc with
  | nil => exact ⟨e, acc, rfl, hq _ _ h0⟩
  | cons d ds ih =>
    rw [lc_step, W_bind]
    exact W_mono (hs _ _ _ _ h0) fun e' acc' h => ih h
def forStep (b : FG) (body : FS) (d : D) (e : Sls) : Option (Sls × Fl) := (b e d).bind body
theorem w_for {b : FG} {body : FS} (Inv : List D → Sls → Prop) {ds : List D} {e : Sls} {Q : Sls → Fl → Prop} (h0 : Inv ds e)
    (hs : ∀ d ds e, Inv (d :: ds) e → W (forStep b body d e) fun e' fl => match fl with | .nx => Inv ds e' | .ct => Inv ds e' | .bk => Q e' .nx | .rt d => Q e' (.rt d) | .ro t => Q e' (.ro t)) (hq : ∀ e, Inv [] e → Q e .nx) : W (forL b body ds e) Q := by
  induction ds generalizing e with
  | nil => exact ⟨e, .nx, rfl, hq _ h0⟩
  | cons d ds ih =>
    obtain ⟨e', fl, h1, h2⟩ := hs _ _ _ h0
    obtain ⟨e1, h3, h4⟩ := bnd h1
    rw [forL, h3, Option.bind_some, h4, Option.bind_some]
    cases fl with
    | nx => exact ih h2
    | ct => exact ih h2
    | bk => exact ⟨_, _, rfl, h2⟩
    | rt d => exact ⟨_, _, rfl, h2⟩
    | ro d => exact ⟨_, _, rfl, h2⟩
theorem c_lcStep (vs : List Nat) (b : FG) (c : FT) (f : FE) (d : D) (s : Sl) (e : Sls) (acc : List D) : lcStep vs b c f d (s :: e) acc =
  (b (s :: e) d).bind fun e1 => (c e1).bind fun p => if p.2 = true then (f p.1).bind fun q => if acc.length < sizeLine then some (wipeS q.1 vs, acc ++ [q.2]) else none else some (wipeS p.1 vs, acc) := rfl
theorem c_forStep (b : FG) (body : FS) (d : D) (s : Sl) (e : Sls) : forStep b body d (s :: e) = (b (s :: e) d).bind body := rfl
theorem op_def (x : Option (Sls × D)) : x = x := rfl
end M

namespace M
open PySem PySem.Spec PyProof.Rows L2
/-- the seed: three whole numbers -/
structure Sd where
  a : Int
  b : Int
  c : Int
def sdS (q : Sd) : Sl := .lst [.int q.a, .int q.b, .int q.c]
theorem own_sd (q : Sd) : Sl.own (sdS q) = true := rfl
def Sd.ok (q : Sd) (n : Nat) : Prop := 0 ≤ q.b ∧ q.b < 100000000000000000000000000000000000000000000000151 * 100 ∧ 0 ≤ q.c ∧ q.c + n ≤ 2 ^ 80
theorem Sd.ok.le {q : Sd} {n m : Nat} (h : q.ok n) (hm : m ≤ n) : q.ok m := by
  obtain ⟨a, b, c, d⟩ := h
  exact ⟨a, b, c, by omega⟩
theorem log2_le {i : Int} {k : Nat} (h0 : 0 ≤ i) (h : i < 2 ^ k) : i.natAbs.log2 < k ∨ i = 0 := by
  by_cases hz : i = 0
  · exact .inr hz
  · refine .inl ((Nat.log2_lt (by omega)).mpr ?_)
    have : (i.natAbs : Int) = i := Int.natAbs_of_nonneg h0
    have h2 : ((2 ^ k : Nat) : Int) = (2 : Int) ^ k := by simp
    omega
theorem bitsOk_of {i j : Int} {k m : Nat} (h0 : 0 ≤ i) (h : i < 2 ^ k) (g0 : 0 ≤ j) (g : j < 2 ^ m) (hk : k + m < 100000000) : bitsOk i j = true := by
  unfold bitsOk
  have h1 : i.natAbs.log2 ≤ k := by
    rcases log2_le h0 h with h | h
    · omega
    · subst h; simp
  have h2 : j.natAbs.log2 ≤ m := by
    rcases log2_le g0 g with h | h
    · omega
    · subst h; simp
  exact decide_eq_true (by omega)
theorem w_if {α : Type} {c : Prop} [Decidable c] {a b : Option (Sls × α)} {Q : Sls → α → Prop} (h1 : c → W a Q) (h2 : ¬c → W b Q) : W (if c then a else b) Q := by
  rw [W_ite]; exact ⟨h1, h2⟩
section
variable (i j : Int) (a b : Str) (x y z w : D) (xs ys : List D) (p q : Bool)
theorem d_addI : addD (.int i) (.int j) = some (.int (i + j)) := rfl
theorem d_addS : addD (.str a) (.str b) = if a.length + b.length ≤ sizeLine then some (.str (a ++ b)) else none := rfl
theorem d_addL : addD (.lst xs) (.lst ys) = if xs.length + ys.length ≤ sizeLine then some (.lst (xs ++ ys)) else none := rfl
theorem d_addT : addD (.tup xs) (.tup ys) = if xs.length + ys.length ≤ sizeLine then some (.tup (xs ++ ys)) else none := rfl
theorem d_sub : subD (.int i) (.int j) = some (.int (i - j)) := rfl
theorem d_mul : mulD (.int i) (.int j) = if bitsOk i j = true then some (.int (i * j)) else none := rfl
theorem d_fdiv : fdivD (.int i) (.int j) = if 0 < j ∧ j.natAbs.log2 < 9000 then some (.int (i / j)) else none := rfl
theorem d_mod : modD (.int i) (.int j) = if 0 < j then some (.int (i % j)) else none := rfl
theorem d_pow : powD (.int i) (.int j) = if 0 ≤ j ∧ j ≤ 1000000 ∧ i.natAbs < 2 ^ 64 then some (.int (i ^ j.toNat)) else none := rfl
theorem d_neg : negD (.int i) = some (.int (-i)) := rfl
theorem d_ltI : ltD (.int i) (.int j) = some (.bl (decide (i < j))) := rfl
theorem d_ltS : ltD (.str a) (.str b) = some (.bl (decide (a.cps.toList < b.cps.toList))) := rfl
theorem d_gtI : gtD (.int i) (.int j) = some (.bl (decide (j < i))) := rfl
theorem d_gtS : gtD (.str a) (.str b) = some (.bl (decide (b.cps.toList < a.cps.toList))) := rfl
theorem d_leI : leD (.int i) (.int j) = some (.bl (decide (i ≤ j))) := rfl
theorem d_geI : geD (.int i) (.int j) = some (.bl (decide (j ≤ i))) := rfl
theorem d_eqS : eqD (.str a) (.str b) = some (.bl (decide (a = b))) := rfl
theorem d_eqI : eqD (.int i) (.int j) = some (.bl (decide (i = j))) := rfl
theorem d_eqT : eqD (.tup xs) (.tup []) = some (.bl xs.isEmpty) := rfl
theorem d_neS : neD (.str a) (.str b) = some (.bl (!decide (a = b))) := rfl
theorem d_neI : neD (.int i) (.int j) = some (.bl (!decide (i = j))) := rfl
theorem ix_at {xs : List D} {i : Int} {j : Nat} {d : D} (h : ixN xs.length i = some j) (hj : xs[j]? = some d := by rfl) : ixD (.lst xs) (.int i) = some d := by
  simp only [ixD, atI, h, Option.bind_some, hj]
theorem ix_atT {xs : List D} {i : Int} {j : Nat} {d : D} (h : ixN xs.length i = some j) (hj : xs[j]? = some d := by rfl) : ixD (.tup xs) (.int i) = some d := by
  simp only [ixD, atI, h, Option.bind_some, hj]
theorem d_ixL0 : ixD (.lst (x :: xs)) (.int 0) = some x := ix_at (j := 0) (by simp only [ixN, List.length_cons, List.length_nil]; first | (rw [if_pos (by omega), if_pos (by omega)]; rfl) | rfl)
theorem d_ixL1 : ixD (.lst (x :: y :: xs)) (.int 1) = some y := ix_at (j := 1) (by simp only [ixN, List.length_cons, List.length_nil]; first | (rw [if_pos (by omega), if_pos (by omega)]; rfl) | rfl)
theorem d_ixL2 : ixD (.lst (x :: y :: z :: xs)) (.int 2) = some z := ix_at (j := 2) (by simp only [ixN, List.length_cons, List.length_nil]; first | (rw [if_pos (by omega), if_pos (by omega)]; rfl) | rfl)
theorem d_ixL3 : ixD (.lst (x :: y :: z :: w :: xs)) (.int 3) = some w := ix_at (j := 3) (by simp only [ixN, List.length_cons, List.length_nil]; first | (rw [if_pos (by omega), if_pos (by omega)]; rfl) | rfl)
theorem d_ixT0 : ixD (.tup (x :: xs)) (.int 0) = some x := ix_atT (j := 0) (by simp only [ixN, List.length_cons, List.length_nil]; first | (rw [if_pos (by omega), if_pos (by omega)]; rfl) | rfl)
theorem d_ixT1 : ixD (.tup (x :: y :: xs)) (.int 1) = some y := ix_atT (j := 1) (by simp only [ixN, List.length_cons, List.length_nil]; first | (rw [if_pos (by omega), if_pos (by omega)]; rfl) | rfl)
theorem d_ixT2 : ixD (.tup (x :: y :: z :: xs)) (.int 2) = some z := ix_atT (j := 2) (by simp only [ixN, List.length_cons, List.length_nil]; first | (rw [if_pos (by omega), if_pos (by omega)]; rfl) | rfl)
theorem d_ixT3 : ixD (.tup (x :: y :: z :: w :: xs)) (.int 3) = some w := ix_atT (j := 3) (by simp only [ixN, List.length_cons, List.length_nil]; first | (rw [if_pos (by omega), if_pos (by omega)]; rfl) | rfl)
theorem d_ixTm1 : ixD (.tup [x]) (.int (-1)) = some x := ix_atT (j := 0) (by simp only [ixN, List.length_cons, List.length_nil]; first | (rw [if_pos (by omega), if_pos (by omega)]; rfl) | rfl)
theorem d_ixTm2 : ixD (.tup [x, y]) (.int (-1)) = some y := ix_atT (j := 1) (by simp only [ixN, List.length_cons, List.length_nil]; first | (rw [if_pos (by omega), if_pos (by omega)]; rfl) | rfl)
theorem d_ixTm3 : ixD (.tup [x, y, z]) (.int (-1)) = some z := ix_atT (j := 2) (by simp only [ixN, List.length_cons, List.length_nil]; first | (rw [if_pos (by omega), if_pos (by omega)]; rfl) | rfl)
theorem d_lenS : lenD [.str a] = if a.length ≤ sizeLine then some (.int a.length) else none := rfl
theorem d_lenL : lenD [.lst xs] = some (.int xs.length) := rfl
theorem d_lenT : lenD [.tup xs] = some (.int xs.length) := rfl
theorem d_intI : intOfD [.int i] = some (.int i) := rfl
theorem d_intB : intOfD [.bl p] = some (.int (if p then 1 else 0)) := rfl
theorem d_max : maxD [.int i, .int j] = some (.int (if j > i then j else i)) := rfl
theorem d_min : minD [.int i, .int j] = some (.int (if j < i then j else i)) := rfl
theorem d_tupL : tupD [.lst xs] = some (.tup xs) := rfl
theorem d_tupT : tupD [.tup xs] = some (.tup xs) := rfl
theorem d_lstL : lstD [.lst xs] = some (.lst xs) := rfl
theorem d_lstT : lstD [.tup xs] = some (.lst xs) := rfl
theorem ixN30 : ixN 3 0 = some 0 := rfl
theorem ixN31 : ixN 3 1 = some 1 := rfl
theorem ixN32 : ixN 3 2 = some 2 := rfl
theorem d_isaS : isaD [.str a, .ty "str"] = some (.bl true) := rfl
theorem ix_lst {xs : List D} {r : Int} (h0 : 0 ≤ r) (h : r < xs.length) : ∃ d ∈ xs, ixD (.lst xs) (.int r) = some d := by
  have hr : r.toNat < xs.length := by omega
  refine ⟨xs[r.toNat], List.getElem_mem hr, ?_⟩
  simp only [ixD, atI, ixN]
  have h1 : ¬ r < 0 := by omega
  rw [if_pos h0, if_pos h]
  simp [hr]
theorem ix_str {a : Str} {r : Int} (h0 : 0 ≤ r) (h : r < a.length) (hs : a.length ≤ sizeLine) : ∃ c ∈ a.cps.toList, ixD (.str a) (.int r) = some (.str ⟨#[c]⟩) := by
  have hr : r.toNat < a.cps.toList.length := by rw [Array.length_toList]; show r.toNat < a.length; omega
  refine ⟨a.cps.toList[r.toNat], List.getElem_mem hr, ?_⟩
  simp only [ixD, hs, if_true, atI, ixN]
  have h1 : ¬ r < 0 := by omega
  rw [if_pos h0, if_pos (by rw [Array.length_toList]; exact h)]
  simp [hr]
end
/-! ### names -/
def smallWs : List Str := ["a", "b", "x", "y", "xs", "f", "go", "abcdefgh", "cas", "lets", "nums", "zz"]
def greatWs : List Str := ["True", "False", "Nil", "Cons", "A", "Bool", "Abcdefgh", "Data", "Let", "Z"]
def azS : Str := "abcdefghijklmnopqrstuvwxyz"
def firstS : Str := "abefghjkmpqrstuvwxy"
def chS (c : Nat) : Str := ⟨#[c]⟩
def Lows (cs : List Nat) : Prop := ∀ c ∈ cs, c ∈ azS.cps.toList
def SmallN (s : Str) : Prop := s ∈ smallWs ∨ ∃ c cs, s = ⟨(c :: cs).toArray⟩ ∧ c ∈ firstS.cps.toList ∧ Lows cs ∧ cs.length ≤ 7
def GreatN (s : Str) : Prop := s ∈ greatWs ∨ ∃ c cs, s = ⟨(c :: cs).toArray⟩ ∧ 65 ≤ c ∧ c ≤ 90 ∧ Lows cs ∧ cs.length ≤ 7
theorem azS_cps : azS.cps.toList = [97, 98, 99, 100, 101, 102, 103, 104, 105, 106, 107, 108, 109, 110, 111, 112, 113, 114, 115, 116, 117, 118, 119, 120, 121, 122] := by decide +kernel
theorem firstS_cps : firstS.cps.toList = [97, 98, 101, 102, 103, 104, 106, 107, 109, 112, 113, 114, 115, 116, 117, 118, 119, 120, 121] := by decide +kernel
theorem low_of {c : Nat} (h : c ∈ azS.cps.toList) : 97 ≤ c ∧ c ≤ 122 := by
  rw [azS_cps] at h
  simp only [List.mem_cons, List.not_mem_nil, or_false] at h
  omega
theorem first_of {c : Nat} (h : c ∈ firstS.cps.toList) : 97 ≤ c ∧ c ≤ 122 := by
  rw [firstS_cps] at h
  simp only [List.mem_cons, List.not_mem_nil, or_false] at h
  omega
/-- letters only, one to eight -/
def Nm (s : Str) : Prop := (∀ c ∈ s.cps.toList, 65 ≤ c ∧ c ≤ 122 ∧ (c ≤ 90 ∨ 97 ≤ c)) ∧ 1 ≤ s.length ∧ s.length ≤ 8
instance (s : Str) : Decidable (Nm s) := inferInstanceAs (Decidable (_ ∧ _))
theorem nm_cons {c : Nat} {cs : List Nat} (h : 65 ≤ c ∧ c ≤ 122 ∧ (c ≤ 90 ∨ 97 ≤ c)) (hl : Lows cs) (hn : cs.length ≤ 7) : Nm ⟨(c :: cs).toArray⟩ := by
  refine ⟨fun x hx => ?_, ?_, ?_⟩
  · simp only [List.mem_cons] at hx
    rcases hx with rfl | hx
    · exact h
    · have := low_of (hl x hx); omega
  · simp [Str.length]
  · simp [Str.length]; omega
theorem SmallN.nm {s : Str} (h : SmallN s) : Nm s := by
  rcases h with h | ⟨c, cs, rfl, h1, h2, h3⟩
  · have : ∀ s ∈ smallWs, Nm s := by decide +kernel
    exact this s h
  · have := first_of h1
    exact nm_cons (by omega) h2 h3
theorem GreatN.nm {s : Str} (h : GreatN s) : Nm s := by
  rcases h with h | ⟨c, cs, rfl, h1, h2, h3, h4⟩
  · have : ∀ s ∈ greatWs, Nm s := by decide +kernel
    exact this s h
  · exact nm_cons (by omega) h3 h4
theorem strsOf_map : ∀ ss : List Str, strsOf (ss.map D.str) = some ss
  | [] => rfl
  | s :: ss => by rw [List.map_cons, strsOf, strsOf_map ss]; rfl
theorem join_nil : Str.join (Str.ofString "") [] = Str.empty := rfl
theorem join_chs : ∀ cs : List Nat, Str.join (Str.ofString "") (cs.map chS) = ⟨cs.toArray⟩
  | [] => rfl
  | [c] => rfl
  | c :: d :: cs => by
    have ih := join_chs (d :: cs)
    rw [List.map_cons] at ih
    rw [List.map_cons, List.map_cons, Str.join, ih]
    · apply Str.ext'
      simp only [Str.cps_append, chS]
      have : (Str.ofString "").cps = #[] := by decide +kernel
      rw [this]
      simp
    · simp
theorem len_chs (cs : List Nat) : ((cs.map chS).map (·.length)).sum = cs.length := by
  induction cs with
  | nil => rfl
  | cons c cs ih => simp only [List.map_cons, List.sum_cons, ih, List.length_cons]; simp [chS, Str.length]; omega
theorem nil_len : (Str.ofString "").length = 0 := by decide +kernel
theorem d_join (a : Str) (ss : List Str) : joinD (.str a) (.lst (ss.map D.str)) = if (ss.map (·.length)).sum + ss.length * a.length ≤ 16777216 then some (.str (Str.join a ss)) else none := by
  simp only [joinD, strsOf_map, Option.bind_some]
theorem rngD_length (lo : Int) (n : Nat) : (rngD lo n).length = n := by unfold rngD; simp
theorem small_len {c : Nat} : (⟨#[c]⟩ : Str).length = 1 := rfl
theorem azS_len : azS.length = 26 := by decide +kernel
theorem firstS_len : firstS.length = 19 := by decide +kernel
theorem ix_az {r : Int} (h0 : 0 ≤ r) (h : r < 26) : ∃ c ∈ azS.cps.toList, ixD (.str azS) (.int r) = some (.str ⟨#[c]⟩) := ix_str h0 (by rw [azS_len]; exact h) (by decide +kernel)
theorem ix_first {r : Int} (h0 : 0 ≤ r) (h : r < 19) : ∃ c ∈ firstS.cps.toList, ixD (.str firstS) (.int r) = some (.str ⟨#[c]⟩) := ix_str h0 (by rw [firstS_len]; exact h) (by decide +kernel)
theorem up_low {c : Nat} (h : c ∈ azS.cps.toList) : upperD (.str ⟨#[c]⟩) = some (.str ⟨#[c - 32]⟩) := by
  have := low_of h
  have g : (∀ x ∈ (⟨#[c]⟩ : Str).cps.toList, x < 128) ∧ (⟨#[c]⟩ : Str).length ≤ 5592405 := by
    refine ⟨fun x hx => ?_, by show 1 ≤ 5592405; decide⟩
    have : x = c := List.mem_singleton.mp hx
    omega
  simp only [upperD]
  rw [if_pos g, PySem.W.KOpn.upper_one (by omega), if_pos this]
theorem ite_or {α : Type} {c : Prop} [Decidable c] (e : α) (p : Bool) : (if c then some (e, true) else some (e, p)) = some (e, decide c || p) := by
  by_cases h : c <;> simp [h]
theorem ite_and {α : Type} {c : Prop} [Decidable c] (e : α) (p : Bool) : (if c then some (e, p) else some (e, false)) = some (e, decide c && p) := by
  by_cases h : c <;> simp [h]
theorem ite_orB {α : Type} {c : Prop} [Decidable c] (e : α) (p : Bool) : (if c then some (e, D.bl true) else some (e, D.bl p)) = some (e, D.bl (decide c || p)) := by
  by_cases h : c <;> simp [h]
theorem ite_andB {α : Type} {c : Prop} [Decidable c] (e : α) (p : Bool) : (if c then some (e, D.bl p) else some (e, D.bl false)) = some (e, D.bl (decide c && p)) := by
  by_cases h : c <;> simp [h]
theorem lit_eq (a b : String) : (Str.ofString a = Str.ofString b) = (a = b) := by
  apply propext
  constructor
  · intro h
    rw [Str.ofString_eq_toList, Str.ofString_eq_toList] at h
    injection h with h
    have h := congrArg Array.toList h
    simp only [List.toList_toArray] at h
    have inj : ∀ (x y : List Char), x.map Char.toNat = y.map Char.toNat → x = y := by
      intro x
      induction x with
      | nil => intro y h; cases y with
        | nil => rfl
        | cons _ _ => cases h
      | cons c x ih => intro y h; cases y with
        | nil => cases h
        | cons d y =>
          simp only [List.map_cons, List.cons.injEq] at h
          rw [ih y h.2, Char.toNat_inj.mp h.1]
    exact String.toList_inj.mp (inj _ _ h)
  · intro h; rw [h]
end M

namespace M
open PySem PySem.Spec PyProof.Rows L2
/-! ### kinds -/
def DataN (s : Str) : Prop := GreatN s ∨ s = "List" ∨ s = "Pair"
theorem DataN.nm {s : Str} (h : DataN s) : Nm s := by
  rcases h with h | rfl | rfl
  · exact h.nm
  · decide +kernel
  · decide +kernel
mutual
inductive Kd : Nat → Nat → D → Prop
  | num {n L : Nat} : 1 ≤ L → Kd (n + 1) L (.tup [.str "num"])
  | var {n L : Nat} {s : Str} : SmallN s → 1 ≤ L → Kd (n + 1) L (.tup [.str "var", .str s])
  | fn {n L M N : Nat} {a b : D} : Kd n L a → Kd n M b → L + M + 1 ≤ N → Kd (n + 1) N (.tup [.str "fun", a, b])
  | data {n L N : Nat} {s : Str} {ks : List D} : DataN s → Kds n L ks → L + 1 ≤ N → Kd (n + 1) N (.tup [.str "data", .str s, .tup ks])
inductive Kds : Nat → Nat → List D → Prop
  | nil {n L : Nat} : Kds n L []
  | cons {n L M N : Nat} {d : D} {ds : List D} : Kd n L d → Kds n M ds → L + M ≤ N → Kds n N (d :: ds)
end
mutual
theorem Kd.mono {n m : Nat} (h : n ≤ m) : ∀ {L M : Nat} {d : D}, Kd n L d → L ≤ M → Kd m M d
  | L, M, _, .num h1, h2 => by
    obtain ⟨k, rfl⟩ : ∃ k, m = k + 1 := ⟨m - 1, by omega⟩
    exact .num (Nat.le_trans h1 h2)
  | L, M, _, .var h0 h1, h2 => by
    obtain ⟨k, rfl⟩ : ∃ k, m = k + 1 := ⟨m - 1, by omega⟩
    exact .var h0 (Nat.le_trans h1 h2)
  | L, M, _, .fn a b h1, h2 => by
    obtain ⟨k, rfl⟩ : ∃ k, m = k + 1 := ⟨m - 1, by omega⟩
    exact .fn (Kd.mono (by omega) a (Nat.le_refl _)) (Kd.mono (by omega) b (Nat.le_refl _)) (Nat.le_trans h1 h2)
  | L, M, _, .data a b h1, h2 => by
    obtain ⟨k, rfl⟩ : ∃ k, m = k + 1 := ⟨m - 1, by omega⟩
    exact .data a (Kds.mono (by omega) b (Nat.le_refl _)) (Nat.le_trans h1 h2)
theorem Kds.mono {n m : Nat} (h : n ≤ m) : ∀ {L M : Nat} {d : List D}, Kds n L d → L ≤ M → Kds m M d
  | L, M, _, .nil, h2 => .nil
  | L, M, _, .cons a b h1, h2 => .cons (Kd.mono h a (Nat.le_refl _)) (Kds.mono h b (Nat.le_refl _)) (Nat.le_trans h1 h2)
end
theorem Kds.snoc {n : Nat} {d : D} {M : Nat} (hd : Kd n M d) : ∀ {ds : List D} {L : Nat}, Kds n L ds → Kds n (L + M) (ds ++ [d])
  | _, L, .nil => .cons hd .nil (by omega : M + 0 ≤ L + M)
  | _, L, .cons (L := L1) (M := M1) a b h => .cons a (Kds.snoc hd b) (by omega)
mutual
theorem Kd.plain {n : Nat} : ∀ {L : Nat} {d : D}, Kd n L d → d.plain = true
  | _, _, .num _ => rfl
  | _, _, .var _ _ => rfl
  | _, _, .fn a b _ => by simp only [D.plain, D.plains, a.plain, b.plain, Bool.and_self]
  | _, _, .data _ b _ => by simp only [D.plain, D.plains, b.plain, Bool.and_self]
theorem Kds.plain {n : Nat} : ∀ {L : Nat} {d : List D}, Kds n L d → D.plains d = true
  | _, _, .nil => rfl
  | _, _, .cons a b _ => by simp only [D.plains, a.plain, b.plain, Bool.and_self]
end
theorem ne_nil {xs : List D} (h : D.plains xs = true) : neD (.tup xs) (.tup []) = some (.bl (!xs.isEmpty)) := by
  have e : PyData.eqv (D.tup xs).py (D.tup []).py = xs.isEmpty := by
    cases xs with
    | nil => simp [D.py, D.pys, PyData.eqv, PyData.eqvAll]
    | cons x xs => simp [D.py, D.pys, PyData.eqv, PyData.eqvAll]
  have g : (D.tup xs).plain = true ∧ (D.tup []).plain = true ∧ min (D.tup xs).py.depth (D.tup []).py.depth ≤ 200 := by
    refine ⟨h, rfl, ?_⟩
    have : (D.tup []).py.depth = 1 := by simp [D.py, D.pys, PyData.depth, PyData.depthAll]
    omega
  simp only [neD, neQ, eqG]
  rw [if_pos g, e]
  rfl

/-! ### words put side by side -/
def opW (w : Str) : Bool := decide (w = "(") || decide (w = "\\")
def fl : Bool → List Str → Str
  | _, [] => Str.empty
  | op, w :: ws => (if op || decide (w = ")") then "" else " ") ++ w ++ fl (opW w) ws
def Block (ws : List Str) (t : Str) : Prop := ∀ op rest, fl op (ws ++ rest) = (if op then "" else " ") ++ t ++ fl false rest
theorem Block.one {w : Str} (h1 : opW w = false) (h2 : w ≠ ")") : Block [w] w := by
  intro op rest
  simp only [List.cons_append, List.nil_append, fl, h1, h2, decide_false, Bool.or_false]
theorem nilS : (Str.ofString "") = Str.empty := by decide +kernel
theorem Block.app {a b : List Str} {s t : Str} (h1 : Block a s) (h2 : Block b t) : Block (a ++ b) (s ++ " " ++ t) := by
  intro op rest
  rw [List.append_assoc, h1, h2]
  simp only [Str.append_assoc]
  rfl
theorem Block.par {a : List Str} {s : Str} (h : Block a s) : Block ([Str.ofString "("] ++ a ++ [Str.ofString ")"]) ("(" ++ s ++ ")") := by
  intro op rest
  have e1 : opW (Str.ofString "(") = true := by decide +kernel
  have e2 : opW (Str.ofString ")") = false := by decide +kernel
  have e3 : ¬ Str.ofString "(" = Str.ofString ")" := by decide +kernel
  simp only [List.append_assoc, List.cons_append, List.nil_append, fl, e1, e3, decide_false, Bool.or_false]
  rw [h]
  simp only [fl, e2, decide_true, Bool.or_true, if_true, nilS, Str.empty_append, Str.append_assoc]
theorem Block.join {a : List Str} {s : Str} (h : Block a s) : ∀ {ps : List (List Str × Str)}, (∀ p ∈ ps, Block p.1 p.2) → Block (a ++ (ps.map (·.1)).flatten) (Str.join " " (s :: ps.map (·.2)))
  | [], _ => by simpa [Str.join] using h
  | p :: ps, hp => by
    have ih := Block.join (h.app (hp p (List.mem_cons_self ..))) (ps := ps) fun q hq => hp q (List.mem_cons_of_mem _ hq)
    rw [StrLaws.join_shift, List.append_assoc] at ih
    exact ih
theorem Block.flat {a : List Str} {s : Str} (h : Block a s) : fl true a = s := by
  have := h true []
  rw [List.append_nil] at this
  rw [this]
  simp only [fl, if_true, nilS, Str.empty_append, Str.append_empty]
theorem nm_free {w : Str} (h : Nm w) {c : Nat} {x : Str} (hx : x.cps.toList = [c]) (hc : ¬(65 ≤ c ∧ c ≤ 122 ∧ (c ≤ 90 ∨ 97 ≤ c))) : w ≠ x := by
  rintro rfl
  refine hc (h.1 c ?_)
  rw [hx]; exact List.mem_cons_self ..
theorem nm_block {w : Str} (h : Nm w) : Block [w] w := by
  have e1 : w ≠ "(" := nm_free h (c := 40) (by decide +kernel) (by decide)
  have e2 : w ≠ "\\" := nm_free h (c := 92) (by decide +kernel) (by decide)
  have e3 : w ≠ ")" := nm_free h (c := 41) (by decide +kernel) (by decide)
  refine Block.one ?_ e3
  simp only [opW, e1, e2, decide_false, Bool.or_self]
theorem Block.arrow {a b : List Str} {s t : Str} (h1 : Block a s) (h2 : Block b t) : Block (a ++ [Str.ofString "->"] ++ b) (s ++ " -> " ++ t) := by
  have := (h1.app (Block.one (w := "->") (by decide +kernel) (by decide +kernel))).app h2
  have e : (Str.ofString " -> ") = Str.ofString " " ++ Str.ofString "->" ++ Str.ofString " " := by decide +kernel
  rw [e]
  simpa only [Str.append_assoc] using this
/-- one sign or the other -/
theorem in_two (a b c : Str) : inD (.str a) (.lst [.str b, .str c]) = some (.bl (decide (a = b) || decide (a = c))) := by
  simp only [inD, inQ, D.fv, D.fvs, Option.bind_some, Option.map_some]
  have : ∀ x y : Str, eqV (V.str x) (V.str y) = decide (x = y) := fun x y => by
    show (x == y) = _
    by_cases h : x = y
    · subst h; simp
    · simp [h]
  simp only [inV, List.any_cons, List.any_nil, this, Bool.or_false, eq_comm]
end M

namespace M
open PySem PySem.Spec PyProof.Rows L2
/-! ### a target with a starred last name -/
theorem walks_from {prog : Program} {w : World} {A : Around} {I : Addr} {fp wr : List Addr} {n k : Nat} {P : Nat → Value → Prop} {St : Nat → Heap → Prop} (W : Walks prog w A I fp wr n P St) (hk : k ≤ n) :
    Walks prog w A I fp wr (n - k) (fun i v => P (i + k) v) (fun i h => St (i + k) h) where
  sub := W.sub
  frame := fun i h h' st hk => W.frame (i + k) h h' st hk
  item := fun i s Q E hi st hQ => W.item (i + k) s Q E (by omega) st fun v h' tk hP st' hk => hQ v h' tk hP (by rw [show i + 1 + k = i + k + 1 by omega]; exact st') hk
  done := fun s Q E st hQ => W.done s Q E (by rw [show n - k + k = n by omega] at st; exact st) hQ
  self := fun i s Q E st hQ => W.self (i + k) s Q E st hQ
section
variable {prog : Program} {w : World} {A : Around} {E : Value → Shared → Prop} {s : Shared}
theorem unpackItems_star {t : Addr} {items : Array Value} {k : Nat} {Q : List Value → Shared → Prop} (hh : A.handled = none) (ht : IsTup s.heap t items) (hz : items.size ≤ sizeLine) (hk : k ≤ items.size)
    (hQ : ∀ (h' : Heap) (tk : Nat), s.toks ≤ tk → (∀ b o, s.heap.get? b = some o → h'.get? b = some o) → Q (items.toList.take k ++ [.ref h'.objs.size]) { s with heap := h'.push { cls := .type "list", data := .seq (items.toList.drop k).toArray }, toks := tk }) :
    wpAny (model prog w) A (unpackItems (.ref t) (k + 1) (some k)) Q E s := by
  have hlt : t ≠ s.heap.objs.size := by obtain ⟨o, ho, _⟩ := ht; exact Nat.ne_of_lt (Heap.lt_size ho)
  unfold unpackItems
  refine wpAny_bind ?_
  · unfold notIterableAtAll
    refine wpAny_bind (wpAny_specialOf ht.typeIs slot_tuple_iter.lookup ?_)
    refine wpAny_pure ?_
    simp only [Bool.false_eq_true, if_false]
    refine wpAny_bind (wpAny_holding (iter_tuple ht ?_))
    refine wpAny_bind (wpAny_holding (draw_tuple hlt k 0 _ _ ⟨_, Heap.get?_push_size _ rfl, rfl, rfl⟩ (ht.push _) (by omega) fun h₁ hit₁ hs₁ => ?_))
    rw [List.drop_zero, Nat.zero_add] at *
    have ht₁ : IsTup h₁ t items := (ht.push _).extBut hs₁.extBut hlt
    rw [if_neg (by rw [List.length_take, Array.length_toList]; omega)]
    have hne : s.heap.objs.size ≠ s.heap.objs.size + 1 := by omega
    have W := (walks_from (k := k) (Walks.tuple (prog := prog) (w := w) (A := A.in1) hh s.heap.objs.size t hlt items) hk).toS
    refine wpAny_bind (wpAny_holding (wpAny_collect_iter (T := "tuple_iterator") (.inr (.inr (.inr rfl))) W (fun i s st => ?_) ⟨?_, ht₁⟩ (fun b hb => ?_) (List.mem_cons_self ..) (fun s' acc hm hacc => ?_) (by omega)))
    · obtain ⟨⟨o, ho, hc, _⟩, _⟩ := st
      exact ⟨o, ho, hc⟩
    · rw [Nat.zero_add]; exact hit₁
    · simp only [List.mem_cons, List.not_mem_nil, or_false] at hb
      rcases hb with rfl | rfl
      · obtain ⟨o, ho, _⟩ := hit₁; exact Heap.lt_size ho
      · obtain ⟨o, ho, _⟩ := ht₁; exact Heap.lt_size ho
    · have ea : acc.toList = items.toList.drop k := by
        apply List.ext_getElem?
        intro j
        by_cases hj : j < acc.size
        · have h1 := hacc.2 j acc[j] (by simp [hj])
          rw [List.getElem?_drop, Array.getElem?_toList, Array.getElem?_toList, Nat.add_comm, h1]
          simp [hj]
        · have h2 := hacc.1
          rw [List.getElem?_eq_none (show acc.toList.length ≤ j by rw [Array.length_toList]; omega), List.getElem?_eq_none (show (items.toList.drop k).length ≤ j by rw [List.length_drop, Array.length_toList]; omega)]
      rw [if_neg (by rw [Nat.add_sub_cancel, Nat.sub_self]; exact Nat.not_lt_zero _)]
      refine wpAny_bind (wpAny_newList ?_ ?_)
      · refine wpAny_pure ?_
        have hl : acc.toList.length - (k + 1 - 1 - k) = acc.toList.length := by rw [Nat.add_sub_cancel, Nat.sub_self, Nat.sub_zero]
        rw [hl, List.take_length, List.drop_length, List.append_nil, ea]
        obtain ⟨hp, g, d, tk, os⟩ := s'
        obtain ⟨m1, m2, m3, m4, m5⟩ := hm
        simp only at m1 m2 m3 m4 m5
        subst m2 m3 m4
        refine hQ hp tk m5 fun b o e => ?_
        have hb := Heap.lt_size e
        exact m1 b o (fun z => Nat.ne_of_lt hb (List.mem_singleton.mp z)) (hs₁.extBut b o (Nat.ne_of_lt hb) (Heap.get?_push_of_some _ e))
      · rw [List.length_take]; rw [ea, List.length_drop, Array.length_toList]; omega
theorem assign_star {env : Env} {elts : List Expr} {x1 : Nat} {pos : Pos} {t : Addr} {items : Array Value} {k : Nat} {Q : Unit → Shared → Prop} (hh : A.handled = none) (ht : IsTup s.heap t items) (hz : items.size ≤ sizeLine) (hk : k ≤ items.size)
    (hn : (assignEach elts env).length = k + 1) (hstar : (assignEach elts env).findIdx? (·.1) = some k)
    (h : ∀ (h' : Heap) (tk : Nat), s.toks ≤ tk → (∀ b o, s.heap.get? b = some o → h'.get? b = some o) → wpAny (model prog w) A (assignInOrder ((assignEach elts env).map (·.2)) (items.toList.take k ++ [.ref h'.objs.size])) Q E { s with heap := h'.push { cls := .type "list", data := .seq (items.toList.drop k).toArray }, toks := tk }) :
    wpAny (model prog w) A (assign (.Tuple elts x1 pos) env (.ref t)) Q E s := by
  rw [assign_Tuple]
  refine wpAny_bind (wpAny_standAt ?_)
  unfold unpack
  rw [hn, hstar]
  exact wpAny_bind (wpAny_holding (unpackItems_star hh ht hz hk h))
end
section
variable {X : Cx} {np : Nat}
def gStar (K : PySem.W.Frag) (k : Nat) (t : TGs) : TG := fun v σ H Q => ∃ a xs, v = .ref a ∧ SqT K H a xs ∧ k ≤ xs.length ∧ ∀ l, H l = none → t (xs.take k ++ [.ref l]) σ (upd H l (.lst (xs.drop k))) Q
theorem pg_star {es : List Expr} {x1 : Nat} {pos : Pos} {t : TGs} {k : Nat} (hc : X.calm = true) (h : PGs X es t)
    (hn : (assignEach es X.env).length = k + 1 := by rfl) (hst : (assignEach es X.env).findIdx? (·.1) = some k := by rfl) : PG X (.Tuple es x1 pos) (gStar X.K k t) := by
  refine ⟨fun pins s σ H v u Q I r hw => ?_⟩
  obtain ⟨a, xs, e1, hq, hl, hw⟩ := hw
  subst e1
  cases r
  obtain ⟨its, rv, ht, hz⟩ := I.tuple hq
  have hlen := rv.length
  refine assign_star (I.ok.hd hc) ht (by simp only [List.size_toArray]; omega) (by simp only [List.size_toArray]; omega) hn hst fun h' tk htk hx => ?_
  have I1 : Inv X pins σ H { s with heap := h', toks := tk } := I.kept (t' := tk) hx
  have I2 := I1.lnew (t' := tk) (rv.drop k) (by rw [List.length_drop]; omega)
  refine h.run pins _ σ _ _ _ Q I2 (by simpa only [List.toList_toArray] using (rv.take k).append (.cons (show L2.RelV (.ref h'.objs.size) (.ref h'.objs.size) from rfl) .nil)) (hw _ I1.fresh)
theorem pgs_star {e : Expr} {p : Pos} {t : TG} (h1 : PG X e t)
    (hs : (assignEach [.Starred e p] X.env).map (·.2) = [assign e X.env] := by rfl) : PGs X [.Starred e p] (gCons t gNil) := by
  refine ⟨fun pins s σ H vs us Q I r h => ?_⟩
  obtain ⟨v, vr, e1, h⟩ := h
  subst e1
  cases r with
  | cons r rr =>
    rw [hs]
    exact assignInOrder_cons (thn (h1.run pins s σ H _ _ _ I r h) fun _ s1 ⟨σ1, H1, I1, q1⟩ => pgs_nil.run pins s1 σ1 H1 _ _ Q I1 rr q1)
end
end M

namespace M
open PySem PySem.Spec PyProof.Rows L2
/-! ### a starred last name, two names at once -/
def bStar (k : Nat) (bs : FGs) : FG := fun e d => match d with | .tup ds => if k ≤ ds.length then bs e (ds.take k ++ [.lst (ds.drop k)]) else none | _ => none
section
variable {X : Cx} {np : Nat}
theorem jgs_star {e : Expr} {p : Pos} {ts : List Nat} {g : TG} {b : FG} (h : JG X np e ts g b)
    (hs : (assignEach [.Starred e p] X.env).map (·.2) = [assign e X.env] := by rfl) : JGs X np [.Starred e p] 1 (ts ++ []) (gCons g gNil) (bCons b bNil) := by
  refine ⟨pgs_star h.pg hs, rfl, fun B F e σ H vs ds Q hn I r e' hb q => ?_⟩
  cases r with
  | nil => cases hb
  | cons r1 r2 =>
    obtain ⟨e1, h3, hb⟩ := bnd hb
    refine ⟨_, _, rfl, h.de B F e σ H _ _ _ hn I r1 e1 h3 fun F' σ' H' s I' o => ?_⟩
    refine jgs_nil.de B F' e1 σ' H' _ _ _ hn I' (r2.mono s) e' hb fun F2 σ2 H2 s2 I2 o2 => ?_
    refine q F2 σ2 H2 (s.trans s2) I2 ⟨o2.1.trans o.1, fun i hi => ?_⟩
    rw [o2.2 i fun z => hi (List.mem_append_right _ z), o.2 i fun z => hi (List.mem_append_left _ z)]
theorem rps_app {K : PySem.W.Frag} {F : Hp} : ∀ {xs ys : List V} {ds es : List D}, Rps K F xs ds → Rps K F ys es → Rps K F (xs ++ ys) (ds ++ es)
  | _, _, _, _, .nil, h => h
  | _, _, _, _, .cons r t, h => .cons r (rps_app t h)
theorem jstar {K : PySem.W.Frag} {es : List Expr} {k n : Nat} {ts : List Nat} {gs : TGs} {bs : FGs} {x1} {pos : Pos} (hc : X.calm = true) (h : JGs X np es n ts gs bs) (hn : (assignEach es X.env).length = k + 1 := by rfl) (hst : (assignEach es X.env).findIdx? (·.1) = some k := by rfl) (hK : X.K = K := by rfl) :
    JG X np (.Tuple es x1 pos) ts (gStar K k gs) (bStar k bs) := by
  subst hK
  refine ⟨pg_star hc h.pgs hn hst, fun B F e σ H v d Q hn I r e' hb q => ?_⟩
  cases d with
  | tup ds =>
    simp only [bStar] at hb
    split at hb
    · rename_i hl
      cases r with
      | tup r1 r2 =>
        refine ⟨_, _, rfl, sqt_mono I.sf r1, by rw [r2.length]; exact hl, fun l hp => ?_⟩
        rename_i a0 xs0
        have sm := same_upd (o := HO.lst (List.drop k xs0)) (I.free hp).1
        have r3 := r2.mono sm
        refine h.de B _ e σ _ _ _ _ hn (I.laid hp) (rps_app (r3.take k) (.cons (.lst (.inl (.inl upd_same)) (r3.drop k)) .nil)) e' hb fun F' σ' H' s I' o => q F' σ' H' (sm.trans s) I' o
    · cases hb
  | _ => cases hb
/-- a, b = x, y -/
def sPar (i j : Nat) (f : FEs) : FS := fun e => (f e).bind fun p => match p.2 with
  | [a, b] => some ((p.1.set i (.im a)).set j (.im b), .nx)
  | _ => none
theorem jpar {i j n : Nat} {x y : Str} {a b : Expr} {ta : TA} {f : FEs} {px py pt : Pos} {kt k2 pt2} {pos : Pos} (hc : X.calm = true) (hN : X.N.Nodup) (ha : JEs X np [a, b] n ta f) (hij : i ≠ j := by decide) (hi : X.N[i]? = some x := by rfl) (hj : X.N[j]? = some y := by rfl)
    (hx : X.env.scope.names.lookup x = some .local := by rfl) (hy : X.env.scope.names.lookup y = some .local := by rfl) (n1 : np ≤ i := by decide) (n2 : np ≤ j := by decide)
    (hw : swappedStores [.Tuple [.Name x px, .Name y py] kt pt] (.Tuple [a, b] k2 pt2) X.env = pure (some [x, y]) := by rfl)
    (hs : swapsWithSole [.Tuple [.Name x px, .Name y py] kt pt] (.Tuple [a, b] k2 pt2) pos.line X.env = pure false := by rfl) :
    JS X np (.Assign [.Tuple [.Name x px, .Name y py] kt pt] (.Tuple [a, b] k2 pt2) pos) (tPar i j ta) (sPar i j f) := by
  refine ⟨ps_par hc hN hi hj hij hx hy ha.pa hw hs, fun B F e σ H E hn I e' fl hf q => ?_⟩
  obtain ⟨⟨e1, ds⟩, h1, hf⟩ := bnd hf
  refine ha.de B F e σ H _ hn I e1 ds h1 fun F1 vs H1 s1 I1 r l => ?_
  match ds, r with
  | [d1, d2], .cons r1 (.cons r2 .nil) =>
    cases hf
    exact ⟨_, _, rfl, q F1 _ H1 s1 ((I1.set (by rw [hn]; exact n1) r1).set (by rw [hn]; exact n2) r2)⟩

/-! ### the module's own names -/
def GlOk (K : PySem.W.Frag) (mg : Str → Option Value) (x : Str) (d : D) : Prop := ∃ u v, mg x = some u ∧ RelV v u ∧ ∀ F : Hp, Rp K F v d
def tGl (mg : Str → Option Value) (x : Str) : TE := fun _ H Q => ∃ u v, mg x = some u ∧ RelV v u ∧ ∀ v', RelV v' u → v' = v → Q v' H
theorem je_gl {K : PySem.W.Frag} {mg : Str → Option Value} {x : Str} {d : D} {pos : Pos} (h : GlOk K mg x d) (hg : Gl X x) (hd : (x == ("__debug__" : Str)) = false := by decide) (hK : X.K = K := by rfl) (hm : X.mg = mg := by rfl) : JE X np (.Name x pos) (tGl mg x) (fC d) := by
  subst hK hm
  refine ⟨⟨fun pins s σ H Q I q => ?_⟩, fun B F e σ H Q hn I e' d' hf q => ?_⟩
  · obtain ⟨u, v, h1, h2, h3⟩ := q
    exact (pe_glob hg h1 h2 (hd := hd)).run pins s σ H Q I (h3 v h2 rfl)
  · cases hf
    obtain ⟨u, v, h1, h2, h3⟩ := h
    exact ⟨u, v, h1, h2, fun v' _ e => by rw [e]; exact q F v H (Same.refl F) I (h3 F)⟩
/-- a dict of the module with text keys -/
def tabL (tbl : List (Str × D)) (z : Str) : Option D := (tbl.find? fun p => p.1 == z).map (·.2)
def TabOk (K : PySem.W.Frag) (w : World) (mg : Str → Option Value) (x : Str) (tbl : List (Str × D)) : Prop :=
  ∃ a, mg x = some (.ref a) ∧ ∀ z d, tabL tbl z = some d → ∃ v, KDct K w a z v ∧ ∀ F : Hp, Rp K F v d
def tabD (tbl : List (Str × D)) : D → Option D
  | .str z => tabL tbl z
  | _ => none
def tTab (K : PySem.W.Frag) (w : World) (mg : Str → Option Value) (x : Str) (t : TE) : TE := fun σ H Q => ∃ a, mg x = some (.ref a) ∧ tOp (L2.rIxD K w) (tC (.ref a)) t σ H Q
theorem je_tab {K : PySem.W.Frag} {w : World} {mg : Str → Option Value} {x : Str} {tbl : List (Str × D)} {i : Expr} {ti : TE} {ki : FK} {p pos : Pos} (h : TabOk K w mg x tbl) (hg : Gl X x) (hi : JK X np i ti ki) (hs : PlainIx i) (hd : (x == ("__debug__" : Str)) = false := by decide)
    (hK : X.K = K := by rfl) (hm : X.mg = mg := by rfl) (hw : X.w = w := by rfl) : JE X np (.Subscript (.Name x p) i pos) (tTab K w mg x ti) (fUn (tabD tbl) ki) := by
  subst hK hm hw
  obtain ⟨a, h1, h2⟩ := h
  refine ⟨⟨fun pins s σ H Q I q => ?_⟩, fun B F e σ H Q hn I e' d hf q => ?_⟩
  · obtain ⟨b, e1, q⟩ := q
    exact (pe_ix ix_kdict (pe_glob hg e1 (show L2.RelV (.ref b) (.ref b) from rfl) (hd := hd)) hi.pe hs).run pins s σ H Q I q
  · obtain ⟨⟨e1, ra⟩, g1, hf⟩ := bnd hf
    obtain ⟨x, g3, hf⟩ := bnd hf
    obtain ⟨d', g5, hf⟩ := bnd hf
    cases hf
    refine ⟨a, h1, hi.de B F e σ H _ hn I e1 ra g1 fun F1 v1 H1 s1 I1 l1 => ?_⟩
    have rx := l1 F1 e1 H1 x (Same.refl _) I1 g3
    cases x with
    | str z =>
      obtain ⟨v, k, r⟩ := h2 z d g5
      exact ⟨a, z, v, rfl, rx.str.1, k, q F1 v H1 s1 I1 (r F1)⟩
    | _ => cases g5
end
end M

namespace M
open PySem PySem.Spec PyProof.Rows L2
/-! ### dicts of one's own -/
/-- something made anew, kept aside while more is worked out -/
theorem IV.guard2 {K : PySem.W.Frag} {B : Bs} {F : Hp} {e : Sls} {σ : L2.St} {H : Hp} (I : IV K B F e σ H) {p : Addr} {o : HO} (hp : H p = none) : IV K { B with G := upd B.G p o } F e σ (upd H p o) := by
  obtain ⟨f1, f2, f3, f4⟩ := I.free hp
  refine ⟨fun b u q => ?_, same_both I.sg, I.g1, fun b => ?_, fun b q => ?_, I.len, fun i s v h1 h2 => ?_, I.ap, I.an⟩
  · rw [upd_ne (ne_of_none q f1)]; exact I.sf b u q
  · by_cases z : b = p
    · subst z; exact .inl (f1.trans f3.symm)
    · rcases I.g2 b with h | ⟨h1, h2, h3⟩
      · exact .inl h
      · exact .inr ⟨h1, h2, by show upd B.G p o b = none; rw [upd_ne z]; exact h3⟩
  · by_cases z : b = p
    · subst z; exact f4
    · rw [upd_ne z] at q; exact I.g3 b q
  · have r := I.sl i s v h1 h2
    cases r with
    | un => exact .un
    | im r => exact .im r
    | ow r g1 g2 g3 =>
      rename_i a
      have na : a ≠ p := fun z => by rw [z] at r; exact r.some hp
      exact .ow (r.mono (Same.refl F) (upd_ne na)) g1 (by show upd B.G p o a = none; rw [upd_ne na]; exact g2) g3
theorem IV.unguard2 {K : PySem.W.Frag} {B : Bs} {F : Hp} {e : Sls} {σ : L2.St} {H : Hp} {p : Addr} {o : HO} (hg : B.G p = none) (hf : B.F p = none) (I : IV K { B with G := upd B.G p o } F e σ H) :
    IV K B F e σ H ∧ H p = some o ∧ F p = none ∧ (∀ (j : Nat) (s : Sl), e[j]? = some s → s.own = true → σ[j]? ≠ some (some (.ref p))) := by
  have hp : H p = some o := I.sg p o (by show upd B.G p o p = some o; exact upd_same)
  have gp : ∀ b, upd B.G p o b = none → B.G b = none := fun b h => by
    by_cases z : b = p
    · subst z; exact hg
    · rw [upd_ne z] at h; exact h
  refine ⟨⟨I.sf, fun b u q => I.sg b u ?_, I.g1, fun b => ?_, I.g3, I.len, fun i s v h1 h2 => ?_, I.ap, I.an⟩, hp, ?_, fun j s h1 h2 z => ?_⟩
  · show upd B.G p o b = some u
    rw [upd_ne (ne_of_none q hg)]; exact q
  · rcases I.g2 b with h | ⟨h1, h2, h3⟩
    · exact .inl h
    · exact .inr ⟨h1, h2, gp b h3⟩
  · have r := I.sl i s v h1 h2
    cases r with
    | un => exact .un
    | im r => exact .im r
    | ow r g1 g2 g3 => exact .ow r g1 (gp _ g2) g3
  · rcases I.g2 p with h | ⟨_, _, h⟩
    · exact h.trans hf
    · have h : upd B.G p o p = none := h
      rw [upd_same] at h; cases h
  · obtain ⟨a, e1, _, _, g, _⟩ := (I.sl j s _ h1 z).of_own h2
    cases e1
    have g : upd B.G p o p = none := g
    rw [upd_same] at g; cases g
def fPairs : List (FE × FE) → Sls → Option (Sls × List (Key × D))
  | [], e => some (e, [])
  | (k, v) :: r, e => (k e).bind fun p => (v p.1).bind fun q => p.2.key.bind fun k => (fPairs r q.1).bind fun t => some (t.1, (k, q.2) :: t.2)
def mergeG (es : List (Key × D)) : List (Key × D) := es.foldl (fun acc kv => putG acc kv.1 kv.2) []
theorem merge_rpk {K : PySem.W.Frag} {F : Hp} : ∀ {kvs : List (Key × V)} {es : List (Key × D)} {as : List (Key × V)} {bs : List (Key × D)}, Rpk K F kvs es → Rpk K F as bs → Rpk K F (mergeK as kvs) (es.foldl (fun acc kv => putG acc kv.1 kv.2) bs)
  | _, _, _, _, .nil, q => q
  | _, _, as, bs, .cons (k := k) (v := v) (d := d) r t, q => by
    have ih := merge_rpk (as := putK as k v) (bs := putG bs k d) t (put_rpk r q)
    exact ih
inductive DPs (X : Cx) (np : Nat) : List (Option Expr) → List Expr → List (TE × TE) → List (FE × FE) → Prop
  | nil : DPs X np [] [] [] []
  | cons {k v : Expr} {ks : List (Option Expr)} {vs : List Expr} {tk tv : TE} {fk fv : FE} {ts : List (TE × TE)} {fs : List (FE × FE)} : JE X np k tk fk → JE X np v tv fv → DPs X np ks vs ts fs → DPs X np (some k :: ks) (v :: vs) ((tk, tv) :: ts) ((fk, fv) :: fs)
section
variable {X : Cx} {np : Nat}
theorem DPs.pps {pos : Pos} : ∀ {ks : List (Option Expr)} {vs : List Expr} {ts : List (TE × TE)} {fs : List (FE × FE)}, DPs X np ks vs ts fs → PPs X pos ks vs ts
  | _, _, _, _, .nil => pps_nil
  | _, _, _, _, .cons a b c => pps_cons a.pe b.pe c.pps
theorem DPs.len : ∀ {ks : List (Option Expr)} {vs : List Expr} {ts : List (TE × TE)} {fs : List (FE × FE)}, DPs X np ks vs ts fs → ks.length = fs.length
  | _, _, _, _, .nil => rfl
  | _, _, _, _, .cons a b c => congrArg (· + 1) c.len
theorem fPairs_len : ∀ {fs : List (FE × FE)} {e e' : Sls} {es : List (Key × D)}, fPairs fs e = some (e', es) → es.length = fs.length
  | [], _, _, _, h => by cases h; rfl
  | (k, v) :: r, e, e', es, h => by
    obtain ⟨p, _, h⟩ := bnd h
    obtain ⟨q, _, h⟩ := bnd h
    obtain ⟨k', _, h⟩ := bnd h
    obtain ⟨⟨t1, t2⟩, h4, h⟩ := bnd h
    cases h
    exact congrArg (· + 1) (fPairs_len h4)
theorem DPs.de : ∀ {ks : List (Option Expr)} {vs : List Expr} {ts : List (TE × TE)} {fs : List (FE × FE)}, DPs X np ks vs ts fs → ∀ (B : Bs) (F : Hp) (e : Sls) (σ : L2.St) (H : Hp) (Q : List (V × V) → Hp → Prop), B.np = np → IV X.K B F e σ H → ∀ (e' : Sls) (es : List (Key × D)), fPairs fs e = some (e', es) →
    (∀ (F' : Hp) (kvs : List (Key × V)) (H' : Hp), Same F F' → IV X.K B F' e' σ H' → Rpk X.K F' kvs es → Q (kvs.map fun kv => (kV kv.1, kv.2)) H') → tPairs ts σ H Q
  | _, _, _, _, .nil, B, F, e, σ, H, Q, hn, I, e', es, hf, q => by
    cases hf
    exact q F [] H (Same.refl F) I .nil
  | _, _, _, _, .cons a b c, B, F, e, σ, H, Q, hn, I, e', es, hf, q => by
    obtain ⟨⟨e1, dk⟩, h1, hf⟩ := bnd hf
    obtain ⟨⟨e2, dv⟩, h2, hf⟩ := bnd hf
    obtain ⟨k', h3, hf⟩ := bnd hf
    obtain ⟨⟨e3, t2⟩, h4, hf⟩ := bnd hf
    cases hf
    refine a.de B F e σ H _ hn I e1 dk h1 fun F1 x H1 s1 I1 r1 => ?_
    refine b.de B F1 e1 σ H1 _ hn I1 e2 dv h2 fun F2 y H2 s2 I2 r2 => ?_
    refine c.de B F2 e2 σ H2 _ hn I2 _ t2 h4 fun F3 kvs H3 s3 I3 r3 => ?_
    have ex : x = kV k' := key_rpo (.rp r1 : RpO X.K F1 H1 x dk) h3
    rw [ex]
    exact q F3 ((k', y) :: kvs) H3 ((s1.trans s2).trans s3) I3 (.cons (r2.mono s3) r3)
def oDic (fs : List (FE × FE)) : Sls → Option (Sls × Sl) := fun e => (fPairs fs e).bind fun p => some (p.1, .dic (mergeG p.2))
theorem jow_dic {ks : List (Option Expr)} {vs : List Expr} {ts : List (TE × TE)} {fs : List (FE × FE)} {pos : Pos} (h : DPs X np ks vs ts fs) (hall : ks.all (·.isSome) = true := by rfl) (hl : ks.length = vs.length := by rfl) (h0 : ks ≠ [] := by simp) (h15 : ks.length ≤ 15 := by decide) :
    JOw X np (.Dict ks vs pos) (tDisp ts) (oDic fs) := by
  refine ⟨pe_disp h.pps hall hl h0 h15, fun B F e σ H Q hn I e' s hf q => ?_⟩
  obtain ⟨⟨e1, es⟩, h1, hf⟩ := bnd hf
  cases hf
  intro p hp
  obtain ⟨f1, f2, f3, f4⟩ := I.free hp
  refine h.de { B with G := upd B.G p (.dK []) } F e σ _ _ hn (I.guard2 hp) e1 es h1 fun F1 kvs H1 s1 I1 r1 => ?_
  obtain ⟨I2, g1, g2, g3⟩ := I1.unguard2 f2 f3
  have hlen : kvs.length = es.length := r1.length
  refine ⟨g1, kvs, rfl, by rw [hlen, fPairs_len h1, ← h.len]; exact h15, ?_⟩
  have I3 : IV X.K B F1 e1 σ (upd H1 p (.dK (mergeK [] kvs))) := by
    refine ⟨fun b u w => ?_, fun b u w => ?_, I2.g1, I2.g2, fun b w => ?_, I2.len, fun i s v k1 k2 => ?_, I2.ap, I2.an⟩
    · rw [upd_ne (ne_of_none w g2)]; exact I2.sf b u w
    · rw [upd_ne (ne_of_none w f2)]; exact I2.sg b u w
    · by_cases z : b = p
      · subst z; exact f4
      · rw [upd_ne z] at w; exact I2.g3 b w
    · have r := I2.sl i s v k1 k2
      cases r with
      | un => exact .un
      | im r => exact .im r
      | ow r y1 y2 y3 =>
        rename_i a
        have na : a ≠ p := fun z => by
          subst z
          exact g3 i s k1 r.own k2
        exact .ow (r.mono (Same.refl F1) (upd_ne na)) y1 y2 y3
  exact q F1 p _ s1 I3 (.dic upd_same (merge_rpk r1 .nil)) g2 f2 f4 g3
theorem jow_dic0 {pos : Pos} : JOw X np (.Dict [] [] pos) tDNewK (oDic []) := by
  refine ⟨pe_dnewK, fun B F e σ H Q hn I e' s hf q => ?_⟩
  cases hf
  intro p hp
  obtain ⟨f1, f2, f3, f4⟩ := I.free hp
  obtain ⟨I2, ne⟩ := I.newOwn (o := .dK []) hp
  exact q F p _ (Same.refl F) I2 (.dic upd_same .nil) f1 f2 f4 ne
/-- something made anew, as a value -/
def fO (f : Sls → Option (Sls × Sl)) : FE := fun e => (f e).bind fun p => p.2.see.bind fun d => some (p.1, d)
theorem je_o {ex : Expr} {t : TE} {f : Sls → Option (Sls × Sl)} (h : JOw X np ex t f) : JE X np ex t (fO f) := by
  refine ⟨h.pe, fun B F e σ H Q hn I e' d hf q => ?_⟩
  obtain ⟨⟨e1, s⟩, h1, hf⟩ := bnd hf
  obtain ⟨d', h2, hf⟩ := bnd hf
  cases hf
  refine h.de B F e σ H _ hn I e1 s h1 fun F1 a H1 s1 I1 o f g b ne => ?_
  obtain ⟨F2, s2, I2, r2⟩ := I1.freezeNew o f g b h2 ne
  exact q F2 _ H1 (s1.trans s2) I2 r2
/-- d.get(k, x) -/
def fGet2 (ko : FK) (kk : FK) (kd : FE) : FE := fun e => (ko e).bind fun p => (kk p.1).bind fun q => (kd q.1).bind fun r => match p.2 p.1 with
  | some (.dic _) => match p.2 r.1 with
    | some (.dic es) => (q.2 r.1).bind fun k => k.key.bind fun k => match lookK k es with
      | some d => some (r.1, d)
      | none => some (r.1, r.2)
    | _ => none
  | _ => none
theorem isD_of {K : PySem.W.Frag} {F H : Hp} {x : V} {es : List (Key × D)} (sf : Same F H) (h : RpO K F H x (.dic es)) : ∃ a kvs, x = .ref a ∧ IsD H a ∧ Rd H a (.dK kvs) ∧ Rpk K F kvs es := by
  obtain ⟨a, kvs, e, r, k⟩ := h.dic' sf
  exact ⟨a, kvs, e, .inl ⟨kvs, r⟩, r, k⟩
theorem je_get2 {o k d : Expr} {to tk td : TE} {ko kk : FK} {kd : FE} {apos cpos : Pos} (hu : X.A.units + 200 < cLine) (ho : JK X np o to ko) (hk : JK X np k tk kk) (hd : JE X np d td kd) (m : L2.M2 X o "get" apos k d cpos) :
    JE X np (.Call (.Attribute o "get" apos) [k, d] [] cpos) (tDGet2 to tk td) (fGet2 ko kk kd) := by
  refine ⟨pe_dget2 (by omega) ho.pe hk.pe hd.pe m, fun B F e σ H Q hn I e' d' hf q => ?_⟩
  obtain ⟨⟨e1, r1⟩, h1, hf⟩ := bnd hf
  obtain ⟨⟨e2, r2⟩, h2, hf⟩ := bnd hf
  obtain ⟨⟨e3, r3⟩, h3, hf⟩ := bnd hf
  simp only at hf
  split at hf
  · rename_i es0 z0
    split at hf
    · rename_i es z1
      obtain ⟨kd', y1, hf⟩ := bnd hf
      obtain ⟨key, y2, hf⟩ := bnd hf
      refine ho.de B F e σ H _ hn I e1 r1 h1 fun F1 x H1 s1 I1 l1 => ?_
      obtain ⟨a, kvs0, ex, isd, _, _⟩ := isD_of I1.sf (l1 F1 e1 H1 _ (Same.refl _) I1 z0)
      refine ⟨a, ex, isd, ?_⟩
      refine hk.de B F1 e1 σ H1 _ hn I1 e2 r2 h2 fun F2 y H2 s2 I2 l2 => ?_
      refine hd.de B F2 e2 σ H2 _ hn I2 e3 r3 h3 fun F3 z H3 s3 I3 rz => ?_
      obtain ⟨a', kvs, ex', _, rd, rk⟩ := isD_of I3.sf (l1 F3 e3 H3 _ (s2.trans s3) I3 z1)
      have ea : a = a' := by rw [ex] at ex'; cases ex'; rfl
      subst ea
      have ey := key_rpo (l2 F3 e3 H3 _ s3 I3 y1) y2
      refine ⟨valV kvs key, .inl ⟨kvs, key, rd, ey, rfl⟩, ?_⟩
      rcases look_rpk (k := key) rk with ⟨w1, w2⟩ | ⟨v, dv, w1, w2, w3⟩
      · rw [w1] at hf
        cases hf
        rw [w2]
        exact q F3 z H3 ((s1.trans s2).trans s3) I3 rz
      · rw [w1] at hf
        cases hf
        rw [w2]
        exact q F3 v H3 ((s1.trans s2).trans s3) I3 w3
    · cases hf
  · cases hf
theorem js_setLc {i : Nat} {y : Str} {py : Pos} {elt tg iter : Expr} {ifs : List Expr} {scope : Scope} {own : List (Str × Nat)} {pos spos : Pos} {wi : TI} {fi : FI} {ts : List Nat} {g : TG} {b : FG} {tt : TT} {c : FT} {te : TE} {f : FE} (hc : X.calm = true) (hN : X.N.Nodup)
    (hi : JI X np tg iter wi fi) (ok : BlkOk X.N X.env.scope scope own)
    (hg : ∀ (s : Shared) (H : Hp) (C : Addr) (cl : List (Str × Addr)) (fp : List Addr), JG (X.blk s H scope (compEnvC scope cl C X.env) fp) np tg ts g b)
    (ht : ∀ (s : Shared) (H : Hp) (C : Addr) (cl : List (Str × Addr)) (fp : List Addr), JTs (X.blk s H scope (compEnvC scope cl C X.env) fp) np ifs tt c)
    (he : ∀ (s : Shared) (H : Hp) (C : Addr) (cl : List (Str × Addr)) (fp : List Addr), JE (X.blk s H scope (compEnvC scope cl C X.env) fp) np elt te f)
    (hts : ∀ i ∈ ts, i ∈ own.map (·.2) := by decide) (hvs : ∀ i ∈ own.map (·.2), np ≤ i := by decide) (hs : ∀ x, foldedSetIterable iter X.env x = pure x := by intro _; rfl)
    (hy : X.N[i]? = some y := by rfl) (hyl : X.env.scope.names.lookup y = some .local := by rfl) (hnp : np ≤ i := by decide)
    (hsw : swapsWith (.ListComp elt [⟨tg, iter, ifs, 0⟩] scope pos) (some (.Name y py)) spos.line X.env = pure true := by rfl) (hx : Loc X.env.scope y := by first | exact Or.inl rfl | exact Or.inr rfl)
    (hf : X.fn y = true ∨ X.env.scope.names.lookup y = some .local := by first | exact .inl rfl | exact .inr rfl) :
    JS X np (.Assign [.Name y py] (.ListComp elt [⟨tg, iter, ifs, 0⟩] scope pos) spos) (tAsg (tLc wi g tt te (own.map (·.2))) (gName i)) (sSet (fLc fi (own.map (·.2)) b c f) (bName i)) :=
  js_asg (je_lc hc hN hi ok hg ht he hts hvs hs) (jg_name (pos := py) (pg_name hN hy hx hf) hnp)
    (ps_setLc hc hN hy hyl hsw hi.pi ok (fun s H C cl fp => (hg s H C cl fp).pg) (fun s H C cl fp => (ht s H C cl fp).pts) (fun s H C cl fp => (he s H C cl fp).pe) hs)
theorem jasg {tg ex : Expr} {ts : List Nat} {tt : TG} {bg : FG} {te : TE} {fe : FE} {pos : Pos} (h : JE X np ex te fe) (hg : JG X np tg ts tt bg) (hs : swapsWithSole [tg] ex pos.line X.env = pure false := by rfl) (hw : swappedStores [tg] ex X.env = pure none := by rfl)
    (h1 : (assignEach [tg] X.env).map (·.2) = [assign tg X.env] := by rfl) : JS X np (.Assign [tg] ex pos) (tAsg te tt) (sSet fe bg) := js_asg h hg (ps_asg h.pe hg.pg hs hw h1)
theorem jget2 {o k d : Expr} {to tk td : TE} {ko kk : FK} {kd : FE} {apos cpos : Pos} (hu : X.A.units + 200 < cLine) (ho : JK X np o to ko) (hk : JK X np k tk kk) (hd : JE X np d td kd)
    (h1 : attributeBase o "get" X.env (eval o X.env) = eval o X.env := by rfl)
    (h2 : ((backTo cpos (starEach [k, d] X.env)).all (fun x => !x.1) && (backToKw cpos (keywordEach [] X.env)).all (fun x => x.1.isSome)
    && decide (([k, d] : List Expr).length + ([] : List Keyword).length + (if ([] : List Keyword).isEmpty then 0 else 1) < 30)) = true := by rfl)
    (h3 : (apos.endLine == cpos.line) = true := by rfl) (h4 : backTo cpos (starEach [k, d] X.env) = [(false, eval k X.env), (false, eval d X.env)] := by rfl) :
    JE X np (.Call (.Attribute o "get" apos) [k, d] [] cpos) (tDGet2 to tk td) (fGet2 ko kk kd) := je_get2 hu ho hk hd ⟨h1, h2, h3, h4⟩
end
end M

namespace M
open PySem PySem.Spec PyProof.Rows L2
def TabL (K : PySem.W.Frag) (a : Addr) : List (Str × D) → Prop
  | [] => True
  | (z, d) :: r => (∃ u v, PySem.W.nsIn K a z = some (some u) ∧ RelV v u ∧ ∀ F : Hp, Rp K F v d) ∧ TabL K a r
theorem tabL_get {K : PySem.W.Frag} {a : Addr} {z : Str} {d : D} : ∀ {tbl : List (Str × D)}, TabL K a tbl → tabL tbl z = some d → ∃ u v, PySem.W.nsIn K a z = some (some u) ∧ RelV v u ∧ ∀ F : Hp, Rp K F v d
  | [], _, h => by cases h
  | (y, c) :: r, ⟨h1, h2⟩, h => by
    by_cases e : y = z
    · subst e
      have : tabL ((y, c) :: r) y = some c := by simp [tabL]
      rw [this] at h
      cases h
      exact h1
    · have : tabL ((y, c) :: r) z = tabL r z := by
        have e' : (y == z) = false := by simpa using e
        simp only [tabL, List.find?_cons, e']
      rw [this] at h
      exact tabL_get h2 h
theorem tab_mk {K : PySem.W.Frag} {w : World} {h : Heap} {mg : Str → Option Value} {x : Str} {a : Addr} {ks : List Str} {tbl : List (Str × D)} (X : K.In h) (G : h.Ns mainGlobals mg) (q : PySem.W.nsIn K mainGlobals x = some (some (.ref a))) (hd : He.dicW K a = some (He.keysIn w.params ks)) (hl : TabL K a tbl) : TabOk K w mg x tbl := by
  refine ⟨a, PySem.W.mg_of X G q, fun z d hz => ?_⟩
  obtain ⟨u, v, h1, h2, h3⟩ := tabL_get hl hz
  obtain ⟨es, n, kd⟩ := He.dicW_ok hd
  exact ⟨v, ⟨es, n, u, kd.at_, kd.lit, h1, h2⟩, h3⟩
theorem tab_mk2 {K : PySem.W.Frag} {w : World} {h : Heap} {mg : Str → Option Value} {x : Str} {a : Addr} {es : Array DictEntry} {n : Nat} {tbl : List (Str × D)} (X : K.In h) (G : h.Ns mainGlobals mg) (q : PySem.W.nsIn K mainGlobals x = some (some (.ref a))) (hd : K.lookup a = some ⟨.type "dict", none, .dict es n, #[]⟩) (hk : PySem.W.KeysLit w.params es.toList) (hl : TabL K a tbl) : TabOk K w mg x tbl := by
  refine ⟨a, PySem.W.mg_of X G q, fun z d hz => ?_⟩
  obtain ⟨u, v, h1, h2, h3⟩ := tabL_get hl hz
  exact ⟨v, ⟨es, n, u, hd, hk, h1, h2⟩, h3⟩
theorem tabl_int {K : PySem.W.Frag} {a : Addr} {z : Str} {i : Int} {t : Tok} {r : List (Str × D)} (h : PySem.W.nsIn K a z = some (some (.int i t))) (hr : TabL K a r) : TabL K a ((z, .int i) :: r) := ⟨⟨_, .int i, h, ⟨t, rfl⟩, fun F => .int i⟩, hr⟩
theorem tabl_str {K : PySem.W.Frag} {a : Addr} {z : Str} {s : Str} {t : Tok} {r : List (Str × D)} (h : PySem.W.nsIn K a z = some (some (.str s t))) (hs : sOk s) (hr : TabL K a r) : TabL K a ((z, .str s) :: r) := ⟨⟨_, .str s, h, ⟨t, rfl⟩, fun F => .str s hs⟩, hr⟩
theorem gl_int {K : PySem.W.Frag} {h : Heap} {mg : Str → Option Value} {x : Str} {i : Int} {t : Tok} (X : K.In h) (G : h.Ns mainGlobals mg) (q : PySem.W.nsIn K mainGlobals x = some (some (.int i t))) : GlOk K mg x (.int i) := ⟨_, .int i, PySem.W.mg_of X G q, ⟨t, rfl⟩, fun F => .int i⟩
theorem gl_str {K : PySem.W.Frag} {h : Heap} {mg : Str → Option Value} {x s : Str} {t : Tok} (X : K.In h) (G : h.Ns mainGlobals mg) (q : PySem.W.nsIn K mainGlobals x = some (some (.str s t))) (hs : sOk s) : GlOk K mg x (.str s) := ⟨_, .str s, PySem.W.mg_of X G q, ⟨t, rfl⟩, fun F => .str s hs⟩
/-- a tuple of texts of the module -/
def strsW (K : PySem.W.Frag) (a : Addr) : Option (List (Option Str)) := match K.lookup a with
  | some o => match o.data with
    | .seq its _ => (match o.cls == .type "tuple" && decide (its.size ≤ 1000) with
      | true => some (its.toList.map fun v => match v with | .str s _ => some s | _ => none)
      | false => none)
    | _ => none
  | none => none
theorem strs_vals {K : PySem.W.Frag} : ∀ {its : List Value} {ss : List Str}, (its.map fun v => match v with | Value.str s _ => some s | _ => none) = ss.map some → (∀ s ∈ ss, sOk s) → Vals (ss.map V.str) its ∧ ∀ F : Hp, Rps K F (ss.map V.str) (ss.map D.str)
  | [], [], _, _ => ⟨.nil, fun F => .nil⟩
  | [], s :: ss, h, _ => by cases h
  | v :: vs, [], h, _ => by cases h
  | v :: vs, s :: ss, h, ho => by
    simp only [List.map_cons, List.cons.injEq] at h
    obtain ⟨h1, h2⟩ := h
    obtain ⟨i1, i2⟩ := strs_vals (K := K) h2 fun s hs => ho s (List.mem_cons_of_mem _ hs)
    cases v with
    | str z t =>
      cases h1
      exact ⟨.cons ⟨t, rfl⟩ i1, fun F => .cons (.str _ (ho _ (List.mem_cons_self ..))) (i2 F)⟩
    | _ => cases h1
theorem gl_strs {K : PySem.W.Frag} {h : Heap} {mg : Str → Option Value} {x : Str} {a : Addr} {ss : List Str} (X : K.In h) (G : h.Ns mainGlobals mg) (q : PySem.W.nsIn K mainGlobals x = some (some (.ref a))) (hw : strsW K a = some (ss.map some)) (hs : ∀ s ∈ ss, sOk s) : GlOk K mg x (.tup (ss.map .str)) := by
  refine ⟨_, .ref a, PySem.W.mg_of X G q, rfl, fun F => ?_⟩
  unfold strsW at hw
  split at hw
  · rename_i o ho
    split at hw
    · rename_i its n hd
      split at hw
      · rename_i hc
        simp only [Bool.and_eq_true, beq_iff_eq, decide_eq_true_eq] at hc
        obtain ⟨i1, i2⟩ := strs_vals (K := K) (Option.some.inj hw) hs
        exact .tup (.inr ⟨o, its, n, ho, hc.1, hd, Nat.le_trans hc.2 (by decide), by simpa using i1⟩) (i2 F)
      · cases hw
    · cases hw
  · cases hw
end M

namespace M
open PySem PySem.Spec PyProof.Rows L2
/-! ### str of a whole number, of a text -/
def strOfX : List D → Option D
  | [.int i] => if i.natAbs.log2 < 1920 then some (.str (Str.ofString (toString i))) else none
  | [.str a] => some (.str a)
  | _ => none
def rStrX : List V → Hp → VK → Prop := fun xs H Q => (∃ i : Int, xs = [.int i] ∧ i.natAbs.log2 < 1920 ∧ Q (.str (toString i)) H) ∨ (∃ a, xs = [.str a] ∧ Q (.str a) H)
theorem call_strX {X : Cx} : CallR X (.type "str") rStrX := call_str_int.or SkE.call_str_str
theorem cm_strX {K : PySem.W.Frag} : CallM K rStrX strOfX := by
  intro B F e σ H xs ds d Q I r hf q
  unfold strOfX at hf
  split at hf
  · split at hf
    · rename_i hz
      cases hf
      obtain ⟨x, rfl, rx⟩ := r.one
      exact .inl ⟨_, by rw [rx.int], hz, q F _ H (Same.refl F) I (.str _ (sOk_ofString _))⟩
    · cases hf
  · cases hf
    obtain ⟨x, rfl, rx⟩ := r.one
    exact .inr ⟨_, by rw [rx.str.1], q F _ H (Same.refl F) I (.str _ rx.str.2)⟩
  · cases hf
theorem d_strI (i : Int) : strOfX [.int i] = if i.natAbs.log2 < 1920 then some (.str (Str.ofString (toString i))) else none := rfl
theorem d_strS (a : Str) : strOfX [.str a] = some (.str a) := rfl
/-! ### terms -/
def opsL : List Str := ["+", "-", "*", "<", "=="]
mutual
inductive Tm : Nat → Nat → D → Prop
  | name {n L : Nat} {s : Str} : SmallN s → 1 ≤ L → Tm (n + 1) L (.tup [.str "name", .str s])
  | make {n L : Nat} {s : Str} : GreatN s → 1 ≤ L → Tm (n + 1) L (.tup [.str "make", .str s])
  | num {n L : Nat} {i : Int} : 0 ≤ i → i < 10 ^ 20 → 1 ≤ L → Tm (n + 1) L (.tup [.str "num", .int i])
  | app {n L M N : Nat} {a b : D} : Tm n L a → Tm n M b → L + M + 1 ≤ N → Tm (n + 1) N (.tup [.str "app", a, b])
  | op {n L M N : Nat} {o : Str} {a b : D} : o ∈ opsL → Tm n L a → Tm n M b → L + M + 1 ≤ N → Tm (n + 1) N (.tup [.str "op", .str o, a, b])
  | fn {n L N : Nat} {x : Str} {a : D} : SmallN x → Tm n L a → L + 1 ≤ N → Tm (n + 1) N (.tup [.str "fun", .str x, a])
  | lt {n L M N : Nat} {bs : List (Str × D)} {b : D} : Bds n L bs → bs ≠ [] → (bs.map Prod.fst).Nodup → Tm n M b → L + M + 1 ≤ N → Tm (n + 1) N (.tup [.str "let", .tup (bs.map fun p => .tup [.str p.1, p.2]), b])
  | cs {n L M N : Nat} {ws : List (Str × List Str × D)} {a : D} : Tm n L a → Wys n M ws → ws ≠ [] → L + M + 1 ≤ N → Tm (n + 1) N (.tup [.str "case", a, .tup (ws.map fun p => .tup [.str p.1, .tup (p.2.1.map .str), p.2.2])])
inductive Bds : Nat → Nat → List (Str × D) → Prop
  | nil {n L : Nat} : Bds n L []
  | cons {n L M N : Nat} {x : Str} {d : D} {r : List (Str × D)} : SmallN x → Tm n L d → Bds n M r → L + M ≤ N → Bds n N ((x, d) :: r)
inductive Wys : Nat → Nat → List (Str × List Str × D) → Prop
  | nil {n L : Nat} : Wys n L []
  | cons {n L M N : Nat} {x : Str} {ns : List Str} {d : D} {r : List (Str × List Str × D)} : GreatN x → (∀ s ∈ ns, SmallN s) → ns.Nodup → ns.length ≤ 3 → Tm n L d → Wys n M r → L + M ≤ N → Wys n N ((x, ns, d) :: r)
end
mutual
theorem Tm.mono {n m : Nat} (h : n ≤ m) : ∀ {L M : Nat} {d : D}, Tm n L d → L ≤ M → Tm m M d
  | L, M, _, t, h2 => by
    cases t with
    | name h0 h1 => obtain ⟨k, rfl⟩ : ∃ k, m = k + 1 := ⟨m - 1, by omega⟩; exact .name h0 (by omega)
    | make h0 h1 => obtain ⟨k, rfl⟩ : ∃ k, m = k + 1 := ⟨m - 1, by omega⟩; exact .make h0 (by omega)
    | num h0 h1 h2 => obtain ⟨k, rfl⟩ : ∃ k, m = k + 1 := ⟨m - 1, by omega⟩; exact .num h0 h1 (by omega)
    | app a b h1 => obtain ⟨k, rfl⟩ : ∃ k, m = k + 1 := ⟨m - 1, by omega⟩; exact .app (Tm.mono (by omega) a (Nat.le_refl _)) (Tm.mono (by omega) b (Nat.le_refl _)) (by omega)
    | op o a b h1 => obtain ⟨k, rfl⟩ : ∃ k, m = k + 1 := ⟨m - 1, by omega⟩; exact .op o (Tm.mono (by omega) a (Nat.le_refl _)) (Tm.mono (by omega) b (Nat.le_refl _)) (by omega)
    | fn x a h1 => obtain ⟨k, rfl⟩ : ∃ k, m = k + 1 := ⟨m - 1, by omega⟩; exact .fn x (Tm.mono (by omega) a (Nat.le_refl _)) (by omega)
    | lt a b c d h1 => obtain ⟨k, rfl⟩ : ∃ k, m = k + 1 := ⟨m - 1, by omega⟩; exact .lt (Bds.mono (by omega) a (Nat.le_refl _)) b c (Tm.mono (by omega) d (Nat.le_refl _)) (by omega)
    | cs a b c h1 => obtain ⟨k, rfl⟩ : ∃ k, m = k + 1 := ⟨m - 1, by omega⟩; exact .cs (Tm.mono (by omega) a (Nat.le_refl _)) (Wys.mono (by omega) b (Nat.le_refl _)) c (by omega)
theorem Bds.mono {n m : Nat} (h : n ≤ m) : ∀ {L M : Nat} {d : List (Str × D)}, Bds n L d → L ≤ M → Bds m M d
  | L, M, _, .nil, h2 => .nil
  | L, M, _, .cons x a b h1, h2 => .cons x (Tm.mono h a (Nat.le_refl _)) (Bds.mono h b (Nat.le_refl _)) (Nat.le_trans h1 h2)
theorem Wys.mono {n m : Nat} (h : n ≤ m) : ∀ {L M : Nat} {d : List (Str × List Str × D)}, Wys n L d → L ≤ M → Wys m M d
  | L, M, _, .nil, h2 => .nil
  | L, M, _, .cons x y z w a b h1, h2 => .cons x y z w (Tm.mono h a (Nat.le_refl _)) (Wys.mono h b (Nat.le_refl _)) (Nat.le_trans h1 h2)
end
theorem Bds.snoc {n : Nat} {x : Str} {d : D} {M : Nat} (hx : SmallN x) (hd : Tm n M d) : ∀ {ds : List (Str × D)} {L : Nat}, Bds n L ds → Bds n (L + M) (ds ++ [(x, d)])
  | _, L, .nil => .cons hx hd .nil (by omega : M + 0 ≤ L + M)
  | _, L, .cons y a b h => .cons y a (Bds.snoc hx hd b) (by omega)
theorem Wys.snoc {n : Nat} {x : Str} {ns : List Str} {d : D} {M : Nat} (hx : GreatN x) (h1 : ∀ s ∈ ns, SmallN s) (h2 : ns.Nodup) (h3 : ns.length ≤ 3) (hd : Tm n M d) : ∀ {ds : List (Str × List Str × D)} {L : Nat}, Wys n L ds → Wys n (L + M) (ds ++ [(x, ns, d)])
  | _, L, .nil => .cons hx h1 h2 h3 hd .nil (by omega : M + 0 ≤ L + M)
  | _, L, .cons y1 y2 y3 y4 a b h => .cons y1 y2 y3 y4 a (Wys.snoc hx h1 h2 h3 hd b) (by omega)
theorem Tm.pos {n L : Nat} {d : D} (h : Tm n L d) : 1 ≤ L := by
  cases h <;> omega
end M

namespace M
open PySem PySem.Spec PyProof.Rows L2
theorem fvs_strs : ∀ ns : List Str, D.fvs (ns.map D.str) = some (ns.map V.str)
  | [] => rfl
  | s :: ns => by simp only [List.map_cons, D.fvs, D.fv, fvs_strs ns, Option.bind_some]
theorem eqV_str (x y : Str) : eqV (V.str x) (V.str y) = decide (x = y) := by
  show (x == y) = _
  by_cases h : x = y
  · subst h; simp
  · simp [h]
theorem inV_strs (a : Str) : ∀ ns : List Str, inV (V.str a) (ns.map V.str) = decide (a ∈ ns)
  | [] => by simp [inV]
  | s :: ns => by
    have ih := inV_strs a ns
    simp only [inV] at ih
    simp only [inV, List.map_cons, List.any_cons, ih, eqV_str, List.mem_cons, Bool.decide_or]
    congr 1
    exact decide_eq_decide.mpr eq_comm
theorem in_strsL (a : Str) (ns : List Str) : inD (.str a) (.lst (ns.map .str)) = some (.bl (decide (a ∈ ns))) := by
  simp only [inD, inQ, fvs_strs, D.fv, Option.bind_some, Option.map_some, inV_strs]
theorem in_strsT (a : Str) (ns : List Str) : inD (.str a) (.tup (ns.map .str)) = some (.bl (decide (a ∈ ns))) := by
  simp only [inD, inQ, fvs_strs, D.fv, Option.bind_some, Option.map_some, inV_strs]
theorem notIn_strsL (a : Str) (ns : List Str) : notInD (.str a) (.lst (ns.map .str)) = some (.bl (!decide (a ∈ ns))) := by
  simp only [notInD, inQ, fvs_strs, D.fv, Option.bind_some, Option.map_some, inV_strs]
theorem notIn_strsT (a : Str) (ns : List Str) : notInD (.str a) (.tup (ns.map .str)) = some (.bl (!decide (a ∈ ns))) := by
  simp only [notInD, inQ, fvs_strs, D.fv, Option.bind_some, Option.map_some, inV_strs]
theorem in_threeT (a b c d : Str) : inD (.str a) (.tup [.str b, .str c, .str d]) = some (.bl (decide (a = b) || (decide (a = c) || decide (a = d)))) := by
  have := in_strsT a [b, c, d]
  simpa only [List.map_cons, List.map_nil, List.mem_cons, List.not_mem_nil, or_false, Bool.decide_or] using this
theorem in_threeL (a b c d : Str) : inD (.str a) (.lst [.str b, .str c, .str d]) = some (.bl (decide (a = b) || (decide (a = c) || decide (a = d)))) := by
  have := in_strsL a [b, c, d]
  simpa only [List.map_cons, List.map_nil, List.mem_cons, List.not_mem_nil, or_false, Bool.decide_or] using this
/-! ### figures -/
theorem int_free {i : Int} {k : Nat} {x : Str} (hx : x.cps.toList = [k]) (hk : k ≠ 45 ∧ (k < 48 ∨ 57 < k)) : Str.ofString (toString i) ≠ x := by
  intro e
  have := int_text_free' k hk i
  rw [e, hx] at this
  exact this (List.mem_cons_self ..)
theorem int_block {i : Int} : Block [Str.ofString (toString i)] (Str.ofString (toString i)) := by
  refine Block.one ?_ (int_free (k := 41) (by decide +kernel) (by decide))
  simp only [opW]
  rw [decide_eq_false (int_free (k := 40) (by decide +kernel) (by decide)), decide_eq_false (int_free (k := 92) (by decide +kernel) (by decide))]
  rfl
theorem len_ofString (s : String) : (Str.ofString s).length = s.length := by
  rw [Str.ofString_eq_toList]
  simp only [Str.length, List.size_toArray, List.length_map]
  exact String.length_toList
theorem int_len {i : Int} (h0 : 0 ≤ i) (h : i < 10 ^ 20) : (Str.ofString (toString i)).length ≤ 21 := by
  rw [len_ofString]
  exact int_text_length_le10 (k := 20) (by decide) (by omega)
theorem int_log {i : Int} (h0 : 0 ≤ i) (h : i < 10 ^ 20) : i.natAbs.log2 < 1920 := by
  rcases log2_le (k := 100) h0 (by omega) with h | h
  · omega
  · subst h; decide
end M

namespace M
open PySem PySem.Spec PyProof.Rows L2
def wrT (own lvl : Int) (t : Str) : Str := if own < lvl then "(" ++ t ++ ")" else t
def wrW (own lvl : Int) (ws : List Str) : List Str := if own < lvl then [Str.ofString "("] ++ ws ++ [Str.ofString ")"] else ws
theorem wr_block {own lvl : Int} {ws : List Str} {t : Str} (h : Block ws t) : Block (wrW own lvl ws) (wrT own lvl t) := by
  unfold wrW wrT
  split
  · exact h.par
  · exact h
theorem wrT_len {own lvl : Int} {t : Str} : (wrT own lvl t).length ≤ t.length + 2 := by
  unfold wrT
  split
  · rw [Str.length_append, Str.length_append]
    have e1 : (Str.ofString "(").length = 1 := by decide +kernel
    have e2 : (Str.ofString ")").length = 1 := by decide +kernel
    omega
  · omega
theorem wrW_len {own lvl : Int} {t : List Str} : (wrW own lvl t).length ≤ t.length + 2 := by
  unfold wrW
  split
  · simp
  · omega
theorem wrT_pos {own lvl : Int} {t : Str} (h : own < lvl) : wrT own lvl t = "(" ++ t ++ ")" := if_pos h
theorem wrT_neg {own lvl : Int} {t : Str} (h : ¬own < lvl) : wrT own lvl t = t := if_neg h
theorem wrW_pos {own lvl : Int} {t : List Str} (h : own < lvl) : wrW own lvl t = [Str.ofString "("] ++ t ++ [Str.ofString ")"] := if_pos h
theorem wrW_neg {own lvl : Int} {t : List Str} (h : ¬own < lvl) : wrW own lvl t = t := if_neg h
theorem wrW0 {own : Int} {t : List Str} (h : 0 ≤ own) : wrW own 0 t = t := if_neg (by omega)
theorem par1 {t : Str} (h : t.length ≤ 4000000) : (Str.ofString "(").length + t.length ≤ sizeLine := by
  have e1 : (Str.ofString "(").length = 1 := by decide +kernel
  rw [e1]; exact Nat.le_trans (show 1 + t.length ≤ 4000001 by omega) (by decide)
theorem par2 {t : Str} (h : t.length ≤ 4000000) : (Str.ofString "(" ++ t).length + (Str.ofString ")").length ≤ sizeLine := by
  have e1 : (Str.ofString "(").length = 1 := by decide +kernel
  have e2 : (Str.ofString ")").length = 1 := by decide +kernel
  rw [Str.length_append, e1, e2]; exact Nat.le_trans (show 1 + t.length + 1 ≤ 4000002 by omega) (by decide)
theorem line_le {n : Nat} (h : n ≤ 8000000) : n ≤ sizeLine := Nat.le_trans h (by decide)
theorem line_lt {n : Nat} (h : n ≤ 8000000) : n < sizeLine := Nat.lt_of_le_of_lt h (by decide)
theorem join_len (a : Str) : ∀ ss : List Str, (Str.join a ss).length ≤ (ss.map (·.length)).sum + ss.length * a.length
  | [] => by simp [Str.join, Str.empty, Str.length]
  | [x] => by simp [Str.join]
  | x :: y :: r => by
    have := join_len a (y :: r)
    rw [Str.join, Str.length_append, Str.length_append]
    · simp only [List.map_cons, List.sum_cons, List.length_cons, Nat.add_mul] at this ⊢
      omega
    · simp
theorem Block.bs {a : List Str} {s : Str} (h : Block a s) : Block (Str.ofString "\\" :: a) ("\\" ++ s) := by
  intro op rest
  have e1 : opW (Str.ofString "\\") = true := by decide +kernel
  have e3 : ¬ Str.ofString "\\" = Str.ofString ")" := by decide +kernel
  simp only [List.cons_append, fl, e1, e3, decide_false, Bool.or_false]
  rw [h]
  simp only [if_true, nilS, Str.empty_append, Str.append_assoc]
theorem Block.lit {w : String} (h1 : opW w = false := by decide +kernel) (h2 : Str.ofString w ≠ ")" := by decide +kernel) : Block [Str.ofString w] w := Block.one h1 h2
/-- rows with a semicolon between: the words without the first semicolon -/
def semiW : List (List Str) → List Str
  | [] => []
  | [w] => w
  | w :: r => w ++ [Str.ofString ";"] ++ semiW r
theorem semi_drop : ∀ (w : List Str) (r : List (List Str)), ((w :: r).map fun x => Str.ofString ";" :: x).flatten = Str.ofString ";" :: semiW (w :: r)
  | w, [] => by simp [semiW]
  | w, v :: r => by
    have ih := semi_drop v r
    rw [List.map_cons, List.flatten_cons, ih]
    simp [semiW]
theorem Block.semi : ∀ {p : List Str × Str} {ps : List (List Str × Str)}, (∀ q ∈ p :: ps, Block q.1 q.2) → Block (semiW ((p :: ps).map (·.1))) (Str.join " ; " ((p :: ps).map (·.2)))
  | p, [], h => h p (List.mem_cons_self ..)
  | p, q :: ps, h => by
    have ih := Block.semi (p := q) (ps := ps) fun x hx => h x (List.mem_cons_of_mem _ hx)
    have b := ((h p (List.mem_cons_self ..)).app (Block.lit (w := ";"))).app ih
    have e : (Str.ofString " ; ") = Str.ofString " " ++ Str.ofString ";" ++ Str.ofString " " := by decide +kernel
    have e2 : Str.join " ; " ((p :: q :: ps).map (·.2)) = p.2 ++ " ; " ++ Str.join " ; " ((q :: ps).map (·.2)) := rfl
    rw [e2]
    generalize Str.join " ; " ((q :: ps).map (·.2)) = tl at b
    rw [e]
    simp only [List.map_cons] at b ⊢
    simpa only [semiW, Str.append_assoc] using b
theorem cutG1 (s : Str) (w : List Str) : cutG ((s :: w).map D.str) (some 1) none = w.map D.str := by
  simp only [cutG, List.map_cons, List.length_cons]
  simp [HT.sIx]
  exact List.take_of_length_le (by simp)
end M

namespace M
open PySem PySem.Spec PyProof.Rows L2
section
variable (s : Sl) (e : Sls)
theorem c_bStar (k : Nat) (bs : FGs) (d : D) : bStar k bs (s :: e) d = match d with | .tup ds => if k ≤ ds.length then bs (s :: e) (ds.take k ++ [.lst (ds.drop k)]) else none | _ => none := rfl
theorem c_sPar (i j : Nat) (f : FEs) : sPar i j f (s :: e) = (f (s :: e)).bind fun p => match p.2 with
  | [a, b] => some ((p.1.set i (.im a)).set j (.im b), .nx)
  | _ => none := rfl
theorem c_fO (f : Sls → Option (Sls × Sl)) : fO f (s :: e) = (f (s :: e)).bind fun p => p.2.see.bind fun d => some (p.1, d) := rfl
theorem c_oDic (fs : List (FE × FE)) : oDic fs (s :: e) = (fPairs fs (s :: e)).bind fun p => some (p.1, .dic (mergeG p.2)) := rfl
theorem c_fPairs0 : fPairs [] (s :: e) = some (s :: e, []) := rfl
theorem c_fPairs1 (k v : FE) (r : List (FE × FE)) : fPairs ((k, v) :: r) (s :: e) = (k (s :: e)).bind fun p => (v p.1).bind fun q => p.2.key.bind fun k => (fPairs r q.1).bind fun t => some (t.1, (k, q.2) :: t.2) := rfl
theorem c_fGet2 (ko : FK) (kk : FK) (kd : FE) : fGet2 ko kk kd (s :: e) = (ko (s :: e)).bind fun p => (kk p.1).bind fun q => (kd q.1).bind fun r => match p.2 p.1 with
  | some (.dic _) => match p.2 r.1 with
    | some (.dic es) => (q.2 r.1).bind fun k => k.key.bind fun k => match lookK k es with
      | some d => some (r.1, d)
      | none => some (r.1, r.2)
    | _ => none
  | _ => none := rfl
theorem c_sWhile (n : Nat) (c : FT) (b : FS) : sWhile n c b (s :: e) = whileN c b n (s :: e) := rfl
end
theorem key_str (a : Str) : D.key (.str a) = some (.inr a) := rfl
theorem key_int (a : Int) : D.key (.int a) = some (.inl a) := rfl
theorem merge_def (es : List (Key × D)) : mergeG es = es.foldl (fun acc kv => putG acc kv.1 kv.2) [] := rfl
theorem putG_nil (k : Key) (v : D) : putG [] k v = [(k, v)] := rfl
theorem w_while {c : FT} {body : FS} (Inv : Nat → Sls → Prop) {Q : Sls → Fl → Prop}
    (hs : ∀ m e, Inv m e → W (c e) fun e' b => if b = true then W (body e') (fun e2 fl => match fl with | .nx => ∃ k, k < m ∧ Inv k e2 | .ct => ∃ k, k < m ∧ Inv k e2 | .bk => Q e2 .nx | .rt d => Q e2 (.rt d) | .ro t => Q e2 (.ro t)) else Q e' .nx) :
    ∀ {n m : Nat} {e : Sls}, m < n → Inv m e → W (whileN c body n e) Q
  | 0, m, e, h, _ => by omega
  | n + 1, m, e, h, i => by
    obtain ⟨e1, b, h1, h2⟩ := hs m e i
    rw [whileN, h1, Option.bind_some]
    by_cases hb : b = true
    · simp only [hb, if_true] at h2 ⊢
      obtain ⟨e2, fl, h3, h4⟩ := h2
      rw [h3, Option.bind_some]
      cases fl with
      | nx => obtain ⟨k, hk, i2⟩ := h4; exact w_while Inv hs (show k < n by omega) i2
      | ct => obtain ⟨k, hk, i2⟩ := h4; exact w_while Inv hs (show k < n by omega) i2
      | bk => exact ⟨_, _, rfl, h4⟩
      | rt d => exact ⟨_, _, rfl, h4⟩
      | ro d => exact ⟨_, _, rfl, h4⟩
    · simp only [hb, if_false] at h2 ⊢
      exact ⟨_, _, rfl, h2⟩
end M

namespace M
open PySem PySem.Spec PyProof.Rows L2
open AutoSeq1 (wpAny_loadPart')
/-! ### enumerate(tuple) -/
theorem meets_enumT (l : Addr) (items : Array Value) (n : Nat) (dct : Option Addr) (sl : Array (Option Value)) :
    Meets (Builtin.«enumerate.__new__» ⟨[.type "enumerate", .ref l], []⟩) (fun _ R s => s.heap.get? l = some { cls := .type "tuple", dict := dct, data := .seq items n, slots := sl } ∧
      R (.ok (.ret (.ref (s.heap.push { cls := .type "tuple_iterator", data := .fields #[.ref l, .int 0 0] }).objs.size)))
        { s with heap := (s.heap.push { cls := .type "tuple_iterator", data := .fields #[.ref l, .int 0 0] }).push { cls := .type "enumerate", data := .fields #[.none, .bool false, .ref s.heap.objs.size, rawInt 0, .none, .none] } }) :=
  .of_wp fun prog w A R s h => by
    obtain ⟨hp, g, d, tk, os⟩ := s; obtain ⟨hl, h⟩ := h
    have hsub := sub_enumerate
    have hL : Heap.IsTuple (Shared.heap ⟨hp, g, d, tk, os⟩) l items := ⟨_, hl, rfl, n, rfl⟩
    wp_walk using wpAny_loadPart' hl
    refine wpAny_stack_any fun st => wpAny_pure ?_
    split
    · rename_i c _ _ _ _ _
      cases (c == Value.type "enumerate")
      · wp_walk using wpAny_loadPart' hl, wpAny_pyIter_tuple hL
        exact ⟨_, rfl, h⟩
      · wp_walk using wpAny_loadPart' hl, wpAny_pyIter_tuple hL
        exact ⟨_, rfl, h⟩
    · wp_walk using wpAny_loadPart' hl, wpAny_pyIter_tuple hL
      exact ⟨_, rfl, h⟩
section
variable {prog : Program} {w : World} {A : Around} {E : Value → Shared → Prop} {s : Shared}
theorem call_enumT {l : Addr} {items : Array Value} {Q : Value → Shared → Prop} (hL : s.heap.IsTuple l items)
    (h : ∀ h', IsEnum h' (s.heap.objs.size + 1) s.heap.objs.size 0 .none → h'.IsTupleIter s.heap.objs.size l 0 → h'.objs.size = s.heap.objs.size + 2 →
      (∀ b o, s.heap.get? b = some o → h'.get? b = some o) → Q (.ref (s.heap.objs.size + 1)) { s with heap := h' }) :
    wpAny (model prog w) A (call (.type "enumerate") [.ref l]) Q E s := by
  obtain ⟨⟨c, dct, dt, sl⟩, hl, hc, n, hd⟩ := hL
  replace hc : c = .type "tuple" := hc
  replace hd : dt = .seq items n := hd
  subst hc hd
  refine callType_new F.called_enumerate (by decide) (F.typeCall_enumerate_1 _) (F.newCall_enumerate_1 _) (fun obj => F.args_object_init_2 obj _) F.entry_enumerate_new
    (meets_enumT l items n dct sl) ⟨hl, ?_⟩
  have hz : (s.heap.push { cls := .type "tuple_iterator", data := .fields #[.ref l, .int 0 0] }).objs.size = s.heap.objs.size + 1 := Heap.size_push ..
  show _ ∧ _
  rw [hz]
  have he : IsEnum ((s.heap.push { cls := .type "tuple_iterator", data := .fields #[.ref l, .int 0 0] }).push
      { cls := .type "enumerate", data := .fields #[.none, .bool false, .ref s.heap.objs.size, rawInt 0, .none, .none] }) (s.heap.objs.size + 1) s.heap.objs.size 0 .none := by
    have := Heap.get?_push_size (s.heap.push { cls := .type "tuple_iterator", data := .fields #[.ref l, .int 0 0] })
      (o := { cls := .type "enumerate", data := .fields #[.none, .bool false, .ref s.heap.objs.size, rawInt 0, .none, .none] }) rfl
    rw [hz] at this; exact this
  refine ⟨⟨_, he, rfl⟩, h _ he ⟨_, Heap.get?_push_of_some _ (Heap.get?_push_size _ rfl), rfl, rfl⟩ (by rw [Heap.size_push, hz]) fun b o x => Heap.get?_push_of_some _ (Heap.get?_push_of_some _ x)⟩
end
end M

namespace M
open PySem PySem.Spec PyProof.Rows L2
def IteT (K : PySem.W.Frag) (a : Addr) : It :=
  ⟨fun i H => ∃ (xs : List V) (x : V), SqT K H a xs ∧ xs[i]? = some x, fun i H v H' => ∃ T x, v = .ref T ∧ H T = none ∧ H' = upd H T (.tup [.int (i : Nat), x]) ∧ ∀ xs, SqT K H a xs → xs[i]? = some x, fun i H => ∃ xs : List V, SqT K H a xs ∧ xs.length ≤ i⟩
section
variable {prog : Program} {w : World} {A : Around} {E : Value → Shared → Prop} {s : Shared}
theorem enum_endT {e it t : Addr} {i : Nat} {items : Array Value} {c : Int} {old : Value} {Q : Option Value → Shared → Prop} (hh : A.handled = none)
    (he : IsEnum s.heap e it c old) (hit : s.heap.IsTupleIter it t i) (ht : s.heap.IsTuple t items) (hx : items[i]? = none)
    (hQ : ∀ h', Heap.ExtBut it s.heap h' → Q none { s with heap := h' }) : wpAny (model prog w) A (pyNext (.ref e)) Q E s := by
  have hT : s.TypeIs (.ref e) "enumerate" := ⟨_, he, rfl⟩
  unfold pyNext
  refine wpAny_bind (wpAny_attempt (wpAny_callSpecial?_slot (name := Str.ofString "__next__") hT F.slot_enumerate_next
    (wpAny_call_entry F.slot_enumerate_next hT F.entry_enumerate_next ?_ (F.args_enumerate_next_1 _))))
  show wpAny _ _ (field (.ref e) 2 >>= _) _ _ _
  refine wpAny_bind (wpAny_field he rfl (x := .ref it) rfl ?_)
  refine wpAny_bind (wpAny_nextOf_tuple_end (A := A.in1) hh hit ht hx fun h' x he' hx' => ?_)
  obtain ⟨o, ho, hc⟩ := hx'
  refine wpAny_bind (wpAny_isInstance (T := "StopIteration") (b := true) ⟨o, ho, hc⟩ isSubtype_stop ?_)
  exact wpAny_pure (hQ _ he')
end
theorem turn_enumT {P : Program} {w : World} {K : PySem.W.Frag} {elts : List Expr} {kk : Nat} {tpos : Pos} (a e it : Addr) :
    Turn P w K (.Tuple elts kk tpos) (IteT K a) [e, it] e (fun i h => (∃ old, IsEnum h e it ((i : Nat) : Int) old) ∧ h.IsTupleIter it a i ∧ e ≠ it ∧ a ≠ it ∧ a ≠ e) where
  mem := by simp
  obj := fun i h st b hb => by
    obtain ⟨⟨old, he⟩, ⟨o, ho, hc, hd⟩, _⟩ := st
    have e' : b = e ∨ b = it := by simpa using hb
    rcases e' with z | z
    · rw [z]; exact ⟨_, he, fun v q => nomatch q⟩
    · rw [z]; exact ⟨o, ho, fun v q => by rw [hd] at q; cases q⟩
  keep := fun i h h' st k => let ⟨⟨old, he⟩, hi, hne⟩ := st; ⟨⟨old, k e (by simp) _ he⟩, hi.at fun o q => k it (by simp) o q, hne⟩
  item := by
    intro X hP hw hK hc i pins s σ H E I hf st hg
    subst hP hw hK
    obtain ⟨⟨old, he⟩, hit, hne, ha1, ha2⟩ := st
    obtain ⟨xs, x, hq, hx⟩ := hg
    obtain ⟨its, rv, p, hz⟩ := I.tuple hq
    obtain ⟨u, hu, ru⟩ := rv.get hx
    have hel : e < s.heap.objs.size := Heap.lt_size he
    have hil : it < s.heap.objs.size := by obtain ⟨_, q, _⟩ := hit; exact Heap.lt_size q
    have hlt : i < its.toArray.size := by
      rw [List.size_toArray]
      exact (List.getElem?_eq_some_iff.mp hu).1
    refine wpAny_pyNext_enum_itemD (Draws.tuple (prog := X.prog) (w := X.w) (A := X.A.in1) (I.ok.hd hc) it a ha1 its.toArray) he ⟨hit, p⟩ hlt hne (by simp [hne, Ne.symm ha2]) fun y h' tk hy ho hit' hT hsz hk => ?_
    have ey : y = u := by
      have : its.toArray[i]? = some u := by simpa using hu
      rw [this] at hy; exact (Option.some.inj hy).symm
    subst ey
    refine ⟨_, rfl, wpAny_letOwnedTupleGo_enum (s := { s with heap := h', toks := tk + 1 }) ho fun h'' he' sb => ?_⟩
    have hT2 : h''.get? s.heap.objs.size = some { cls := .type "tuple", data := .seq #[.int i tk, y] } := (sb.2 _ (Nat.ne_of_gt hel)).trans hT
    have new : ObjOk X.prog X.w (upd H s.heap.objs.size (.tup [.int (i : Nat), x])) h'' s.heap.objs.size (.tup [.int (i : Nat), x]) :=
      ⟨by show 2 ≤ sizeLine; decide, [.int i tk, y], .cons ⟨_, rfl⟩ (.cons ru .nil), ⟨_, hT2, rfl, _, rfl⟩⟩
    have I1 : Inv X pins σ (upd H s.heap.objs.size (.tup [.int (i : Nat), x])) { s with heap := h'', toks := tk + 1 } :=
      I.turnedNew (ch := [e, it]) (fun b ob hb q => (sb.2 b (fun z => hb (by simp [z]))).trans (hk b ob (fun z => hb (by simp [z])) (fun z => hb (by simp [z])) q)) hf (Nat.le_refl _) new
    refine ⟨.ref s.heap.objs.size, _, I1, rfl, ⟨_, x, rfl, I.hok.fresh (Nat.le_refl _), rfl, fun ys hy => by rw [I.tuple_inj hy hq]; exact hx⟩, ⟨⟨y, ?_⟩, hit'.1.at fun o q => (sb.2 it (Ne.symm hne)).trans q, hne, ha1, ha2⟩, fun b hb => ?_⟩
    · have e1 : ((i + 1 : Nat) : Int) = (i : Int) + 1 := by omega
      rw [e1]; exact he'
    · have hb' : b < s.heap.objs.size := by
        have e' : b = e ∨ b = it := by simpa using hb
        rcases e' with z | z
        · rw [z]; exact hel
        · rw [z]; exact hil
      rw [upd_ne (Nat.ne_of_lt hb')]
      exact (hf b hb).1
  done := by
    intro X hP hw hK hc i pins s σ H E I hf st hg
    subst hP hw hK
    obtain ⟨⟨old, he⟩, hit, hne, ha1, ha2⟩ := st
    obtain ⟨xs, hq, hx⟩ := hg
    obtain ⟨its, rv, p, hz⟩ := I.tuple hq
    obtain ⟨f0, f1, f2, f3, f4, f5⟩ := hf it (by simp)
    have hl := rv.length
    exact enum_endT (I.ok.hd hc) he hit p (by simp; omega) fun h' eb => ⟨rfl, I.turned (t' := s.toks) (fun b o hb q => eb b o hb q) f0 f1 f3 f4 f5⟩
  self := fun A i s Q E st h => let ⟨⟨_, he⟩, _⟩ := st; wpAny_pyIter_enum he h
theorem walk_enumT {K : PySem.W.Frag} {a : Addr} {xs : List V} : Walk (IteT K a) xs.length (fun H => SqT K H a xs) (YPair (fun i => some (.int (i : Nat))) (fun i => xs[i]?)) := by
  refine ⟨fun i _ hi q => ⟨xs, xs[i], q, by simp [hi]⟩, fun _ q => ⟨xs, q, Nat.le_refl _⟩, fun i H v H' _ q y => ?_⟩
  obtain ⟨T, x, h1, h2, h3, h4⟩ := y
  exact ⟨T, .int (i : Nat), x, h1, h2, h3, rfl, h4 xs q⟩
def iEnumT (K : PySem.W.Frag) (ta : TA) : TI := fun σ H R => ta σ H fun vs H1 => ∃ a xs, vs = [.ref a] ∧ SqT K H1 a xs ∧ R (IteT K a) H1
theorem pi_enumT {X : Cx} {e : Expr} {ta : TA} {p pos tpos : Pos} {elts : List Expr} {kk : Nat} (hg : Gl X "enumerate") (hm : X.mg "enumerate" = none) (ha : PA X [e] ta) (hs : starEach [e] X.env = [(false, eval e X.env)] := by rfl) :
    PI X (.Tuple elts kk tpos) (.Call (.Name "enumerate" p) [e] [] pos) (iEnumT X.K ta) := by
  refine ⟨fun pins s σ H R I h => ?_⟩
  refine Call_ (ld_blt I hg hm boot_enumerate (PyProof.Rows.callWith_type1 (thn (ha.run pos pins s σ H _ I h) fun us s1 ⟨vs, H1, I1, r1, q1⟩ => ?_) hs rfl))
  obtain ⟨a, xs, ex, hq, q⟩ := q1
  subst ex
  cases r1 with
  | cons r rr =>
    cases rr
    cases r
    obtain ⟨its, rv, p', hz⟩ := I1.tuple hq
    have hla : a < s1.heap.objs.size := by obtain ⟨o, ho, _⟩ := p'; exact Heap.lt_size ho
    refine call_enumT p' fun h' he hit hsz hk => wpAny_pyIter_enum he ?_
    have I2 : Inv X pins σ H1 { s1 with heap := h' } := I1.kept (t' := s1.toks) hk
    refine ⟨s1.heap.objs.size + 1, [s1.heap.objs.size + 1, s1.heap.objs.size], _, _, H1, rfl, I2, turn_enumT a (s1.heap.objs.size + 1) s1.heap.objs.size, ⟨⟨.none, he⟩, hit, Nat.succ_ne_self _, Nat.ne_of_lt hla, Nat.ne_of_lt (Nat.lt_succ_of_lt hla)⟩, fun b hb => ?_, q⟩
    have e' : b = s1.heap.objs.size + 1 ∨ b = s1.heap.objs.size := by simpa using hb
    have hle : s1.heap.objs.size ≤ b := by
      rcases e' with z | z
      · rw [z]; exact Nat.le_add_right _ _
      · rw [z]; exact Nat.le_refl _
    exact I1.fpOk hle (I1.hok.fresh hle)
def fEnumX (k : FEs) : FI := fun e => (k e).bind fun p => match p.2 with
  | [.lst xs] => some (p.1, numbered xs)
  | [.tup xs] => some (p.1, numbered xs)
  | _ => none
def iEnumX (K : PySem.W.Frag) (ta : TA) : TI := fun σ H R => iEnum K ta σ H R ∨ iEnumT K ta σ H R
section
variable {X : Cx} {np : Nat}
theorem ji_enumX {tg a : Expr} {ta : TA} {p pos : Pos} {n : Nat} {k : FEs} (ha : JEs X np [a] n ta k) (hz : PI X tg (.Call (.Name "enumerate" p) [a] [] pos) (iEnum X.K ta)) (hz2 : PI X tg (.Call (.Name "enumerate" p) [a] [] pos) (iEnumT X.K ta)) : JI X np tg (.Call (.Name "enumerate" p) [a] [] pos) (iEnumX X.K ta) (fEnumX k) := by
  refine ⟨pi_or hz hz2, fun B F e σ H R hn I e' ds hf q => ?_⟩
  obtain ⟨⟨e1, l⟩, h1, hf⟩ := bnd hf
  match l, h1, hf with
  | [.lst xs], h1, hf => exact .inl ((ji_enum ha hz).de B F e σ H R hn I e' ds (by simp only [fEnum, h1, Option.bind_some]; exact hf) q)
  | [.tup xs], h1, hf =>
    refine .inr (ha.de B F e σ H _ hn I e1 _ h1 fun F' vs H' s I' r _ => ?_)
    cases hf
    cases r with
    | cons r1 r2 =>
      cases r2
      cases r1 with
      | tup a1 a2 =>
        rename_i pa us _
        refine ⟨pa, us, rfl, sqt_mono I'.sf a1, q F' _ H' s I' (itOk_pairs (xs := fun i => some (.int (i : Nat))) (ys := fun i => us[i]?) (fun H0 _ => ?_) fun i hi x y e1 e2 => ?_)⟩
        · rw [numbered_length, ← a2.length]
          exact (walk_enumT (a := pa) (K := X.K)).mono (fun H h => sqt_mono h a1) fun _ _ _ _ _ _ h => h
        · obtain ⟨d, g1, g2⟩ := a2.get e2
          rw [numbered_length] at hi
          cases e1
          refine ⟨.int (i : Nat), d, pairs_get _ _ _ _ _ ?_ g1, .int _, g2⟩
          rw [ints_get hi]
          simp
theorem jenumX {K : PySem.W.Frag} {e1 : Expr} {n kk : Nat} {elts : List Expr} {p pos tpos : Pos} {ta : TA} {k : FEs} (hg : Gl X "enumerate") (hm : X.mg "enumerate" = none) (ha : JEs X np [e1] n ta k) (hs : starEach [e1] X.env = [(false, eval e1 X.env)] := by rfl) (hK : X.K = K := by rfl) :
    JI X np (.Tuple elts kk tpos) (.Call (.Name "enumerate" p) [e1] [] pos) (iEnumX K ta) (fEnumX k) := by
  subst hK
  exact ji_enumX ha (pi_enum hg hm ha.pa hs) (pi_enumT hg hm ha.pa hs)
end
theorem c_fEnumX (k : FEs) (s : Sl) (e : Sls) : fEnumX k (s :: e) = (k (s :: e)).bind fun p => match p.2 with
  | [.lst xs] => some (p.1, numbered xs)
  | [.tup xs] => some (p.1, numbered xs)
  | _ => none := rfl
end M

set_option maxHeartbeats 4000000
/-! ### sorted of texts, any number of them -/
namespace SrtO
open PySem PyProof.Rows Srt
section
variable {prog : Program} {w : World} {A : Around} {E : Value → Shared → Prop} {s : Shared}
def sv : Value → PySem.Str
  | .str x _ => x
  | _ => PySem.Str.empty
def ltL (a b : List Nat) : Bool := decide (a < b)
def ltSv (v u : Value) : Bool := decide ((sv v).cps.toList < (sv u).cps.toList)
theorem swo_str : Swo ltSv := by
  refine ⟨fun x y h => ?_, fun x y z h1 h2 => ?_⟩
  · exact decide_eq_false (List.lt_asymm (of_decide_eq_true h))
  · have a := of_decide_eq_false (p := (sv y).cps.toList < (sv x).cps.toList) h1
    have b := of_decide_eq_false (p := (sv z).cps.toList < (sv y).cps.toList) h2
    refine decide_eq_false fun c => ?_
    have a' : (sv x).cps.toList ≤ (sv y).cps.toList := a
    have b' : (sv y).cps.toList ≤ (sv z).cps.toList := b
    exact (List.le_trans a' b') c
theorem strs_mem : ∀ {vs : List Value} {ns : List PySem.Str}, StrsAre vs ns → ∀ v ∈ vs, ∃ i t, v = Value.str i t
  | _, _, .nil, v, h => absurd h (by simp)
  | _, _, .cons n t r, v, h => by
    rcases List.mem_cons.mp h with e | h
    · exact ⟨n, t, e⟩
    · exact strs_mem r v h
theorem strs_sv : ∀ {vs : List Value}, (∀ v ∈ vs, ∃ i t, v = Value.str i t) → StrsAre vs (vs.map sv)
  | [], _ => .nil
  | v :: vs, h => by
    obtain ⟨i, t, e⟩ := h v List.mem_cons_self
    subst e
    exact .cons i t (strs_sv fun u hu => h u (List.mem_cons_of_mem _ hu))
theorem sv_strs : ∀ {vs : List Value} {ns : List PySem.Str}, StrsAre vs ns → vs.map sv = ns
  | _, _, .nil => rfl
  | _, _, .cons n t r => congrArg (n :: ·) (sv_strs r)
theorem str_cmp {vs : List Value} {ns : List PySem.Str} (hI : StrsAre vs ns) : Cmp prog w A s oneType' (fun p => p.1 ∈ vs) (lt2 ltSv) := by
  intro p q hm hm'
  obtain ⟨a, t, e⟩ := strs_mem hI _ hm
  obtain ⟨b, u, e'⟩ := strs_mem hI _ hm'
  show wpAny (model prog w) A (keyLt' oneType' p.1 q.1) (fun r s' => s' = s ∧ r = ltSv p.1 q.1) (fun _ _ => False) s
  rw [e, e', keyLt'_oneType]
  exact oneLt_str ⟨rfl, rfl⟩
theorem strs_sortable {a : Addr} {vs : List Value} {ns : List PySem.Str} (hI : StrsAre vs ns) (h2 : 2 ≤ vs.length) : SortableO prog w A s a vs ltSv := by
  intro h' _
  refine ⟨oneType', fun Q E hq => ?_, str_cmp hI⟩
  match vs, hI, h2 with
  | v1 :: v2 :: rest, hI, _ =>
    match ns, hI with
    | n1 :: n2 :: ns, hI =>
      rw [keyKind_strs hI]
      exact wpAny_pure hq
  | [], _, h => exact absurd h (by decide)
  | [v], _, h => exact absurd h (by simp)
theorem strs_out {vs out : List Value} {ns : List PySem.Str} (hI : StrsAre vs ns) (hs : Srtd ltSv out) (hb : Stb ltSv out vs) : StrsAre out (out.map sv) ∧ (out.map sv).Perm ns ∧ (out.map sv).Pairwise (fun a b => a.cps.toList ≤ b.cps.toList) := by
  refine ⟨strs_sv fun v hv => strs_mem hI v (hb.perm.mem_iff.mp hv), ?_, ?_⟩
  · have q := hb.perm.map sv
    rw [sv_strs hI] at q
    exact q
  · exact List.pairwise_map.mpr (hs.imp fun {x y} h => of_decide_eq_false (p := (sv y).cps.toList < (sv x).cps.toList) h)
end
end SrtO
namespace M
open PySem PySem.Spec PyProof.Rows L2
def leS (a b : Str) : Prop := a.cps.toList ≤ b.cps.toList
instance (a b : Str) : Decidable (leS a b) := inferInstanceAs (Decidable (a.cps.toList ≤ b.cps.toList))
def insS (x : Str) : List Str → List Str
  | [] => [x]
  | y :: r => if leS x y then x :: y :: r else y :: insS x r
def sortS : List Str → List Str
  | [] => []
  | x :: r => insS x (sortS r)
theorem leS_trans {a b c : Str} (h : leS a b) (g : leS b c) : leS a c := List.le_trans h g
theorem leS_total (a b : Str) : leS a b ∨ leS b a := List.le_total _ _
theorem leS_antisymm {a b : Str} (h : leS a b) (g : leS b a) : a = b := by
  apply Str.ext'
  exact Array.toList_inj.mp (List.le_antisymm h g)
theorem insS_perm (x : Str) : ∀ r : List Str, (insS x r).Perm (x :: r)
  | [] => .refl _
  | y :: r => by
    rw [insS]
    split
    · exact .refl _
    · exact ((insS_perm x r).cons y).trans (.swap x y r)
theorem sortS_perm : ∀ r : List Str, (sortS r).Perm r
  | [] => .refl _
  | x :: r => (insS_perm x _).trans ((sortS_perm r).cons x)
theorem insS_sorted (x : Str) : ∀ {r : List Str}, r.Pairwise leS → (insS x r).Pairwise leS
  | [], _ => by simp [insS]
  | y :: r, h => by
    rw [List.pairwise_cons] at h
    rw [insS]
    split
    · rename_i hx
      refine List.pairwise_cons.mpr ⟨fun z hz => ?_, List.pairwise_cons.mpr h⟩
      rcases List.mem_cons.mp hz with rfl | hz
      · exact hx
      · exact leS_trans hx (h.1 z hz)
    · rename_i hx
      refine List.pairwise_cons.mpr ⟨fun z hz => ?_, insS_sorted x h.2⟩
      rcases List.mem_cons.mp ((insS_perm x r).mem_iff.mp hz) with rfl | hz
      · exact (leS_total z y).resolve_left hx
      · exact h.1 z hz
theorem sortS_sorted : ∀ r : List Str, (sortS r).Pairwise leS
  | [] => .nil
  | x :: r => insS_sorted x (sortS_sorted r)
theorem sorted_unique : ∀ {xs ys : List Str}, xs.Perm ys → xs.Pairwise leS → ys.Pairwise leS → xs = ys
  | [], ys, h, _, _ => (List.nil_perm.mp h).symm
  | x :: xs, [], h, _, _ => absurd h.length_eq (by simp)
  | x :: xs, y :: ys, h, h1, h2 => by
    rw [List.pairwise_cons] at h1 h2
    have e : x = y := by
      rcases List.mem_cons.mp (h.mem_iff.mp (List.mem_cons_self ..)) with e | m1
      · exact e
      · rcases List.mem_cons.mp (h.mem_iff.mpr (List.mem_cons_self (a := y))) with e | m2
        · exact e.symm
        · exact leS_antisymm (h1.1 y m2) (h2.1 x m1)
    subst e
    rw [sorted_unique (List.Perm.cons_inv h) h1.2 h2.2]
theorem sortS_eq {xs ys : List Str} (h : ys.Perm xs) (s : ys.Pairwise leS) : ys = sortS xs := sorted_unique (h.trans (sortS_perm xs).symm) s (sortS_sorted xs)
/-- sorted(xs) of a list of texts; sorted(d) of a dict whose keys are texts -/
def rSortedX (K : PySem.W.Frag) : List V → Hp → VK → Prop := fun vs H Q => (∃ (a : Addr) (ss : List Str), vs = [V.ref a] ∧ SqL K H a (ss.map V.str) ∧ ∀ p : Addr, H p = none → Q (.ref p) (upd H p (.lst ((sortS ss).map V.str)))) ∨
  (∃ (a : Addr) (kvs : List (Key × V)) (ks : List Str), vs = [V.ref a] ∧ Rd H a (.dK kvs) ∧ kvs.map (·.1) = ks.map Sum.inr ∧ ∀ p : Addr, H p = none → Q (.ref p) (upd H p (.lst ((sortS ks).map V.str))))
theorem cr_sortedX {X : Cx} (hcalm : X.calm = true) : CallR X (.builtin "sorted") (rSortedX X.K) := by
  intro pins s σ H vs us Q I r h
  rcases h with ⟨a, ss, rfl, hs, q⟩ | ⟨a, kvs, ks, rfl, hd, hks, q⟩
  · obtain ⟨its, rv, hl, hz⟩ := I.list hs
    rw [Vals.ref1 r]
    have hi := rv.strs
    refine SrtO.sorted_ord SrtO.swo_str hl.isList (by rw [← rv.length]; exact hz) (fun h2 h₁ a' _ _ => SrtO.strs_sortable hi h2) fun out h1 h2 => ?_
    obtain ⟨k1, k2, k3⟩ := SrtO.strs_out hi h1 h2
    have ke : out.map SrtO.sv = sortS ss := sortS_eq k2 k3
    obtain ⟨ep, he'⟩ := PyProof.Rows.sortedAll_at s.heap its out.toArray
    have hlen : ((sortS ss).map V.str).length ≤ sizeLine := by
      rw [List.length_map, (sortS_perm ss).length_eq]
      rw [List.length_map] at hz
      exact hz
    rw [ke] at k1
    exact ⟨.ref _, upd H (s.heap.objs.size + 1) (.lst ((sortS ss).map V.str)), I.laid (t' := s.toks) (fun _ _ => PyProof.Rows.sortedAll_old) (Nat.le_succ _) ⟨hlen, out, ep, vals_of_strs k1, he'⟩, rfl, q _ (I.hok.fresh (Nat.le_succ _))⟩
  · rw [Vals.ref1 r]
    obtain ⟨z, lo, vs, rel, dd⟩ := dk_rd I.hok hd
    obtain ⟨ep, hat⟩ := dd.dictAt
    have hkeys : vs.map (·.1) = ks.map Sum.inr := rel.keys.symm.trans hks
    have hl : vs.length = ks.length := by
      have e := congrArg List.length hkeys
      rw [List.length_map, List.length_map] at e
      exact e
    have h16 : vs.length ≤ sizeLine := by rw [← rel.length]; exact z
    refine Calls.call_function_entry PyProof.Rows.kind_sorted PyProof.Rows.plain_sorted PyProof.Rows.entry_sorted (PyProof.Rows.args_sorted1 _) ?_
    unfold Builtin.«sorted»
    refine wpAny_bind (m := checkCount "sorted" 1 1 _) (wpAny_pure ?_)
    refine wpAny_bind (PySem.W.kdu_collect (A := X.A.in1) (PySem.W.kdl_dict (knd := mixKind X.prog X.w) (kvs := vs) (ep := ep) lo) (I.ok.hd hcalm) hat h16 fun h' tk acc hk hacc => ?_)
    have hal : acc.toList.length = ks.length := by rw [Array.length_toList, hacc.1, hl]
    have hS : StrsAre acc.toList ks := strs_at hal fun j v e => by
      obtain ⟨k, x, e1, e2⟩ := hacc.2 j v (by rw [← Array.getElem?_toList]; exact e)
      have e3 : (vs.map (·.1))[j]? = some k := by rw [List.getElem?_map, e1]; all_goals rfl
      rw [hkeys, List.getElem?_map] at e3
      cases e4 : ks[j]? with
      | none => rw [e4] at e3; cases e3
      | some y =>
        rw [e4] at e3
        have e5 : Sum.inr y = k := Option.some.inj e3
        subst e5
        obtain ⟨t, ev⟩ := Value.isStrOf_shape (x := y) (v := v) e2
        exact ⟨y, t, rfl, ev⟩
    have I1 : Inv X pins σ H { s with heap := h', toks := tk } := I.kept hk
    refine wpAny_bind (wpAny_newList ?_ (by rw [hal, ← hl]; exact h16))
    have hoL : (h'.push (seqObj "list" acc.toList.toArray 0)).get? h'.objs.size = some (seqObj "list" acc.toList.toArray 0) := Heap.get?_push_size _ rfl
    show wpAny _ _ _ _ _ { s with heap := h'.push (seqObj "list" acc.toList.toArray 0), toks := tk }
    refine wpAny_bind (wpAny_holding (wpAny_call_entry PyProof.Rows.slot_list_sort ⟨_, hoL, rfl⟩ PyProof.Rows.entry_list_sort
      (SrtO.list_sort_ord (s := { s with heap := h'.push (seqObj "list" acc.toList.toArray 0), toks := tk }) SrtO.swo_str hoL (by rw [hal, ← hl]; exact h16) (fun h2 => SrtO.strs_sortable hS h2) fun out hs hb => ⟨_, rfl, ?_⟩)
      (PyProof.Rows.args_list_sort _)))
    obtain ⟨k1, k2, k3⟩ := SrtO.strs_out hS hs hb
    have ke : out.map SrtO.sv = sortS ks := sortS_eq k2 k3
    rw [ke] at k1
    obtain ⟨e', he'⟩ := PyProof.Rows.sortedHeap_at (vs := acc.toList) (out := out.toArray) hoL
    have hlen : ((sortS ks).map V.str).length ≤ sizeLine := by
      rw [List.length_map, (sortS_perm ks).length_eq, ← hl]
      exact h16
    refine wpAny_pure ⟨_, rfl, .ref h'.objs.size, upd H h'.objs.size (.lst ((sortS ks).map V.str)), I1.laid (t' := tk) (fun b u e => ?_) (Nat.le_refl _)
      (show ObjOk X.prog X.w _ _ _ (.lst ((sortS ks).map V.str)) from ⟨hlen, out, e', vals_of_strs k1, he'⟩), rfl, q _ (I1.hok.fresh (Nat.le_refl _))⟩
    have hb : b < h'.objs.size := Heap.lt_size e
    rw [PyProof.Rows.sortedHeap_old (Nat.ne_of_lt hb) (by rw [size_push']; exact Nat.lt_succ_of_lt hb)]
    exact Heap.get?_push_of_some _ e
end M

namespace M
open PySem PySem.Spec PyProof.Rows L2
/-! ### what a built-in lays anew, as one's own -/
def CallOw (K : PySem.W.Frag) (r : List V → Hp → VK → Prop) (g : List D → Option Sl) : Prop :=
  ∀ (B : Bs) (F : Hp) (e : Sls) (σ : L2.St) (H : Hp) (xs : List V) (ds : List D) (s : Sl) (Q : VK), IV K B F e σ H → RpOs K F H xs ds → g ds = some s →
    (∀ (p : Addr) (o : HO), H p = none → Ow K F (upd H p o) p s → Q (.ref p) (upd H p o)) → r xs H Q
def oCB (g : List D → Option Sl) (k : FKs) : Sls → Option (Sls × Sl) := fun e => (k e).bind fun p => (p.2 p.1).bind fun ds => (g ds).bind fun d => some (p.1, d)
section
variable {X : Cx} {np : Nat} {ex : Expr} {es : List Expr} {t : TA} {ks : FKs} {pos : Pos}
theorem dow_cb {K : PySem.W.Frag} {r : List V → Hp → VK → Prop} {g : List D → Option Sl} (h : DKs K np t ks) (hm : CallOw K r g) : DOw K np (tCB r t) (oCB g ks) := by
  intro B F e σ H Q hn I e' s hf q
  obtain ⟨⟨e1, ra⟩, h1, hf⟩ := bnd hf
  obtain ⟨x, h3, hf⟩ := bnd hf
  obtain ⟨d', h5, hf⟩ := bnd hf
  cases hf
  refine h B F e σ H _ hn I e1 ra h1 fun F1 v1 H1 s1 I1 l1 => ?_
  refine hm B F1 e1 σ H1 v1 x s Q I1 (l1 F1 e1 H1 x (Same.refl _) I1 h3) h5 fun p o hp ow => ?_
  obtain ⟨f1, f2, f3, f4⟩ := I1.free hp
  obtain ⟨I2, ne⟩ := I1.newOwn (o := o) hp
  exact q F1 p _ s1 I2 ow f1 f2 f4 ne
theorem jow_callB {x : Str} {p : Pos} {id : String} {r : List V → Hp → VK → Prop} {g : List D → Option Sl} (hc : CallR X (.builtin id) r) (hm : CallOw X.K r g) (hg : Gl X x) (hx : X.mg x = none) (hv : bootBuiltins x = some (.builtin id)) (ha : JKs X np (ex :: es) t ks)
    (hn : x ≠ "__name__" := by decide) (hdb : (x == ("__debug__" : Str)) = false := by decide) (he : starEach (ex :: es) X.env = (false, eval ex X.env) :: starEach es X.env := by rfl) (hpl : (backTo pos (starEach es X.env)).any (·.1) = false := by rfl) :
    JOw X np (.Call (.Name x p) (ex :: es) [] pos) (tCB r t) (oCB g ks) := ⟨pe_callB hc hg hx hv ha.pa hn hdb he hpl, dow_cb ha.de hm⟩
theorem jow_callTy {x : Str} {p : Pos} {T : String} {r : List V → Hp → VK → Prop} {g : List D → Option Sl} (hc : CallR X (.type T) r) (hm : CallOw X.K r g) (hg : Gl X x) (hx : X.mg x = none) (hv : bootBuiltins x = some (.type T)) (ha : JKs X np (ex :: es) t ks)
    (hn : x ≠ "__name__" := by decide) (hdb : (x == ("__debug__" : Str)) = false := by decide) (he : starEach (ex :: es) X.env = (false, eval ex X.env) :: starEach es X.env := by rfl) (hpl : (backTo pos (starEach es X.env)).any (·.1) = false := by rfl) :
    JOw X np (.Call (.Name x p) (ex :: es) [] pos) (tCB r t) (oCB g ks) := ⟨pe_callTy hc hg hx hv ha.pa hn hdb he hpl, dow_cb ha.de hm⟩
end
/-! sorted -/
def keysS : List (Key × D) → Option (List Str)
  | [] => some []
  | (.inr s, _) :: r => (keysS r).map (s :: ·)
  | _ => none
theorem keysS_rpk {K : PySem.W.Frag} {F : Hp} : ∀ {kvs : List (Key × V)} {es : List (Key × D)} {ks : List Str}, Rpk K F kvs es → keysS es = some ks → kvs.map (·.1) = ks.map Sum.inr
  | _, _, _, .nil, h => by cases h; rfl
  | _, _, _, .cons (k := k) r t, h => by
    cases k with
    | inl i => cases h
    | inr s =>
      obtain ⟨bs, h1, h2⟩ := Option.map_eq_some_iff.mp h
      subst h2
      rw [List.map_cons, keysS_rpk t h1]
      rfl
instance (ks : List Str) : Decidable (∀ s ∈ ks, sOk s) := inferInstance
def sortedO : List D → Option Sl
  | [.lst xs] => (strsOf xs).map fun ss => .lst ((sortS ss).map .str)
  | [.dic es] => (keysS es).bind fun ks => if ∀ s ∈ ks, sOk s then some (.lst ((sortS ks).map .str)) else none
  | _ => none
def sortedD (ds : List D) : Option D := (sortedO ds).bind Sl.see
theorem rps_strs {K : PySem.W.Frag} {F : Hp} : ∀ {ss : List Str}, (∀ s ∈ ss, sOk s) → Rps K F (ss.map V.str) (ss.map D.str)
  | [], _ => .nil
  | s :: ss, h => .cons (.str _ (h s (List.mem_cons_self ..))) (rps_strs fun x hx => h x (List.mem_cons_of_mem _ hx))
theorem co_sorted {K : PySem.W.Frag} : CallOw K (rSortedX K) sortedO := by
  intro B F e σ H xs ds s Q I r hf q
  unfold sortedO at hf
  split at hf
  · obtain ⟨ss, h1, h2⟩ := Option.map_eq_some_iff.mp hf
    subst h2
    obtain ⟨x, rfl, rx⟩ := r.one
    obtain ⟨a, ys, e1, t1, r1⟩ := rx.lst' I.sf
    obtain ⟨e2, ok⟩ := strs_rps r1 h1
    rw [e2] at t1
    refine .inl ⟨a, ss, by rw [e1], t1, fun p hp => q p _ hp (.lst upd_same (rps_strs fun z hz => ok z ((sortS_perm ss).mem_iff.mp hz)))⟩
  · obtain ⟨ks, h1, hf⟩ := bnd hf
    split at hf
    · rename_i hok
      cases hf
      obtain ⟨x, rfl, rx⟩ := r.one
      obtain ⟨a, kvs, e1, t1, r1⟩ := rx.dic' I.sf
      exact .inr ⟨a, kvs, ks, by rw [e1], t1, keysS_rpk r1 h1, fun p hp => q p _ hp (.lst upd_same (rps_strs fun z hz => hok z ((sortS_perm ks).mem_iff.mp hz)))⟩
    · cases hf
  · cases hf
theorem cm_of_ow {K : PySem.W.Frag} {r : List V → Hp → VK → Prop} {g : List D → Option Sl} (h : CallOw K r g) : CallM K r (fun ds => (g ds).bind Sl.see) := by
  intro B F e σ H xs ds d Q I r hf q
  obtain ⟨s, h1, h2⟩ := bnd hf
  refine h B F e σ H xs ds s Q I r h1 fun p o hp ow => ?_
  obtain ⟨f1, f2, f3, f4⟩ := I.free hp
  obtain ⟨I2, ne⟩ := I.newOwn (o := o) hp
  obtain ⟨F2, s2, I3, r2⟩ := I2.freezeNew ow f1 f2 f4 h2 ne
  exact q F2 _ _ s2 I3 r2
theorem cm_sorted {K : PySem.W.Frag} : CallM K (rSortedX K) sortedD := cm_of_ow co_sorted
/-! list -/
def lstO : List D → Option Sl
  | [.lst xs] => some (.lst xs)
  | [.tup xs] => some (.lst xs)
  | _ => none
theorem co_lst {K : PySem.W.Frag} : CallOw K (fun xs H Q => ∃ p ys, xs = [.ref p] ∧ (SqL K H p ys ∨ SqT K H p ys) ∧ ∀ l, H l = none → Q (.ref l) (upd H l (.lst ys))) lstO := by
  intro B F e σ H xs ds s Q I r hf q
  unfold lstO at hf
  split at hf
  · cases hf
    obtain ⟨x, rfl, rx⟩ := r.one
    obtain ⟨a, ys, e1, t1, r1⟩ := rx.lst' I.sf
    exact ⟨a, ys, by rw [e1], .inl t1, fun p hp => q p _ hp (.lst upd_same r1)⟩
  · cases hf
    obtain ⟨x, rfl, rx⟩ := r.one
    obtain ⟨a, ys, e1, t1, g1, r1⟩ := rx.tup' I.sf
    exact ⟨a, ys, by rw [e1], .inr t1, fun p hp => q p _ hp (.lst upd_same r1)⟩
  · cases hf
/-! dict -/
def dicO : List D → Option Sl
  | [.dic es] => some (.dic es)
  | _ => none
def rDictC : List V → Hp → VK → Prop := fun xs H Q => ∃ (a : Addr) (kvs : List (Key × V)), xs = [.ref a] ∧ Rd H a (.dK kvs) ∧ ∀ p, H p = none → Q (.ref p) (upd H p (.dK kvs))
theorem co_dict {K : PySem.W.Frag} : CallOw K rDictC dicO := by
  intro B F e σ H xs ds s Q I r hf q
  unfold dicO at hf
  split at hf
  · cases hf
    obtain ⟨x, rfl, rx⟩ := r.one
    obtain ⟨a, kvs, e1, t1, r1⟩ := rx.dic' I.sf
    exact ⟨a, kvs, by rw [e1], t1, fun p hp => q p _ hp (.dic upd_same r1)⟩
  · cases hf
/-! ### methods that change one's own list or dict -/
def Sl.tyn : Sl → String
  | .lst _ => "list"
  | .dic _ => "dict"
  | _ => ""
def OwM (K : PySem.W.Frag) (r : V → List V → Hp → VK → Prop) (g : Sl → List D → Option (Sl × D)) : Prop :=
  ∀ (F H : Hp) (a : Addr) (s s' : Sl) (xs : List V) (ds : List D) (d : D) (Q : VK), Same F H → Ow K F H a s → Rps K F xs ds → g s ds = some (s', d) →
    (∀ (o : HO) (v : V), Ow K F (upd H a o) a s' → Rp K F v d → Q v (upd H a o)) → r (.ref a) xs H Q
def fBm (T : String) (i : Nat) (g : Sl → List D → Option (Sl × D)) (fs : FEs) : FE := fun e => match e[i]? with
  | some s0 => if s0.tyn = T ∧ s0.own = true then (fs e).bind fun p => match p.1[i]? with
    | some s => if s.own = true then (g s p.2).bind fun q => some (p.1.set i q.1, q.2) else none
    | none => none
    else none
  | none => none
theorem tyV_own {K : PySem.W.Frag} {F H : Hp} {a : Addr} {s : Sl} (h : Ow K F H a s) : tyV K s.tyn (.ref a) H := by
  cases h with
  | lst h r => exact .inl ⟨rfl, _, .inl (.inl h)⟩
  | dic h r => exact .inr (.inr (.inl ⟨rfl, .inl ⟨_, h⟩⟩))
theorem de_bm {K : PySem.W.Frag} {np n : Nat} {T : String} {i : Nat} {r : V → List V → Hp → VK → Prop} {g : Sl → List D → Option (Sl × D)} {t : TA} {fs : FEs} (hm : OwM K r g) (h : DEs K np n t fs) : DE K np (tBM K T r (tVar i) t) (fBm T i g fs) := by
  intro B F e σ H Q hn I e' d hf q
  unfold fBm at hf
  split at hf
  · rename_i s0 h0
    split at hf
    · rename_i ho
      obtain ⟨hT, ho⟩ := ho
      subst hT
      obtain ⟨⟨e1, ds⟩, h1, hf⟩ := bnd hf
      simp only at hf
      split at hf
      · rename_i s h2
        split at hf
        · rename_i hos
          obtain ⟨⟨s', d'⟩, h3, hf⟩ := bnd hf
          cases hf
          obtain ⟨v0, hv0, r0⟩ := I.slot h0
          obtain ⟨a, ev, o0, _⟩ := r0.of_own ho
          subst ev
          refine ⟨.ref a, hv0, tyV_own o0, h B F e σ H _ hn I e1 ds h1 fun F1 vs H1 s1 I1 r1 _ => ?_⟩
          obtain ⟨a', ev, o1, f1, _⟩ := (I1.sl i _ _ h2 hv0).of_own hos
          cases ev
          refine hm F1 H1 a s s' vs ds _ Q I1.sf o1 r1 h3 fun o v ow rv => ?_
          exact q F1 v _ s1 (I1.turn h2 hos hv0 ow) rv
        · cases hf
      · cases hf
    · cases hf
  · cases hf
theorem de_bm0 {K : PySem.W.Frag} {np : Nat} {T : String} {i : Nat} {r : V → List V → Hp → VK → Prop} {g : Sl → List D → Option (Sl × D)} (hm : OwM K r g) : DE K np (tBM0 K T r (tVar i)) (fBm T i g fNil) := by
  intro B F e σ H Q hn I e' d hf q
  unfold fBm at hf
  split at hf
  · rename_i s0 h0
    split at hf
    · rename_i ho
      obtain ⟨hT, ho⟩ := ho
      subst hT
      obtain ⟨⟨e1, ds⟩, h1, hf⟩ := bnd hf
      cases h1
      simp only [h0, ho, if_true] at hf
      obtain ⟨⟨s', d'⟩, h3, hf⟩ := bnd hf
      cases hf
      obtain ⟨v0, hv0, r0⟩ := I.slot h0
      obtain ⟨a, ev, o0, f1, _⟩ := r0.of_own ho
      subst ev
      refine ⟨.ref a, hv0, tyV_own o0, ?_⟩
      refine hm F H a s0 s' [] [] _ Q I.sf o0 .nil h3 fun o v ow rv => ?_
      exact q F v _ (Same.refl F) (I.turn h0 ho hv0 ow) rv
    · cases hf
  · cases hf
def gReverse : Sl → List D → Option (Sl × D)
  | .lst ds, [] => some (.lst ds.reverse, .non)
  | _, _ => none
theorem ow_reverse {K : PySem.W.Frag} : OwM K rReverse gReverse := by
  intro F H a s s' xs ds d Q sf o r hf q
  unfold gReverse at hf
  split at hf
  · cases hf
    cases r
    cases o with
    | lst h1 h2 => exact ⟨a, _, rfl, rfl, h1, q _ _ (.lst upd_same h2.reverse) .non⟩
  · cases hf
def gClear : Sl → List D → Option (Sl × D)
  | .lst _, [] => some (.lst [], .non)
  | _, _ => none
theorem ow_clear {K : PySem.W.Frag} : OwM K rClear gClear := by
  intro F H a s s' xs ds d Q sf o r hf q
  unfold gClear at hf
  split at hf
  · cases hf
    cases r
    cases o with
    | lst h1 h2 => exact ⟨a, _, rfl, rfl, h1, q _ _ (.lst upd_same .nil) .non⟩
  · cases hf
def gPop : Sl → List D → Option (Sl × D)
  | .lst ds, [] => (ds[ds.length - 1]?).map fun d => (.lst ds.dropLast, d)
  | _, _ => none
theorem Rps.dropLast {K : PySem.W.Frag} {F : Hp} {xs : List V} {ds : List D} (r : Rps K F xs ds) : Rps K F xs.dropLast ds.dropLast := by
  rw [List.dropLast_eq_take, List.dropLast_eq_take, r.length]
  exact r.take _
theorem ow_pop {K : PySem.W.Frag} : OwM K rPop gPop := by
  intro F H a s s' xs ds d Q sf o r hf q
  unfold gPop at hf
  split at hf
  · obtain ⟨y, h1, h2⟩ := Option.map_eq_some_iff.mp hf
    cases h2
    cases r
    cases o with
    | lst g1 g2 =>
      rw [← g2.length] at h1
      obtain ⟨v, h3, h4⟩ := g2.getD h1
      exact ⟨a, _, v, rfl, rfl, g1, h3, q _ _ (.lst upd_same g2.dropLast) h4⟩
  · cases hf
section
variable {X : Cx} {np : Nat} {x : Str} {p apos cpos : Pos} {K : PySem.W.Frag}
theorem jreverse {i : Nat} (hv : PE X (.Name x p) (tVar i)) (hbase : attributeBase (.Name x p) "reverse" X.env (eval (.Name x p) X.env) = eval (.Name x p) X.env := by rfl) (hline : (apos.endLine == cpos.line) = true := by rfl) (hK : X.K = K := by rfl) :
    JE X np (.Call (.Attribute (.Name x p) "reverse" apos) [] [] cpos) (tBM0 K "list" rReverse (tVar i)) (fBm "list" i gReverse fNil) := by
  subst hK
  exact ⟨pe_bm0 PySem.F.plainAttrs_list PySem.F.slot_list_reverse PySem.F.type_list_reverse mt_reverse hv hbase hline, de_bm0 ow_reverse⟩
theorem jclear {i : Nat} (hv : PE X (.Name x p) (tVar i)) (hbase : attributeBase (.Name x p) "clear" X.env (eval (.Name x p) X.env) = eval (.Name x p) X.env := by rfl) (hline : (apos.endLine == cpos.line) = true := by rfl) (hK : X.K = K := by rfl) :
    JE X np (.Call (.Attribute (.Name x p) "clear" apos) [] [] cpos) (tBM0 K "list" rClear (tVar i)) (fBm "list" i gClear fNil) := by
  subst hK
  exact ⟨pe_bm0 PySem.F.plainAttrs_list PySem.F.slot_list_clear PySem.F.type_list_clear mt_clear hv hbase hline, de_bm0 ow_clear⟩
theorem jpop {i : Nat} (hv : PE X (.Name x p) (tVar i)) (hbase : attributeBase (.Name x p) "pop" X.env (eval (.Name x p) X.env) = eval (.Name x p) X.env := by rfl) (hline : (apos.endLine == cpos.line) = true := by rfl) (hK : X.K = K := by rfl) :
    JE X np (.Call (.Attribute (.Name x p) "pop" apos) [] [] cpos) (tBM0 K "list" rPop (tVar i)) (fBm "list" i gPop fNil) := by
  subst hK
  exact ⟨pe_bm0 PySem.F.plainAttrs_list PySem.F.slot_list_pop PySem.F.type_list_pop mt_pop hv hbase hline, de_bm0 ow_pop⟩
theorem jdput {i : Nat} {pos tpos : Pos} {ex ix : Expr} {te ti : TE} {fe fi : FE} (hu : X.A.units + 200 < cLine) (h : JE X np ex te fe) (hv : PE X (.Name x p) (tVar i)) (hi : JE X np ix ti fi) (hs : swapsWith ex (some (.Subscript (.Name x p) ix tpos)) pos.line X.env = pure false := by rfl) :
    JS X np (.Assign [.Subscript (.Name x p) ix tpos] ex pos) (L2.sDPut (tVar i) ti te) (sDPutN i fe fi) := js_dput h hi (ps_dput (by omega) hv hi.pe h.pe hs)
theorem odict (hK : X.K = K := by rfl) : CallR X (.type "dict") rDictC := call_dictD
theorem osorted (hc : X.calm = true := by rfl) (hK : X.K = K := by rfl) : CallR X (.builtin "sorted") (rSortedX K) := by subst hK; exact cr_sortedX hc
end
end M

namespace M
open PySem PySem.Spec PyProof.Rows L2
/-! ### calls with keywords in any order -/
def pick {α : Type} (ix : List Nat) (xs : List α) : List α := ix.filterMap fun i => xs[i]?
def pickN {α : Type} (n m : Nat) (ix : List Nat) (us ws : List α) : List α := if us.length = n ∧ ws.length = m then pick ix (us ++ ws) else []
def KwP (K : PySem.W.Frag) (fd : FuncData) (ps : List Str) (n : Nat) (ks : List Str) (ix : List Nat) : Prop :=
  ∀ (s : Shared) (us ws : List Value), K.In s.heap → us.length = n → ws.length = ks.length → BindsTo s fd ⟨us, ks.zip ws⟩ (ps.zip (pick ix (us ++ ws)))
def KwOk (K : PySem.W.Frag) (mg : Str → Option Value) (x : Str) (ps : List Str) (n : Nat) (ks : List Str) (ix : List Nat) : Prop :=
  ∃ (f : Addr) (fd : FuncData) (o : Obj), mg x = some (.ref f) ∧ K.lookup f = some o ∧ o.data = .func fd ∧ KwP K fd ps n ks ix
theorem pick_vals : ∀ (ix : List Nat) {vs : List V} {us : List Value}, Vals vs us → Vals (pick ix vs) (pick ix us)
  | [], _, _, _ => .nil
  | i :: ix, vs, us, r => by
    have ih := pick_vals ix r
    unfold pick at ih ⊢
    rw [List.filterMap_cons, List.filterMap_cons]
    cases h : vs[i]? with
    | none =>
      have : us[i]? = none := by
        rw [List.getElem?_eq_none_iff] at h ⊢
        rw [← r.length]; exact h
      rw [this]; exact ih
    | some v =>
      obtain ⟨u, h1, h2⟩ := r.get h
      rw [h1]
      exact .cons h2 ih
theorem pick_args {K : PySem.W.Frag} {F : Hp} {σ : L2.St} : ∀ (ix : List Nat) {vs : List V} {as : List Arg}, ArgRs K F σ vs as → ArgRs K F σ (pick ix vs) (pick ix as)
  | [], _, _, _ => .nil
  | i :: ix, vs, as, r => by
    have ih := pick_args ix r
    unfold pick at ih ⊢
    rw [List.filterMap_cons, List.filterMap_cons]
    cases h : as[i]? with
    | none =>
      have : vs[i]? = none := by
        rw [List.getElem?_eq_none_iff] at h ⊢
        rw [r.length]; exact h
      rw [this]; exact ih
    | some v =>
      obtain ⟨u, h1, h2⟩ := r.get h
      rw [h1]
      exact .cons h2 ih
theorem ArgRs.mono {K : PySem.W.Frag} {F F' : Hp} {σ : L2.St} (s : Same F F') : ∀ {vs : List V} {as : List Arg}, ArgRs K F σ vs as → ArgRs K F' σ vs as
  | _, _, .nil => .nil
  | _, _, .cons a b => .cons (a.mono s) (b.mono s)
theorem ArgRs.append {K : PySem.W.Frag} {F : Hp} {σ : L2.St} : ∀ {vs ws : List V} {as bs : List Arg}, ArgRs K F σ vs as → ArgRs K F σ ws bs → ArgRs K F σ (vs ++ ws) (as ++ bs)
  | _, _, _, _, .nil, r => r
  | _, _, _, _, .cons a b, r => .cons a (b.append r)
theorem kwP_binds {K : PySem.W.Frag} {fd : FuncData} {ps ks : List Str} {n : Nat} {ix : List Nat} (h : KwP K fd ps n ks ix) (hp : ps ≠ []) : KBinds K fd ps ks (pickN n ks.length ix) (pickN n ks.length ix) := by
  refine ⟨fun s us ws X l => ?_, fun {vs us zs ws} r1 r2 => ?_⟩
  · unfold pickN at l ⊢
    split at l
    · rename_i hh
      rw [if_pos hh]
      exact h s us ws X hh.1 hh.2
    · exact absurd (List.length_eq_zero_iff.mp l.symm) hp
  · unfold pickN
    rw [r1.length, r2.length]
    split
    · exact pick_vals ix (r1.append r2)
    · exact .nil
def tPick (n m : Nat) (ix : List Nat) (t tk : TA) : TA := fun σ H R => t σ H fun vs H1 => tk σ H1 fun zs H2 => R (pickN n m ix vs zs) H2
def aPick (n m : Nat) (ix : List Nat) (fa fk : FA) : FA := fun e => (fa e).bind fun p => (fk p.1).bind fun q => if p.2.length = n ∧ q.2.length = m then some (q.1, pick ix (p.2 ++ q.2)) else none
theorem da_pick {K : PySem.W.Frag} {np n m : Nat} {ix : List Nat} {t tk : TA} {fa fk : FA} (h : DA K np t fa) (h2 : DA K np tk fk) : DA K np (tPick n m ix t tk) (aPick n m ix fa fk) := by
  intro B F e σ H Q hn I e' as hf q
  obtain ⟨⟨e1, a1⟩, h1, hf⟩ := bnd hf
  obtain ⟨⟨e2, a2⟩, h3, hf⟩ := bnd hf
  simp only at hf
  split at hf
  · rename_i hh
    cases hf
    refine h B F e σ H _ hn I e1 a1 h1 fun F1 vs H1 s1 I1 r1 => ?_
    refine h2 B F1 e1 σ H1 _ hn I1 _ a2 h3 fun F2 zs H2 s2 I2 r2 => ?_
    have hh' : vs.length = n ∧ zs.length = m := by rw [r1.length, r2.length]; exact hh
    rw [show pickN n m ix vs zs = pick ix (vs ++ zs) from if_pos hh']
    exact q F2 _ H2 (s1.trans s2) I2 (pick_args ix ((r1.mono s2).append r2))
  · cases hf
section
variable {X : Cx} {np : Nat}
theorem jcallP {K : PySem.W.Frag} {N n k : Nat} {x : Str} {p pos : Pos} {ex : Expr} {es : List Expr} {kws : List Keyword} {ps ks : List Str} {ix : List Nat} {m : FC} {t tk : TA} {fa fk : FA} (G : DefOk X.prog X.w K X.mg X.base x ps k N m) (kw : KwOk K X.mg x ps n ks ix)
    (hr : RoomT k X.A) (hg : Gl X x) (ha : JA X np (ex :: es) t fa) (hkw : JPK X np kws tk fk) (hall : (backToKw pos (keywordEach kws X.env)).all (·.1.isSome) = true := by rfl) (hks : (backToKw pos (keywordEach kws X.env)).filterMap (·.1) = ks := by rfl)
    (hdb : (x == ("__debug__" : Str)) = false := by decide) (he : starEach (ex :: es) X.env = (false, eval ex X.env) :: starEach es X.env := by rfl)
    (hpl : ((backTo pos (starEach (ex :: es) X.env)).any (·.1) || (backToKw pos (keywordEach kws X.env)).any (·.1.isNone)) = false := by rfl) (hK : X.K = K := by rfl) :
    JE X np (.Call (.Name x p) (ex :: es) kws pos) (tCall (spM K N m) [] E0 (tPick n ks.length ix t tk)) (fCall m (aPick n ks.length ix fa fk)) := by
  subst hK
  obtain ⟨f, fd, G, b, kp, e, l, _, hp, o, k1, k2⟩ := G
  obtain ⟨f', fd', o', e', k1', k2', w⟩ := kw
  have ef : f = f' := by rw [e] at e'; cases e'; rfl
  subst ef
  have eo : o = o' := by rw [k1] at k1'; cases k1'; rfl
  subst eo
  have ed : fd = fd' := by rw [k2] at k2'; cases k2'; rfl
  subst ed
  refine ⟨⟨fun pins s σ H Q I h => (pe_callKT G hr hg e kp (kwP_binds w hp) pass0 ha.pa hkw.pk hall hks hdb he hpl).run pins s σ H Q I ?_⟩, de_call (E := E0) (da_pick ha.de hkw.de) fun {es r} h => l es r h⟩
  unfold tCall tPick at h
  unfold tCallK
  simpa only [List.append_nil] using h
theorem jcallP0 {K : PySem.W.Frag} {N k : Nat} {x : Str} {p pos : Pos} {kws : List Keyword} {ps ks : List Str} {ix : List Nat} {m : FC} {tk : TA} {fk : FA} (G : DefOk X.prog X.w K X.mg X.base x ps k N m) (kw : KwOk K X.mg x ps 0 ks ix)
    (hr : RoomT k X.A) (hg : Gl X x) (hkw : JPK X np kws tk fk) (hall : (backToKw pos (keywordEach kws X.env)).all (·.1.isSome) = true := by rfl) (hks : (backToKw pos (keywordEach kws X.env)).filterMap (·.1) = ks := by rfl)
    (hdb : (x == ("__debug__" : Str)) = false := by decide)
    (hpl : ((backTo pos (starEach [] X.env)).any (·.1) || (backToKw pos (keywordEach kws X.env)).any (·.1.isNone)) = false := by rfl) (hK : X.K = K := by rfl) :
    JE X np (.Call (.Name x p) [] kws pos) (tCall (spM K N m) [] E0 (tPick 0 ks.length ix tNil tk)) (fCall m (aPick 0 ks.length ix aNil fk)) := by
  subst hK
  obtain ⟨f, fd, G, b, kp, e, l, _, hp, o, k1, k2⟩ := G
  obtain ⟨f', fd', o', e', k1', k2', w⟩ := kw
  have ef : f = f' := by rw [e] at e'; cases e'; rfl
  subst ef
  have eo : o = o' := by rw [k1] at k1'; cases k1'; rfl
  subst eo
  have ed : fd = fd' := by rw [k2] at k2'; cases k2'; rfl
  subst ed
  refine ⟨⟨fun pins s σ H Q I h => ?_⟩, de_call (E := E0) (da_pick ja_nil.de hkw.de) fun {es r} h => l es r h⟩
  refine wpAny_Call_Name_kw (ld_glob I hg e ?_ hdb)
  refine PySem.W.callWith_KW0 (h₀ := X.base) I.ok.mod.kin kp hall ?_ hpl
  unfold tCall tPick tNil at h
  refine thn (hkw.pk.run pos pins s σ H _ I h) fun ws s2 ⟨zs, H2, I2, rz, q2⟩ => ⟨I2.kIn, ?_⟩
  rw [hks]
  have q3 : spM X.K N m (pickN 0 ks.length ix [] zs ++ []) H2 Q E0 := q2
  rw [List.append_nil] at q3
  exact run_fnkT (us := []) (vs := []) G hr (kwP_binds w hp) pass0 I2 .nil rz q3
end
theorem kw_mk {K : PySem.W.Frag} {mg : Str → Option Value} {h : Heap} {x : Str} {st : Stmt} {ps ks : List Str} {n : Nat} {ix : List Nat} {f : Addr} {oc : Value} {od an : Option Addr} {osl : Array (Option Value)} {kV doc pm cdv ct : Value} (X : K.In h) (G : h.Ns mainGlobals mg) (a : PySem.W.nsIn K mainGlobals x = some (some (.ref f)))
    (l : K.lookup f = some ⟨oc, od, .func (PySem.W.fnOf x x (defArgs st) (defBody st) (defScope st) .none kV doc pm an cdv ct), osl⟩)
    (hk : ∀ (kV doc pm : Value) (an : Option Addr) (cdv ct : Value) (us ws : List Value), us.length = n → ws.length = ks.length → bindArgs (PySem.W.fnOf x x (defArgs st) (defBody st) (defScope st) .none kV doc pm an cdv ct) ⟨us, ks.zip ws⟩ = pure (ps.zip (pick ix (us ++ ws)))) : KwOk K mg x ps n ks ix :=
  ⟨f, _, _, PySem.W.mg_of X G a, l, rfl, fun s us ws _ h1 h2 => .of_eq (hk _ _ _ _ _ _ us ws h1 h2)⟩
section
variable (s : Sl) (e : Sls)
theorem c_aPick (n m : Nat) (ix : List Nat) (fa fk : FA) : aPick n m ix fa fk (s :: e) = (fa (s :: e)).bind fun p => (fk p.1).bind fun q => if p.2.length = n ∧ q.2.length = m then some (q.1, pick ix (p.2 ++ q.2)) else none := rfl
theorem c_oCB (g : List D → Option Sl) (k : FKs) : oCB g k (s :: e) = (k (s :: e)).bind fun p => (p.2 p.1).bind fun ds => (g ds).bind fun d => some (p.1, d) := rfl
theorem c_fBm (T : String) (i : Nat) (g : Sl → List D → Option (Sl × D)) (fs : FEs) : fBm T i g fs (s :: e) = match (s :: e)[i]? with
  | some s0 => if s0.tyn = T ∧ s0.own = true then (fs (s :: e)).bind fun p => match p.1[i]? with
    | some s => if s.own = true then (g s p.2).bind fun q => some (p.1.set i q.1, q.2) else none
    | none => none
    else none
  | none => none := rfl
end
theorem pick_nil {α : Type} (xs : List α) : pick [] xs = [] := rfl
theorem pick_cons {α : Type} (i : Nat) (ix : List Nat) (xs : List α) : pick (i :: ix) xs = match xs[i]? with | some x => x :: pick ix xs | none => pick ix xs := by
  unfold pick
  rw [List.filterMap_cons]
  split <;> simp_all
theorem tyn_lst (ds : List D) : Sl.tyn (.lst ds) = "list" := rfl
theorem tyn_dic (ds : List (Key × D)) : Sl.tyn (.dic ds) = "dict" := rfl
theorem g_rev (ds : List D) : gReverse (.lst ds) [] = some (.lst ds.reverse, .non) := rfl
theorem g_clear (ds : List D) : gClear (.lst ds) [] = some (.lst [], .non) := rfl
theorem g_pop (ds : List D) : gPop (.lst ds) [] = (ds[ds.length - 1]?).map fun d => (.lst ds.dropLast, d) := rfl
theorem d_lstOL (ds : List D) : lstO [.lst ds] = some (.lst ds) := rfl
theorem d_lstOT (ds : List D) : lstO [.tup ds] = some (.lst ds) := rfl
theorem d_dicO (ds : List (Key × D)) : dicO [.dic ds] = some (.dic ds) := rfl
end M

namespace M
open PySem PySem.Spec PyProof.Rows L2
/-! ### terms as a type -/
mutual
inductive T where
  | num (i : Int) | name (s : Str) | make (s : Str) | app (a b : T) | op (o : Str) (a b : T) | fn (x : Str) (b : T) | lt (ps : PL) (b : T) | cs (a : T) (ws : WL)
inductive PL where
  | nil | cons (x : Str) (t : T) (r : PL)
inductive WL where
  | nil | cons (c : Str) (xs : List Str) (t : T) (r : WL)
end
mutual
def T.d : T → D
  | .num i => .tup [.str "num", .int i]
  | .name s => .tup [.str "name", .str s]
  | .make s => .tup [.str "make", .str s]
  | .app a b => .tup [.str "app", a.d, b.d]
  | .op o a b => .tup [.str "op", .str o, a.d, b.d]
  | .fn x b => .tup [.str "fun", .str x, b.d]
  | .lt ps b => .tup [.str "let", .tup ps.d, b.d]
  | .cs a ws => .tup [.str "case", a.d, .tup ws.d]
def PL.d : PL → List D
  | .nil => []
  | .cons x t r => .tup [.str x, t.d] :: r.d
def WL.d : WL → List D
  | .nil => []
  | .cons c xs t r => .tup [.str c, .tup (xs.map .str), t.d] :: r.d
end
mutual
/-- how deep, how great -/
def T.h : T → Nat
  | .num _ => 1
  | .name _ => 1
  | .make _ => 1
  | .app a b => max a.h b.h + 1
  | .op _ a b => max a.h b.h + 1
  | .fn _ b => b.h + 1
  | .lt ps b => max ps.h b.h + 1
  | .cs a ws => max a.h ws.h + 1
def PL.h : PL → Nat
  | .nil => 0
  | .cons _ t r => max t.h r.h
def WL.h : WL → Nat
  | .nil => 0
  | .cons _ _ t r => max t.h r.h
end
mutual
def T.z : T → Nat
  | .num _ => 1
  | .name _ => 1
  | .make _ => 1
  | .app a b => a.z + b.z + 1
  | .op _ a b => a.z + b.z + 1
  | .fn _ b => b.z + 1
  | .lt ps b => ps.z + b.z + 1
  | .cs a ws => a.z + ws.z + 1
def PL.z : PL → Nat
  | .nil => 0
  | .cons _ t r => t.z + r.z
def WL.z : WL → Nat
  | .nil => 0
  | .cons _ _ t r => t.z + r.z
end
def PL.names : PL → List Str
  | .nil => []
  | .cons x _ r => x :: r.names
mutual
def T.Ok : T → Prop
  | .num i => 0 ≤ i ∧ i < 10 ^ 20
  | .name s => SmallN s
  | .make s => GreatN s
  | .app a b => a.Ok ∧ b.Ok
  | .op o a b => o ∈ opsL ∧ a.Ok ∧ b.Ok
  | .fn x b => SmallN x ∧ b.Ok
  | .lt ps b => ps ≠ .nil ∧ ps.names.Nodup ∧ ps.Ok ∧ b.Ok
  | .cs a ws => a.Ok ∧ ws ≠ .nil ∧ ws.Ok
def PL.Ok : PL → Prop
  | .nil => True
  | .cons x t r => SmallN x ∧ t.Ok ∧ r.Ok
def WL.Ok : WL → Prop
  | .nil => True
  | .cons c xs t r => GreatN c ∧ (∀ s ∈ xs, SmallN s) ∧ xs.Nodup ∧ xs.length ≤ 3 ∧ t.Ok ∧ r.Ok
end
mutual
theorem T.z_pos : ∀ t : T, 1 ≤ t.z
  | .num _ => Nat.le_refl _
  | .name _ => Nat.le_refl _
  | .make _ => Nat.le_refl _
  | .app a b => by rw [T.z]; omega
  | .op _ a b => by rw [T.z]; omega
  | .fn _ b => by rw [T.z]; omega
  | .lt ps b => by rw [T.z]; omega
  | .cs a ws => by rw [T.z]; omega
end
theorem T.h_pos : ∀ t : T, 1 ≤ t.h := by
  intro t
  cases t <;> simp only [T.h] <;> omega
theorem PL.d_ne : ∀ {ps : PL}, ps ≠ .nil → ps.d ≠ []
  | .nil, h => absurd rfl h
  | .cons .., _ => by rw [PL.d]; exact List.cons_ne_nil _ _
theorem WL.d_ne : ∀ {ps : WL}, ps ≠ .nil → ps.d ≠ []
  | .nil, h => absurd rfl h
  | .cons .., _ => by rw [WL.d]; exact List.cons_ne_nil _ _
mutual
theorem Tm.toT : ∀ {n L : Nat} {d : D}, Tm n L d → ∃ t : T, d = t.d ∧ t.h ≤ n ∧ t.z ≤ L ∧ t.Ok
  | _, _, _, .name h0 h1 => ⟨.name _, rfl, by simp [T.h], by simpa [T.z] using h1, h0⟩
  | _, _, _, .make h0 h1 => ⟨.make _, rfl, by simp [T.h], by simpa [T.z] using h1, h0⟩
  | _, _, _, .num h0 h1 h2 => ⟨.num _, rfl, by simp [T.h], by simpa [T.z] using h2, h0, h1⟩
  | _, _, _, .app a b h1 => by
    obtain ⟨t, rfl, a1, a2, a3⟩ := a.toT
    obtain ⟨u, rfl, b1, b2, b3⟩ := b.toT
    exact ⟨.app t u, rfl, by rw [T.h]; omega, by rw [T.z]; omega, a3, b3⟩
  | _, _, _, .op o a b h1 => by
    obtain ⟨t, rfl, a1, a2, a3⟩ := a.toT
    obtain ⟨u, rfl, b1, b2, b3⟩ := b.toT
    exact ⟨.op _ t u, rfl, by rw [T.h]; omega, by rw [T.z]; omega, o, a3, b3⟩
  | _, _, _, .fn x a h1 => by
    obtain ⟨t, rfl, a1, a2, a3⟩ := a.toT
    exact ⟨.fn _ t, rfl, by rw [T.h]; omega, by rw [T.z]; omega, x, a3⟩
  | _, _, _, .lt ps ne nd a h1 => by
    obtain ⟨t, rfl, a1, a2, a3⟩ := a.toT
    obtain ⟨p, e, f, b1, b2, b3⟩ := ps.toPL
    refine ⟨.lt p t, by rw [e, T.d], by rw [T.h]; omega, by rw [T.z]; omega, fun z => ?_, by rw [← f]; exact nd, b3, a3⟩
    subst z
    rw [PL.d] at e
    exact ne (List.map_eq_nil_iff.mp e)
  | _, _, _, .cs a ws ne h1 => by
    obtain ⟨t, rfl, a1, a2, a3⟩ := a.toT
    obtain ⟨p, e, b1, b2, b3⟩ := ws.toWL
    refine ⟨.cs t p, by rw [e, T.d], by rw [T.h]; omega, by rw [T.z]; omega, a3, fun z => ?_, b3⟩
    subst z
    rw [WL.d] at e
    exact ne (List.map_eq_nil_iff.mp e)
theorem Bds.toPL : ∀ {n L : Nat} {bs : List (Str × D)}, Bds n L bs → ∃ p : PL, (bs.map fun p => D.tup [.str p.1, p.2]) = p.d ∧ bs.map Prod.fst = p.names ∧ p.h ≤ n ∧ p.z ≤ L ∧ p.Ok
  | _, _, _, .nil => ⟨.nil, rfl, rfl, by simp [PL.h], by simp [PL.z], trivial⟩
  | _, _, _, .cons x a b h => by
    obtain ⟨t, rfl, a1, a2, a3⟩ := a.toT
    obtain ⟨p, e, f, b1, b2, b3⟩ := b.toPL
    exact ⟨.cons _ t p, by rw [List.map_cons, e, PL.d], by rw [List.map_cons, f, PL.names], by rw [PL.h]; omega, by rw [PL.z]; omega, x, a3, b3⟩
theorem Wys.toWL : ∀ {n L : Nat} {bs : List (Str × List Str × D)}, Wys n L bs → ∃ p : WL, (bs.map fun p => D.tup [.str p.1, .tup (p.2.1.map .str), p.2.2]) = p.d ∧ p.h ≤ n ∧ p.z ≤ L ∧ p.Ok
  | _, _, _, .nil => ⟨.nil, rfl, by simp [WL.h], by simp [WL.z], trivial⟩
  | _, _, _, .cons x y z w a b h => by
    obtain ⟨t, rfl, a1, a2, a3⟩ := a.toT
    obtain ⟨p, e, b1, b2, b3⟩ := b.toWL
    exact ⟨.cons _ _ t p, by rw [List.map_cons, e, WL.d], by rw [WL.h]; omega, by rw [WL.z]; omega, x, y, z, w, a3, b3⟩
end
/-! the terms within a term, each with the names that it binds in it -/
def PL.parts (ns : List Str) : PL → List (T × List Str)
  | .nil => []
  | .cons _ t r => (t, ns) :: r.parts ns
def WL.parts : WL → List (T × List Str)
  | .nil => []
  | .cons _ xs t r => (t, xs) :: r.parts
def T.parts : T → List (T × List Str)
  | .app a b => [(a, []), (b, [])]
  | .op _ a b => [(a, []), (b, [])]
  | .fn x b => [(b, [x])]
  | .lt ps b => ps.parts ps.names ++ [(b, ps.names)]
  | .cs a ws => (a, []) :: ws.parts
  | _ => []
theorem PL.names_le : ∀ ps : PL, ps.names.length ≤ ps.z
  | .nil => Nat.le_refl _
  | .cons x t r => by
    have := r.names_le
    have := t.z_pos
    simp only [PL.names, PL.z, List.length_cons]; omega
theorem PL.names_small : ∀ {ps : PL}, ps.Ok → ∀ s ∈ ps.names, SmallN s
  | .nil, _, s, h => nomatch h
  | .cons x t r, ok, s, h => by
    rcases List.mem_cons.mp h with rfl | h
    · exact ok.1
    · exact PL.names_small ok.2.2 s h
theorem PL.parts_mem : ∀ {ps : PL} {ns : List Str} {q : T × List Str}, q ∈ ps.parts ns → q.2 = ns ∧ q.1.h ≤ ps.h ∧ q.1.z + ps.names.length ≤ ps.z + 1 ∧ (ps.Ok → q.1.Ok)
  | .nil, _, _, h => nomatch h
  | .cons x t r, ns, q, h => by
    have l := r.names_le
    have p := t.z_pos
    rcases List.mem_cons.mp h with rfl | h
    · exact ⟨rfl, by simp only [PL.h]; omega, by simp only [PL.names, PL.z, List.length_cons]; omega, fun ok => ok.2.1⟩
    · obtain ⟨h1, h2, h3, h4⟩ := PL.parts_mem h
      exact ⟨h1, by simp only [PL.h]; omega, by simp only [PL.names, PL.z, List.length_cons]; omega, fun ok => h4 ok.2.2⟩
theorem WL.parts_mem : ∀ {ps : WL} {q : T × List Str}, q ∈ ps.parts → q.1.h ≤ ps.h ∧ q.1.z ≤ ps.z ∧ (ps.Ok → q.1.Ok ∧ q.2.length ≤ 3 ∧ ∀ s ∈ q.2, SmallN s)
  | .nil, _, h => nomatch h
  | .cons c xs t r, q, h => by
    have p := t.z_pos
    rcases List.mem_cons.mp h with rfl | h
    · exact ⟨by simp only [WL.h]; omega, by simp only [WL.z]; omega, fun ok => ⟨ok.2.2.2.2.1, ok.2.2.2.1, ok.2.1⟩⟩
    · obtain ⟨h2, h3, h4⟩ := WL.parts_mem h
      exact ⟨by simp only [WL.h]; omega, by simp only [WL.z]; omega, fun ok => h4 ok.2.2.2.2.2⟩
theorem T.parts_mem {t : T} {q : T × List Str} (ok : t.Ok) (h : q ∈ t.parts) : q.1.h + 1 ≤ t.h ∧ q.2.length + 4 * q.1.z ≤ 4 * t.z ∧ q.1.Ok ∧ ∀ s ∈ q.2, SmallN s := by
  cases t with
  | app a b =>
    have := a.z_pos; have := b.z_pos
    simp only [T.parts, List.mem_cons, List.not_mem_nil, or_false] at h
    rcases h with rfl | rfl
    · exact ⟨by simp only [T.h]; omega, by simp only [T.z, List.length_nil]; omega, ok.1, fun _ z => nomatch z⟩
    · exact ⟨by simp only [T.h]; omega, by simp only [T.z, List.length_nil]; omega, ok.2, fun _ z => nomatch z⟩
  | op o a b =>
    have := a.z_pos; have := b.z_pos
    simp only [T.parts, List.mem_cons, List.not_mem_nil, or_false] at h
    rcases h with rfl | rfl
    · exact ⟨by simp only [T.h]; omega, by simp only [T.z, List.length_nil]; omega, ok.2.1, fun _ z => nomatch z⟩
    · exact ⟨by simp only [T.h]; omega, by simp only [T.z, List.length_nil]; omega, ok.2.2, fun _ z => nomatch z⟩
  | fn x b =>
    simp only [T.parts, List.mem_cons, List.not_mem_nil, or_false] at h
    subst h
    exact ⟨by simp only [T.h]; omega, by simp only [T.z, List.length_cons, List.length_nil]; omega, ok.2, fun s hs => by rw [List.mem_singleton.mp hs]; exact ok.1⟩
  | lt ps b =>
    have l := ps.names_le
    have := b.z_pos
    simp only [T.parts] at h
    rcases List.mem_append.mp h with h | h
    · obtain ⟨h1, h2, h3, h4⟩ := PL.parts_mem h
      exact ⟨by simp only [T.h]; omega, by rw [h1, T.z]; omega, h4 ok.2.2.1, by rw [h1]; exact PL.names_small ok.2.2.1⟩
    · have h := List.mem_singleton.mp h
      subst h
      exact ⟨by simp only [T.h]; omega, by rw [T.z]; simp only; omega, ok.2.2.2, PL.names_small ok.2.2.1⟩
  | cs a ws =>
    have := a.z_pos
    simp only [T.parts] at h
    rcases List.mem_cons.mp h with rfl | h
    · exact ⟨by simp only [T.h]; omega, by simp only [T.z, List.length_nil]; omega, ok.1, fun _ z => nomatch z⟩
    · obtain ⟨h2, h3, h4⟩ := WL.parts_mem h
      obtain ⟨k1, k2, k3⟩ := h4 ok.2.2
      exact ⟨by simp only [T.h]; omega, by simp only [T.z]; omega, k1, k3⟩
  | num _ => nomatch h
  | name _ => nomatch h
  | make _ => nomatch h
theorem PL.parts_sum : ∀ (ps : PL) (ns : List Str), ((ps.parts ns).map fun q => q.1.z).sum = ps.z
  | .nil, _ => rfl
  | .cons x t r, ns => by rw [PL.parts, List.map_cons, List.sum_cons, PL.parts_sum r ns, PL.z]
theorem WL.parts_sum : ∀ (ps : WL), (ps.parts.map fun q => q.1.z).sum = ps.z
  | .nil => rfl
  | .cons c xs t r => by rw [WL.parts, List.map_cons, List.sum_cons, WL.parts_sum r, WL.z]
theorem T.parts_sum (t : T) : (t.parts.map fun q => q.1.z).sum ≤ t.z := by
  cases t <;> simp only [T.parts, List.map_cons, List.map_nil, List.sum_cons, List.sum_nil, List.map_append, List.sum_append, PL.parts_sum, WL.parts_sum, T.z] <;> omega
theorem T.parts_len (t : T) : t.parts.length ≤ t.z := by
  have h : ∀ qs : List (T × List Str), qs.length ≤ (qs.map fun q => q.1.z).sum := by
    intro qs
    induction qs with
    | nil => simp
    | cons q qs ih => have := q.1.z_pos; simp only [List.map_cons, List.sum_cons, List.length_cons]; omega
  exact Nat.le_trans (h _) t.parts_sum
/-! ### a comprehension that keeps its state -/
theorem w_lc_map {α : Type} {vs : List Nat} {b : FG} {c : FT} {f : FE} {e : Sls} (i g : α → D) {Q : Sls → List D → Prop} : ∀ {ds : List α} {acc : List D}, acc.length + ds.length ≤ 8000000 →
    (∀ d ∈ ds, ∀ (acc : List D) (R : Sls → List D → Prop), acc.length < sizeLine → R e (acc ++ [g d]) → W (lcStep vs b c f (i d) e acc) R) → Q e (acc ++ ds.map g) → W (lcLoop vs b c f (ds.map i) e acc) Q
  | [], acc, _, _, h => ⟨_, _, rfl, by simpa using h⟩
  | d :: ds, acc, hl, hs, h => by
    rw [List.length_cons] at hl
    rw [List.map_cons, lc_step, W_bind]
    refine hs d (List.mem_cons_self ..) acc _ (line_lt (by omega)) ?_
    refine w_lc_map i g (ds := ds) (acc := acc ++ [g d]) (by simp; omega) (fun d' hd' => hs d' (List.mem_cons_of_mem _ hd')) ?_
    simpa [List.append_assoc] using h
/-! ### == of lists of texts -/
theorem plains_strs : ∀ ss : List Str, D.plains (ss.map .str) = true
  | [] => rfl
  | s :: ss => by simp only [List.map_cons, D.plains, D.plain, plains_strs ss, Bool.and_self]
theorem pys_strs : ∀ ss : List Str, D.pys (ss.map .str) = ss.map .str
  | [] => rfl
  | s :: ss => by simp only [List.map_cons, D.pys, D.py, pys_strs ss]
theorem depth_strs : ∀ ss : List Str, PyData.depthAll (ss.map .str) ≤ 1
  | [] => by simp [PyData.depthAll]
  | s :: ss => by have := depth_strs ss; simp only [List.map_cons, PyData.depthAll, PyData.depth]; omega
theorem eqvAll_strs : ∀ xs ys : List Str, PyData.eqvAll (xs.map .str) (ys.map .str) = decide (xs = ys)
  | [], [] => rfl
  | [], y :: ys => by simp [PyData.eqvAll]
  | x :: xs, [] => by simp [PyData.eqvAll]
  | x :: xs, y :: ys => by
    have ih := eqvAll_strs xs ys
    simp only [List.map_cons, PyData.eqvAll, PyData.eqv, ih, List.cons.injEq, Bool.decide_and]
    congr 1
    all_goals first | rfl | (by_cases h : x = y <;> simp [h])
theorem eq_strsL (xs ys : List Str) : eqD (.lst (xs.map .str)) (.lst (ys.map .str)) = some (.bl (decide (xs = ys))) := by
  have g : (D.lst (xs.map .str)).plain = true ∧ (D.lst (ys.map .str)).plain = true ∧ min (D.lst (xs.map .str)).py.depth (D.lst (ys.map .str)).py.depth ≤ 200 := by
    refine ⟨plains_strs xs, plains_strs ys, ?_⟩
    have := depth_strs xs
    simp only [D.py, pys_strs, PyData.depth]
    omega
  simp only [eqD, eqQ, eqG]
  rw [if_pos g]
  simp only [D.py, pys_strs, PyData.eqv, eqvAll_strs, Option.map_some]
theorem ne_strsL (xs ys : List Str) : neD (.lst (xs.map .str)) (.lst (ys.map .str)) = some (.bl (!decide (xs = ys))) := by
  have g : (D.lst (xs.map .str)).plain = true ∧ (D.lst (ys.map .str)).plain = true ∧ min (D.lst (xs.map .str)).py.depth (D.lst (ys.map .str)).py.depth ≤ 200 := by
    refine ⟨plains_strs xs, plains_strs ys, ?_⟩
    have := depth_strs xs
    simp only [D.py, pys_strs, PyData.depth]
    omega
  simp only [neD, neQ, eqG]
  rw [if_pos g]
  simp only [D.py, pys_strs, PyData.eqv, eqvAll_strs, Option.map_some]
end M

namespace M
open PySem PySem.Spec PyProof.Rows L2
def pD (q : T × List Str) : D := .tup [q.1.d, .tup (q.2.map .str)]
def pL (q : T × List Str) : D := .tup [q.1.d, .lst (q.2.map .str)]
def plI : PL → List (Str × T)
  | .nil => []
  | .cons x t r => (x, t) :: plI r
def wlI : WL → List (Str × List Str × T)
  | .nil => []
  | .cons c xs t r => (c, xs, t) :: wlI r
def plD (q : Str × T) : D := .tup [.str q.1, q.2.d]
def wlD (q : Str × List Str × T) : D := .tup [.str q.1, .tup (q.2.1.map .str), q.2.2.d]
theorem pl_d : ∀ ps : PL, ps.d = (plI ps).map plD
  | .nil => rfl
  | .cons x t r => by rw [PL.d, pl_d r]; rfl
theorem wl_d : ∀ ps : WL, ps.d = (wlI ps).map wlD
  | .nil => rfl
  | .cons c xs t r => by rw [WL.d, wl_d r]; rfl
theorem pl_names : ∀ ps : PL, ps.names = (plI ps).map (·.1)
  | .nil => rfl
  | .cons x t r => by rw [PL.names, pl_names r]; rfl
theorem pl_parts (ns : List Str) : ∀ ps : PL, ps.parts ns = (plI ps).map fun q => (q.2, ns)
  | .nil => rfl
  | .cons x t r => by rw [PL.parts, pl_parts ns r]; rfl
theorem wl_parts : ∀ ps : WL, ps.parts = (wlI ps).map fun q => (q.2.2, q.2.1)
  | .nil => rfl
  | .cons c xs t r => by rw [WL.parts, wl_parts r]; rfl
theorem pl_len (ps : PL) : (plI ps).length ≤ ps.z := by
  have := ps.names_le
  rw [pl_names, List.length_map] at this
  exact this
theorem wl_len : ∀ ps : WL, (wlI ps).length ≤ ps.z
  | .nil => Nat.le_refl _
  | .cons c xs t r => by
    have := wl_len r
    have := t.z_pos
    simp only [wlI, WL.z, List.length_cons]; omega
mutual
def T.free (bd : List Str) : T → List Str
  | .num _ => []
  | .name s => if s ∈ bd then [] else [s]
  | .make _ => []
  | .app a b => a.free bd ++ b.free bd
  | .op _ a b => a.free bd ++ b.free bd
  | .fn x b => b.free (bd ++ [x])
  | .lt ps b => ps.free (bd ++ ps.names) ++ b.free (bd ++ ps.names)
  | .cs a ws => a.free bd ++ ws.free bd
def PL.free (bd : List Str) : PL → List Str
  | .nil => []
  | .cons _ t r => t.free bd ++ r.free bd
def WL.free (bd : List Str) : WL → List Str
  | .nil => []
  | .cons _ xs t r => t.free (bd ++ xs) ++ r.free bd
end
def ownN (t : T) (bd : List Str) : List Str := match t with | .name s => if s ∈ bd then [] else [s] | _ => []
def restN (bd : List Str) (qs : List (T × List Str)) : List Str := (qs.map fun q => q.1.free (bd ++ q.2)).flatten
theorem pl_free (bd ns : List Str) : ∀ ps : PL, ps.free (bd ++ ns) = restN bd (ps.parts ns)
  | .nil => rfl
  | .cons x t r => by rw [PL.free, pl_free bd ns r]; rfl
theorem wl_free (bd : List Str) : ∀ ps : WL, ps.free bd = restN bd ps.parts
  | .nil => rfl
  | .cons c xs t r => by rw [WL.free, wl_free bd r]; rfl
theorem free_eq (t : T) (bd : List Str) : t.free bd = ownN t bd ++ restN bd t.parts := by
  cases t with
  | num _ => rfl
  | name s => simp [T.free, ownN, restN, T.parts]
  | make _ => rfl
  | app a b => simp [T.free, ownN, restN, T.parts]
  | op o a b => simp [T.free, ownN, restN, T.parts]
  | fn x b => simp [T.free, ownN, restN, T.parts]
  | lt ps b => rw [T.free, pl_free]; simp [ownN, restN, T.parts]
  | cs a ws => rw [T.free, wl_free]; simp [ownN, restN, T.parts]
theorem restN_nil (bd : List Str) : restN bd [] = [] := rfl
theorem restN_cons (bd : List Str) (q : T × List Str) (qs : List (T × List Str)) : restN bd (q :: qs) = q.1.free (bd ++ q.2) ++ restN bd qs := rfl
mutual
theorem T.free_len (bd : List Str) : ∀ t : T, (t.free bd).length ≤ t.z
  | .num _ => by simp [T.free]
  | .name s => by rw [T.free]; split <;> simp [T.z]
  | .make _ => by simp [T.free]
  | .app a b => by have := a.free_len bd; have := b.free_len bd; simp only [T.free, T.z, List.length_append]; omega
  | .op _ a b => by have := a.free_len bd; have := b.free_len bd; simp only [T.free, T.z, List.length_append]; omega
  | .fn x b => by have := b.free_len (bd ++ [x]); simp only [T.free, T.z]; omega
  | .lt ps b => by have := ps.free_len (bd ++ ps.names); have := b.free_len (bd ++ ps.names); simp only [T.free, T.z, List.length_append]; omega
  | .cs a ws => by have := a.free_len bd; have := ws.free_len bd; simp only [T.free, T.z, List.length_append]; omega
theorem PL.free_len (bd : List Str) : ∀ t : PL, (t.free bd).length ≤ t.z
  | .nil => by simp [PL.free]
  | .cons _ t r => by have := t.free_len bd; have := r.free_len bd; simp only [PL.free, PL.z, List.length_append]; omega
theorem WL.free_len (bd : List Str) : ∀ t : WL, (t.free bd).length ≤ t.z
  | .nil => by simp [WL.free]
  | .cons _ xs t r => by have := t.free_len (bd ++ xs); have := r.free_len bd; simp only [WL.free, WL.z, List.length_append]; omega
end
theorem restN_len (bd : List Str) : ∀ qs : List (T × List Str), (restN bd qs).length ≤ (qs.map fun q => q.1.z).sum
  | [] => by simp [restN]
  | q :: qs => by
    have := q.1.free_len (bd ++ q.2)
    have := restN_len bd qs
    rw [restN_cons, List.length_append, List.map_cons, List.sum_cons]; omega
mutual
theorem T.free_small : ∀ {t : T} {bd : List Str}, t.Ok → ∀ s ∈ t.free bd, SmallN s
  | .num _, bd, ok, s, h => by simp [T.free] at h
  | .name x, bd, ok, s, h => by
    rw [T.free] at h
    split at h
    · exact nomatch h
    · rw [List.mem_singleton.mp h]; exact ok
  | .make _, bd, ok, s, h => by simp [T.free] at h
  | .app a b, bd, ok, s, h => by
    rw [T.free] at h
    rcases List.mem_append.mp h with h | h
    · exact T.free_small ok.1 s h
    · exact T.free_small ok.2 s h
  | .op _ a b, bd, ok, s, h => by
    rw [T.free] at h
    rcases List.mem_append.mp h with h | h
    · exact T.free_small ok.2.1 s h
    · exact T.free_small ok.2.2 s h
  | .fn x b, bd, ok, s, h => by rw [T.free] at h; exact T.free_small ok.2 s h
  | .lt ps b, bd, ok, s, h => by
    rw [T.free] at h
    rcases List.mem_append.mp h with h | h
    · exact PL.free_small ok.2.2.1 s h
    · exact T.free_small ok.2.2.2 s h
  | .cs a ws, bd, ok, s, h => by
    rw [T.free] at h
    rcases List.mem_append.mp h with h | h
    · exact T.free_small ok.1 s h
    · exact WL.free_small ok.2.2 s h
theorem PL.free_small : ∀ {t : PL} {bd : List Str}, t.Ok → ∀ s ∈ t.free bd, SmallN s
  | .nil, _, _, s, h => by simp [PL.free] at h
  | .cons x t r, bd, ok, s, h => by
    rw [PL.free] at h
    rcases List.mem_append.mp h with h | h
    · exact T.free_small ok.2.1 s h
    · exact PL.free_small ok.2.2 s h
theorem WL.free_small : ∀ {t : WL} {bd : List Str}, t.Ok → ∀ s ∈ t.free bd, SmallN s
  | .nil, _, _, s, h => by simp [WL.free] at h
  | .cons c xs t r, bd, ok, s, h => by
    rw [WL.free] at h
    rcases List.mem_append.mp h with h | h
    · exact T.free_small ok.2.2.2.2.1 s h
    · exact WL.free_small ok.2.2.2.2.2 s h
end
theorem nm_sOk {s : Str} (h : Nm s) : sOk s := fun c hc => by have := h.1 c hc; omega
/-! ### keys of a dict -/
def repK (ks : List Str) : List (Key × D) := ks.map fun s => (.inr s, .bl true)
def ddK (ks : List Str) (s : Str) : List Str := if s ∈ ks then ks else ks ++ [s]
theorem putG_rep (ks : List Str) (s : Str) : putG (repK ks) (.inr s) (.bl true) = repK (ddK ks s) := by
  unfold putG ddK repK
  have e : ((ks.map fun s => ((.inr s : Key), D.bl true)).any fun kv => decide (kv.1 = .inr s)) = decide (s ∈ ks) := by
    induction ks with
    | nil => rfl
    | cons k ks ih =>
      simp only [List.map_cons, List.any_cons, ih, List.mem_cons, Bool.decide_or, Sum.inr.injEq]
      congr 1
      exact decide_eq_decide.mpr eq_comm
  rw [e]
  by_cases h : s ∈ ks
  · simp only [h, decide_true, if_true]
    rw [List.map_map]
    refine List.map_congr_left fun x hx => ?_
    simp only [Function.comp_apply]
    split
    · rename_i hh; cases hh; rfl
    · rfl
  · simp only [h, decide_false, Bool.false_eq_true, if_false, List.map_append, List.map_cons, List.map_nil]
theorem ddK_len (ks : List Str) (s : Str) : (ddK ks s).length ≤ ks.length + 1 := by
  unfold ddK; split <;> simp
theorem dd_len : ∀ (xs ks : List Str), (xs.foldl ddK ks).length ≤ ks.length + xs.length
  | [], ks => by simp
  | x :: xs, ks => by
    have := dd_len xs (ddK ks x)
    have := ddK_len ks x
    simp only [List.foldl_cons, List.length_cons]; omega
theorem dd_mem : ∀ (xs ks : List Str) (s : Str), s ∈ xs.foldl ddK ks ↔ s ∈ ks ∨ s ∈ xs
  | [], ks, s => by simp
  | x :: xs, ks, s => by
    rw [List.foldl_cons, dd_mem xs]
    unfold ddK
    split
    · rename_i h
      simp only [List.mem_cons]
      constructor
      · rintro (a | a)
        · exact .inl a
        · exact .inr (.inr a)
      · rintro (a | rfl | a)
        · exact .inl a
        · exact .inl h
        · exact .inr a
    · simp only [List.mem_append, List.mem_cons, List.not_mem_nil, or_false, or_assoc]
theorem dd_nodup : ∀ (xs ks : List Str), ks.Nodup → (xs.foldl ddK ks).Nodup
  | [], ks, h => h
  | x :: xs, ks, h => by
    rw [List.foldl_cons]
    refine dd_nodup xs _ ?_
    unfold ddK
    split
    · exact h
    · rename_i hx
      exact List.nodup_append.mpr ⟨h, List.nodup_cons.mpr ⟨List.not_mem_nil, List.nodup_nil⟩, fun a ha b hb e => hx (by rw [List.mem_singleton.mp hb] at e; rw [← e]; exact ha)⟩
theorem keys_rep : ∀ ks : List Str, keysS (repK ks) = some ks
  | [] => rfl
  | k :: ks => by
    have := keys_rep ks
    simp only [repK, List.map_cons, keysS] at this ⊢
    rw [this]; rfl
def T.tag : T → String
  | .num _ => "num"
  | .name _ => "name"
  | .make _ => "make"
  | .app _ _ => "app"
  | .op _ _ _ => "op"
  | .fn _ _ => "fun"
  | .lt _ _ => "let"
  | .cs _ _ => "case"
theorem tag_d : ∀ t : T, ∃ r : List D, t.d = .tup (.str t.tag :: r)
  | .num _ => ⟨_, rfl⟩
  | .name _ => ⟨_, rfl⟩
  | .make _ => ⟨_, rfl⟩
  | .app _ _ => ⟨_, rfl⟩
  | .op _ _ _ => ⟨_, rfl⟩
  | .fn _ _ => ⟨_, rfl⟩
  | .lt _ _ => ⟨_, rfl⟩
  | .cs _ _ => ⟨_, rfl⟩
theorem name_or (t : T) : (∃ s, t = .name s) ∨ (t.tag ≠ "name" ∧ ∀ bd, ownN t bd = []) := by
  cases t with
  | name s => exact .inl ⟨s, rfl⟩
  | _ => exact .inr ⟨by simp [T.tag], fun _ => rfl⟩
theorem dd_sorted : ∀ (xs ks : List Str), (ks ++ xs).Pairwise leS → (xs.foldl ddK ks).Pairwise leS
  | [], ks, h => by simpa using h
  | x :: xs, ks, h => by
    rw [List.foldl_cons]
    refine dd_sorted xs _ ?_
    unfold ddK
    split
    · exact h.sublist (List.Sublist.append (List.Sublist.refl _) (List.sublist_cons_self x xs))
    · simpa [List.append_assoc] using h
theorem dd_sort (xs : List Str) : (sortS xs).foldl ddK [] = sortS (xs.foldl ddK []) := by
  refine sorted_unique ?_ (dd_sorted _ [] (by simpa using sortS_sorted xs)) (sortS_sorted _)
  refine (List.perm_ext_iff_of_nodup (dd_nodup _ _ List.nodup_nil) ((sortS_perm _).nodup_iff.mpr (dd_nodup _ _ List.nodup_nil))).mpr fun s => ?_
  rw [dd_mem, (sortS_perm _).mem_iff, (sortS_perm _).mem_iff, dd_mem]
theorem d_sortedL (ss : List Str) : sortedD [.lst (ss.map D.str)] = some (.lst ((sortS ss).map .str)) := by
  simp only [sortedD, sortedO, strsOf_map, Option.map_some, Option.bind_some, see_lst]
theorem o_sortedK (ks : List Str) (h : ∀ s ∈ ks, sOk s) : sortedO [.dic (repK ks)] = some (.lst ((sortS ks).map .str)) := by
  simp only [sortedO, keys_rep, Option.bind_some]
  rw [if_pos h]
theorem d_isaL (ds : List D) : isaD [.lst ds, .ty "list"] = some (.bl true) := rfl
end M

namespace M
open PySem PySem.Spec PyProof.Rows L2
/-! ### == of deeper data, where there is room -/
def eqGw (a b : D) : Option Bool := if a.plain = true ∧ b.plain = true ∧ min a.py.depth b.py.depth ≤ 1000 then some (PyData.eqv a.py b.py) else none
def eqQw : D → D → Option Bool
  | .str a, .str b => some (decide (a = b))
  | .int a, .int b => some (decide (a = b))
  | .tup xs, .tup [] => some xs.isEmpty
  | a, b => eqGw a b
def eqW (a b : D) : Option D := (eqQw a b).map .bl
def neQw : D → D → Option Bool
  | .str a, .str b => some (decide (a = b))
  | .int a, .int b => some (decide (a = b))
  | a, b => eqGw a b
def neW (a b : D) : Option D := (neQw a b).map fun k => .bl (!k)
def NeValsW (K : PySem.W.Frag) (H : Hp) (x y : V) (b : Bool) : Prop :=
  (∃ i j, x = .str i ∧ y = .str j ∧ b = decide (i = j)) ∨ (∃ i j, x = .int i ∧ y = .int j ∧ b = decide (i = j)) ∨
  ∃ F dx dy, Same F H ∧ RpO K F H x dx ∧ RpO K F H y dy ∧ dx.plain = true ∧ dy.plain = true ∧ min dx.py.depth dy.py.depth ≤ 1000 ∧ b = PyData.eqv dx.py dy.py
def EqValsW (K : PySem.W.Frag) (H : Hp) (x y : V) (b : Bool) : Prop := (∃ p q xs, x = .ref p ∧ y = .ref q ∧ SqT K H p xs ∧ SqT K H q [] ∧ b = xs.isEmpty) ∨ NeValsW K H x y b
def rEqW (K : PySem.W.Frag) : R2 := fun x y H Q => ∃ b, EqValsW K H x y b ∧ Q (.bl b) H
def rNeW (K : PySem.W.Frag) : R2 := fun x y H Q => ∃ b, NeValsW K H x y b ∧ Q (.bl (!b)) H
section
variable {X : Cx}
theorem op_eqW (hu : X.A.units + 1000 < cLine) : OpR X (compareOp .Eq) (rEqW X.K) := by
  intro pins s σ H x y v u Q I rx ry h
  obtain ⟨b, h, q⟩ := h
  rcases h with h | h | h | ⟨F, dx, dy, sf, h1, h2, p1, p2, hz, rfl⟩
  · exact op_eqX (by omega) pins s σ H x y v u Q I rx ry ⟨b, .inl h, q⟩
  · exact op_eqX (by omega) pins s σ H x y v u Q I rx ry ⟨b, .inr (.inl h), q⟩
  · exact op_eqX (by omega) pins s σ H x y v u Q I rx ry ⟨b, .inr (.inr (.inl h)), q⟩
  · obtain ⟨⟨as, q1⟩, l1⟩ := rpo_reads I sf p1 h1 rx
    obtain ⟨⟨bs, q2⟩, l2⟩ := rpo_reads I sf p2 h2 ry
    exact SeqAt.compareEq_reads q1 q2 l1 l2 (by omega) ⟨.bl _, H, I, rfl, q⟩
theorem op_neW (hu : X.A.units + 1000 < cLine) : OpR X (compareOp .NotEq) (rNeW X.K) := by
  intro pins s σ H x y v u Q I rx ry h
  obtain ⟨b, h, q⟩ := h
  rcases h with h | h | ⟨F, dx, dy, sf, h1, h2, p1, p2, hz, rfl⟩
  · exact op_neX (by omega) pins s σ H x y v u Q I rx ry ⟨b, .inl h, q⟩
  · exact op_neX (by omega) pins s σ H x y v u Q I rx ry ⟨b, .inr (.inl h), q⟩
  · obtain ⟨⟨as, q1⟩, l1⟩ := rpo_reads I sf p1 h1 rx
    obtain ⟨⟨bs, q2⟩, l2⟩ := rpo_reads I sf p2 h2 ry
    exact SeqAt.compareNe_reads q1 q2 l1 l2 (by omega) ⟨.bl _, H, I, rfl, q⟩
end
theorem eqGw_vals {K : PySem.W.Frag} {F H : Hp} {x y : V} {dx dy : D} {b : Bool} (sf : Same F H) (rx : RpO K F H x dx) (ry : RpO K F H y dy) (h : eqGw dx dy = some b) : NeValsW K H x y b := by
  unfold eqGw at h
  split at h
  · rename_i hz
    cases h
    exact .inr (.inr ⟨F, dx, dy, sf, rx, ry, hz.1, hz.2.1, hz.2.2, rfl⟩)
  · cases h
theorem neQw_vals {K : PySem.W.Frag} {F H : Hp} {x y : V} {dx dy : D} {b : Bool} (sf : Same F H) (rx : RpO K F H x dx) (ry : RpO K F H y dy) (h : neQw dx dy = some b) : NeValsW K H x y b := by
  unfold neQw at h
  split at h
  · cases h; exact .inl ⟨_, _, rx.str.1, ry.str.1, rfl⟩
  · cases h; exact .inr (.inl ⟨_, _, rx.int, ry.int, rfl⟩)
  · exact eqGw_vals sf rx ry h
theorem eqQw_vals {K : PySem.W.Frag} {F H : Hp} {x y : V} {dx dy : D} {b : Bool} (sf : Same F H) (rx : RpO K F H x dx) (ry : RpO K F H y dy) (h : eqQw dx dy = some b) : EqValsW K H x y b := by
  unfold eqQw at h
  split at h
  · cases h; exact .inr (.inl ⟨_, _, rx.str.1, ry.str.1, rfl⟩)
  · cases h; exact .inr (.inr (.inl ⟨_, _, rx.int, ry.int, rfl⟩))
  · cases h
    obtain ⟨p, us, e1, t1, _, r1⟩ := rx.tup' sf
    obtain ⟨q, ws, e2, t2, _, r2⟩ := ry.tup' sf
    cases r2
    refine .inl ⟨p, q, us, e1, e2, t1, t2, ?_⟩
    cases r1 <;> rfl
  · exact .inr (eqGw_vals sf rx ry h)
theorem om_eqW {K : PySem.W.Frag} : OpM K (rEqW K) eqW := by
  intro B F e σ H x y dx dy d Q I rx ry hf q
  obtain ⟨b, h1, h2⟩ := Option.map_eq_some_iff.mp hf
  subst h2
  exact ⟨b, eqQw_vals I.sf rx ry h1, q F _ H (Same.refl F) I (.bl _)⟩
theorem om_neW {K : PySem.W.Frag} : OpM K (rNeW K) neW := by
  intro B F e σ H x y dx dy d Q I rx ry hf q
  obtain ⟨b, h1, h2⟩ := Option.map_eq_some_iff.mp hf
  subst h2
  exact ⟨b, neQw_vals I.sf rx ry h1, q F _ H (Same.refl F) I (.bl _)⟩
theorem hu1000 {A : Around} {k : Nat} (hr : RoomT k A) (hk : 160 ≤ k := by decide) : A.units + 1000 < cLine := by have := hr.un; omega
section
variable {X : Cx} {K : PySem.W.Frag}
theorem oeqW (hu : X.A.units + 1000 < cLine) (hK : X.K = K := by rfl) : OpR X (compareOp .Eq) (rEqW K) := by subst hK; exact op_eqW hu
theorem oneW (hu : X.A.units + 1000 < cLine) (hK : X.K = K := by rfl) : OpR X (compareOp .NotEq) (rNeW K) := by subst hK; exact op_neW hu
end
/-! ### data are like themselves -/
mutual
theorem eqv_refl : ∀ d : D, d.plain = true → PyData.eqv d.py d.py = true
  | .non, _ => by simp [D.py, PyData.eqv]
  | .bl b, _ => by simp [D.py, PyData.eqv]
  | .int i, _ => by simp [D.py, PyData.eqv]
  | .str s, _ => by simp [D.py, PyData.eqv]
  | .lst xs, h => by rw [D.plain] at h; simp only [D.py, PyData.eqv]; exact eqvs_refl xs h
  | .tup xs, h => by rw [D.plain] at h; simp only [D.py, PyData.eqv]; exact eqvs_refl xs h
  | .dic _, h => by rw [D.plain] at h; cases h
  | .ty _, h => by rw [D.plain] at h; cases h
  | .fn _, h => by rw [D.plain] at h; cases h
theorem eqvs_refl : ∀ ds : List D, D.plains ds = true → PyData.eqvAll (D.pys ds) (D.pys ds) = true
  | [], _ => by simp [D.pys, PyData.eqvAll]
  | d :: ds, h => by
    rw [D.plains, Bool.and_eq_true] at h
    simp only [D.pys, PyData.eqvAll, eqv_refl d h.1, eqvs_refl ds h.2, Bool.and_self]
end
mutual
theorem T.plain : ∀ t : T, t.d.plain = true
  | .num _ => rfl
  | .name _ => rfl
  | .make _ => rfl
  | .app a b => by simp only [T.d, D.plain, D.plains, a.plain, b.plain, Bool.and_self]
  | .op _ a b => by simp only [T.d, D.plain, D.plains, a.plain, b.plain, Bool.and_self]
  | .fn _ b => by simp only [T.d, D.plain, D.plains, b.plain, Bool.and_self]
  | .lt ps b => by simp only [T.d, D.plain, D.plains, ps.plain, b.plain, Bool.and_self]
  | .cs a ws => by simp only [T.d, D.plain, D.plains, a.plain, ws.plain, Bool.and_self]
theorem PL.plain : ∀ t : PL, D.plains t.d = true
  | .nil => rfl
  | .cons x t r => by simp only [PL.d, D.plain, D.plains, t.plain, r.plain, Bool.and_self]
theorem WL.plain : ∀ t : WL, D.plains t.d = true
  | .nil => rfl
  | .cons c xs t r => by simp only [WL.d, D.plain, D.plains, t.plain, r.plain, plains_strs, Bool.and_self]
end
mutual
theorem T.depth : ∀ t : T, t.d.py.depth ≤ 3 * t.h + 1
  | .num _ => by simp [T.d, T.h, D.py, D.pys, PyData.depth, PyData.depthAll]
  | .name _ => by simp [T.d, T.h, D.py, D.pys, PyData.depth, PyData.depthAll]
  | .make _ => by simp [T.d, T.h, D.py, D.pys, PyData.depth, PyData.depthAll]
  | .app a b => by have := a.depth; have := b.depth; simp only [T.d, T.h, D.py, D.pys, PyData.depth, PyData.depthAll]; omega
  | .op _ a b => by have := a.depth; have := b.depth; simp only [T.d, T.h, D.py, D.pys, PyData.depth, PyData.depthAll]; omega
  | .fn _ b => by have := b.depth; simp only [T.d, T.h, D.py, D.pys, PyData.depth, PyData.depthAll]; omega
  | .lt ps b => by have := ps.depth; have := b.depth; simp only [T.d, T.h, D.py, D.pys, PyData.depth, PyData.depthAll]; omega
  | .cs a ws => by have := a.depth; have := ws.depth; simp only [T.d, T.h, D.py, D.pys, PyData.depth, PyData.depthAll]; omega
theorem PL.depth : ∀ t : PL, PyData.depthAll (D.pys t.d) ≤ 3 * t.h + 2
  | .nil => by simp [PL.d, D.pys, PyData.depthAll]
  | .cons x t r => by have := t.depth; have := r.depth; simp only [PL.d, PL.h, D.py, D.pys, PyData.depth, PyData.depthAll]; omega
theorem WL.depth : ∀ t : WL, PyData.depthAll (D.pys t.d) ≤ 3 * t.h + 2
  | .nil => by simp [WL.d, D.pys, PyData.depthAll]
  | .cons c xs t r => by have := t.depth; have := r.depth; have := depth_strs xs; have := t.h_pos; simp only [WL.d, WL.h, D.py, D.pys, PyData.depth, PyData.depthAll, pys_strs]; omega
end
theorem eqW_self {d : D} (hp : d.plain = true) (hd : d.py.depth ≤ 1000) : eqW d d = some (.bl true) := by
  have g : eqGw d d = some true := by
    unfold eqGw
    rw [if_pos ⟨hp, hp, by omega⟩, eqv_refl d hp]
  unfold eqW eqQw
  split
  · simp
  · simp
  · rfl
  · rw [g]; rfl
theorem eq_self200 {d : D} (hp : d.plain = true) (hd : d.py.depth ≤ 200) : eqD d d = some (.bl true) := by
  have g : eqG d d = some true := by
    unfold eqG
    rw [if_pos ⟨hp, hp, by omega⟩, eqv_refl d hp]
  unfold eqD eqQ
  split
  · simp
  · simp
  · rfl
  · rw [g]; rfl
theorem d_eqWS (a b : Str) : eqW (.str a) (.str b) = some (.bl (decide (a = b))) := rfl
theorem d_neWS (a b : Str) : neW (.str a) (.str b) = some (.bl (!decide (a = b))) := rfl
theorem d_eqWI (a b : Int) : eqW (.int a) (.int b) = some (.bl (decide (a = b))) := rfl
theorem d_neWI (a b : Int) : neW (.int a) (.int b) = some (.bl (!decide (a = b))) := rfl
theorem d_eqWT (xs : List D) : eqW (.tup xs) (.tup []) = some (.bl xs.isEmpty) := rfl
/-! ### a closed term put for a name -/
mutual
def T.put (x : Str) (c : T) : T → T
  | .num i => .num i
  | .name s => if s = x then c else .name s
  | .make s => .make s
  | .app a b => .app ((T.put x c a)) ((T.put x c b))
  | .op o a b => .op o ((T.put x c a)) ((T.put x c b))
  | .fn y b => if y = x then .fn y b else .fn y ((T.put x c b))
  | .lt ps b => if x ∈ ps.names then .lt ps b else .lt ((PL.put x c ps)) ((T.put x c b))
  | .cs a ws => .cs ((T.put x c a)) ((WL.put x c ws))
def PL.put (x : Str) (c : T) : PL → PL
  | .nil => .nil
  | .cons y t r => .cons y ((T.put x c t)) ((PL.put x c r))
def WL.put (x : Str) (c : T) : WL → WL
  | .nil => .nil
  | .cons k xs t r => .cons k xs (if x ∈ xs then t else (T.put x c t)) ((WL.put x c r))
end
mutual
theorem T.put_h (x : Str) (c : T) : ∀ t : T, (T.put x c t).h ≤ t.h + c.h
  | .num i => by simp [T.put, T.h]
  | .name s => by rw [T.put]; split <;> simp [T.h]
  | .make s => by simp [T.put, T.h]
  | .app a b => by have := T.put_h x c a; have := T.put_h x c b; simp only [T.put, T.h]; omega
  | .op o a b => by have := T.put_h x c a; have := T.put_h x c b; simp only [T.put, T.h]; omega
  | .fn y b => by have := T.put_h x c b; rw [T.put]; split <;> simp only [T.h] <;> omega
  | .lt ps b => by have := PL.put_h x c ps; have := T.put_h x c b; rw [T.put]; split <;> simp only [T.h] <;> omega
  | .cs a ws => by have := T.put_h x c a; have := WL.put_h x c ws; simp only [T.put, T.h]; omega
theorem PL.put_h (x : Str) (c : T) : ∀ t : PL, ((PL.put x c t)).h ≤ t.h + c.h
  | .nil => by simp [PL.put, PL.h]
  | .cons y t r => by have := T.put_h x c t; have := PL.put_h x c r; simp only [PL.put, PL.h]; omega
theorem WL.put_h (x : Str) (c : T) : ∀ t : WL, ((WL.put x c t)).h ≤ t.h + c.h
  | .nil => by simp [WL.put, WL.h]
  | .cons k xs t r => by
    have := T.put_h x c t
    have := WL.put_h x c r
    simp only [WL.put, WL.h]
    split <;> omega
end
theorem pl_put (x : Str) (c : T) : ∀ ps : PL, ((PL.put x c ps)).d = (plI ps).map fun q => plD (q.1, (T.put x c q.2))
  | .nil => rfl
  | .cons y t r => by simp only [PL.put, PL.d, plI, List.map_cons, pl_put x c r]; rfl
theorem wl_put (x : Str) (c : T) : ∀ ps : WL, (WL.put x c ps).d = (wlI ps).map fun q => wlD (q.1, q.2.1, if x ∈ q.2.1 then q.2.2 else T.put x c q.2.2)
  | .nil => rfl
  | .cons k xs t r => by
    have := wl_put x c r
    simp only [WL.put, WL.d, wlI, List.map_cons, this, wlD]
theorem pl_mem : ∀ {ps : PL} {q : Str × T}, q ∈ plI ps → q.2.h ≤ ps.h ∧ q.2.z ≤ ps.z
  | .nil, _, h => nomatch h
  | .cons x t r, q, h => by
    simp only [PL.h, PL.z]
    rcases List.mem_cons.mp h with rfl | h
    · simp only; omega
    · have := pl_mem h; omega
theorem wl_mem : ∀ {ps : WL} {q : Str × List Str × T}, q ∈ wlI ps → q.2.2.h ≤ ps.h ∧ q.2.2.z ≤ ps.z
  | .nil, _, h => nomatch h
  | .cons c xs t r, q, h => by
    simp only [WL.h, WL.z]
    rcases List.mem_cons.mp h with rfl | h
    · simp only; omega
    · have := wl_mem h; omega
/-! ### by number -/
theorem ixN_nat {n k : Nat} (h : k < n) : ixN n ((k : Nat) : Int) = some k := by
  simp only [ixN]
  rw [if_pos (by omega), if_pos (by omega)]
  simp
theorem ixT_nat {xs : List D} {k : Nat} (h : k < xs.length) : ixD (.tup xs) (.int (0 + (k : Nat))) = some (xs.getD k .non) := by
  rw [Int.zero_add]
  simp only [ixD, atI, ixN_nat h, Option.bind_some, List.getD_eq_getElem?_getD]
  rw [List.getElem?_eq_getElem h]; rfl
theorem ixL_nat {xs : List D} {k : Nat} (h : k < xs.length) : ixD (.lst xs) (.int (0 + (k : Nat))) = some (xs.getD k .non) := by
  rw [Int.zero_add]
  simp only [ixD, atI, ixN_nat h, Option.bind_some, List.getD_eq_getElem?_getD]
  rw [List.getElem?_eq_getElem h]; rfl
theorem ixL_nat1 {x : D} {xs : List D} {k : Nat} (h : k < xs.length) : ixD (.lst (x :: xs)) (.int (0 + (k : Nat) + 1)) = some (xs.getD k .non) := by
  have e : ((0 : Int) + (k : Nat) + 1) = 0 + ((k + 1 : Nat) : Nat) := by omega
  rw [e, ixL_nat (by simpa using h)]
  rfl
theorem ixL_last (xs : List D) (y : D) : ixD (.lst (xs ++ [y])) (.int (-1)) = some y := by
  have h : ixN (xs ++ [y]).length (-1) = some xs.length := by
    simp only [ixN, List.length_append, List.length_cons, List.length_nil]
    rw [if_neg (by omega), if_pos (by omega)]
    congr 1
    omega
  simp only [ixD, atI, h, Option.bind_some]
  simp
theorem rng_getD {α β : Type} (L : List α) (a : α) (F : α → β) : ((List.range L.length).map fun k => F (L.getD k a)) = L.map F := by
  apply List.ext_getElem
  · simp
  · intro i h1 h2
    have h3 : i < L.length := by simpa using h1
    simp [h3]
theorem getD_map {α : Type} (L : List α) (F : α → D) (k : Nat) (a : α) (h : k < L.length) : (L.map F).getD k .non = F (L.getD k a) := by
  simp [h]
theorem rng_okI {k : Int} (h0 : 0 ≤ k) (h : k ≤ 8000000) : -4611686018427387904 ≤ k ∧ k < 4611686018427387904 := ⟨by omega, by omega⟩
theorem rng_ok {n : Nat} (h : n ≤ 8000000) : -4611686018427387904 ≤ (n : Int) ∧ (n : Int) < 4611686018427387904 := rng_okI (Int.natCast_nonneg n) (Int.ofNat_le.mpr h)
theorem rngD_nat (n : Nat) : rngD 0 ((n : Int).toNat) = (List.range n).map fun k => D.int (0 + (k : Nat)) := by rw [Int.toNat_natCast]; rfl
end M

set_option maxHeartbeats 4000000
/-! ### t[::-1] -/
namespace HT
open PySem PySem.Spec PyProof.Rows L2
section
variable {prog : Program} {w : World} {A : Around} {E : Value → Shared → Prop} {s : Shared}
theorem sliceApplied_rev {sl : Addr} {u : Tok} {n : Nat} {Q : Int × Int × Nat → Shared → Prop} (hs : s.heap.IsSliceOf sl .none .none (.int (-1) u))
    (h : Q ((n : Int) - 1, -1, n) s) : wpAny (model prog w) A (Builtin.Slice.sliceApplied (.ref sl) (pure (n : Int))) Q E s := by
  obtain ⟨os, hos, hcs, hds⟩ := id hs
  unfold Builtin.Slice.sliceApplied Builtin.Slice.sliceFields
  refine wpAny_bind (wpAny_bind (wpAny_field hos hds (x := .none) rfl (wpAny_bind (wpAny_field hos hds (x := .none) rfl (wpAny_bind (wpAny_field hos hds (x := .int (-1) u) rfl (wpAny_pure ?_)))))))
  refine wpAny_bind (slicePart_int ?_)
  show wpAny _ _ (if ((-1 : Int) == 0) = true then _ else _) _ _ s
  rw [if_neg (by decide)]
  refine wpAny_bind (slicePart_none (wpAny_bind (slicePart_none (wpAny_bind (wpAny_pure ?_)))))
  show wpAny _ _ (match Builtin.Slice.sliceAdjust none none (-1) (n : Int) with | (lo, hi) => pure (lo, (-1 : Int), Builtin.Slice.slicePlaces lo hi (-1))) _ _ s
  have e : Builtin.Slice.sliceAdjust none none (-1) (n : Int) = ((n : Int) - 1, -1) := by
    unfold Builtin.Slice.sliceAdjust
    rfl
  rw [e]
  show wpAny _ _ (pure ((n : Int) - 1, (-1 : Int), Builtin.Slice.slicePlaces ((n : Int) - 1) (-1) (-1))) _ _ s
  have e2 : Builtin.Slice.slicePlaces ((n : Int) - 1) (-1) (-1) = n := by
    unfold Builtin.Slice.slicePlaces
    simp only [show ¬ ((-1 : Int) > 0) by omega, if_false, Int.neg_neg, Int.ediv_one]
    split <;> omega
  rw [e2]
  exact wpAny_pure h
theorem fm_some {α β : Type} {f : α → Option β} {g : α → β} : ∀ {l : List α}, (∀ m ∈ l, f m = some (g m)) → l.filterMap f = l.map g
  | [], _ => rfl
  | a :: l, h => by
    rw [List.filterMap_cons, h a (List.mem_cons_self ..), List.map_cons, fm_some fun m hm => h m (List.mem_cons_of_mem _ hm)]
theorem pick_rev (xs : Array Value) : ((List.range xs.size).filterMap fun (m : Nat) => xs[(((xs.size : Nat) : Int) - 1 + (m : Int) * -1).toNat]?).toArray = xs.toList.reverse.toArray := by
  congr 1
  have e : (List.range xs.size).filterMap (fun (m : Nat) => xs[(((xs.size : Nat) : Int) - 1 + (m : Int) * -1).toNat]?) = (List.range xs.size).map fun m => xs.toList.getD (xs.size - 1 - m) .none := by
    refine fm_some fun m hm => ?_
    have hm : m < xs.size := List.mem_range.mp hm
    have e1 : (((xs.size : Nat) : Int) - 1 + (m : Int) * -1).toNat = xs.size - 1 - m := by omega
    rw [e1]
    have hl : xs.size - 1 - m < xs.size := by omega
    simp [List.getD_eq_getElem?_getD, hl]
  rw [e]
  apply List.ext_getElem
  · simp
  · intro i h1 h2
    have hi : i < xs.size := by simpa using h1
    simp only [List.getElem_map, List.getElem_range, List.getElem_reverse, List.getD_eq_getElem?_getD]
    have hl : xs.size - 1 - i < xs.toList.length := by rw [Array.length_toList]; omega
    rw [List.getElem?_eq_getElem hl]
    simp
theorem getItem_tuple_rev {t sl : Addr} {items : Array Value} {u : Tok} {Q : Value → Shared → Prop} (ht : IsTup s.heap t items) (hs : s.heap.IsSliceOf sl .none .none (.int (-1) u))
    (h : Q (.ref s.heap.objs.size) { s with heap := s.heap.push { cls := .type "tuple", data := .seq items.toList.reverse.toArray } })
    (hsz : items.size ≤ sizeLine) : wpAny (model prog w) A (getItem (.ref t) (.ref sl)) Q E s := by
  have htake : sizeOk (.seq items.toList.reverse.toArray) := by
    show items.toList.reverse.toArray.size ≤ sizeLine
    simpa using hsz
  obtain ⟨os, hos, hcs, hds⟩ := id hs
  have hTs : s.TypeIs (.ref sl) "slice" := ⟨os, hos, hcs⟩
  unfold getItem
  try with_reducible refine wpAny_holding ?_
  first | refine wpAny_bind (wpAny_pure ?_) | skip
  refine wpAny_bind (wpAny_sequenceKey ht.typeIs (by decide) ?_)
  refine wpAny_bind (wpAny_callSpecial?_slot (name := Str.ofString "__getitem__") ht.typeIs PyProof.Rows.slot_tuple_getitem
    (wpAny_call_entry PyProof.Rows.slot_tuple_getitem ht.typeIs entry_tuple_getitem ?_ (args_tuple_getitem _ _)))
  show wpAny _ _ (Builtin.Tuple.tupleItemsOf (.ref t) >>= _) _ _ s
  refine wpAny_bind (tupleItemsOf_ ht ?_)
  refine wpAny_bind (wpAny_typeOf hTs ?_)
  rw [if_pos (by decide)]
  refine wpAny_bind (sliceApplied_rev hs ?_)
  show wpAny _ _ (if ((((items.size : Nat) : Int) - 1) == 0 && (-1 : Int) == 1 && items.size == items.size) = true then _ else _) _ _ s
  rw [if_neg (by simp), pick_rev]
  first
    | exact wpAny_bind (m := Builtin.Tuple.tupleExact _) (wpAny_newObj_type (wpAny_pure ⟨_, rfl, wpAny_pure h⟩) htake)
    | exact wpAny_bind (m := Builtin.Tuple.tupleExact _) (wpAny_newObj_type (wpAny_bind (wpAny_pure (wpAny_pure ⟨_, rfl, wpAny_pure h⟩))) htake)
    | exact wpAny_bind (wpAny_bind (m := Builtin.Tuple.tupleExact _) (wpAny_newObj_type (wpAny_pure (wpAny_pure ⟨_, rfl, wpAny_pure h⟩)) htake))
    | exact wpAny_bind (wpAny_bind (m := Builtin.Tuple.tupleExact _) (wpAny_newObj_type (wpAny_pure ⟨_, rfl, wpAny_pure h⟩) htake))
end
end HT
namespace M
open PySem PySem.Spec PyProof.Rows L2
def tRevT (K : PySem.W.Frag) (te : TE) : TE := fun σ H Q => te σ H fun x H1 => ∃ a xs, x = .ref a ∧ SqT K H1 a xs ∧ ∀ p, H1 p = none → Q (.ref p) (upd H1 p (.tup xs.reverse))
theorem pe_revT {X : Cx} {e : Expr} {te : TE} {k : Nat} {p1 p2 p3 pos : Pos} (he : PE X e te) : PE X (.Subscript e (.Slice none none (some (.UnaryOp .USub (.Constant (.int 1) k p1) p2)) p3) pos) (tRevT X.K te) := by
  refine ⟨fun pins s σ H Q I h => ?_⟩
  refine Subscript_ (thn (he.run pins s σ H _ I h) fun v s1 ⟨x, H1, I1, r1, q1⟩ => ?_)
  obtain ⟨a, xs, ex, hx, q⟩ := q1
  subst ex
  cases r1
  have hst : PO X (some (.UnaryOp .USub (.Constant (.int 1) k p1) p2)) (tPart (tUn (rU fun i => .int (-i)) (tC (.int 1)))) := po_some (pe_un un_neg pe_int)
  refine wpAny_Slice (thn (po_none.run pins s1 σ H1 (fun o H2 => o = none ∧ H2 = H1) I1 ⟨rfl, rfl⟩) fun vl s2 ⟨l, H2, I2, pl, el, e2⟩ => ?_)
  subst el e2
  refine thn (po_none.run pins s2 σ H2 (fun o H3 => o = none ∧ H3 = H2) I2 ⟨rfl, rfl⟩) fun vu s3 ⟨u, H3, I3, pu, eu, e3⟩ => ?_
  subst eu e3
  refine thn (hst.run pins s3 σ H3 (fun o H4 => o = some (-1) ∧ H4 = H3) I3 ⟨1, rfl, -1, rfl, rfl, rfl⟩) fun vs s4 ⟨o, H4, I4, ps, eo, e4⟩ => ?_
  subst eo e4
  have I5 : Inv X pins σ H4 { s4 with heap := s4.heap.push { cls := .type "slice", data := .fields #[vl, vu, vs] } } := I4.kept (t' := s4.toks) fun b ob q => Heap.get?_push_of_some _ q
  obtain ⟨its, r, ht, hz⟩ := I5.tuple hx
  have hlen := r.length
  cases pl
  cases pu
  cases ps
  show wpAny (model X.prog X.w) X.A (subscriptTail e (.Slice none none (some (.UnaryOp .USub (.Constant (.int 1) k p1) p2)) p3) (.ref a) (.ref s4.heap.objs.size)) (EP X pins σ Q) X.xe { s4 with heap := s4.heap.push { cls := .type "slice", data := .fields #[.none, .none, .int (-1) _] } }
  refine tail_any (ops := [.ref a, .ref s4.heap.objs.size]) ht.typeIs (PyProof.Rows.slot_tuple_getitem.lookup) ?_ (by with_unfolding_all rfl)
  refine HT.getItem_tuple_rev ht (Heap.IsSliceOf.new _ _ _ _) ?_ (by rw [List.size_toArray]; omega)
  refine ⟨.ref _, _, I5.laid (t' := s4.toks) (o := .tup xs.reverse) (fun b ob q => Heap.get?_push_of_some _ q) (Nat.le_refl _) ?_, rfl, q _ (I5.hok.fresh (Nat.le_refl _))⟩
  exact ⟨by rw [List.length_reverse]; exact hz, _, r.reverse, IsTup.new _ _⟩
def fRevT (k : FK) : FE := fun e => (k e).bind fun p => (p.2 p.1).bind fun d => match d with
  | .tup ds => some (p.1, .tup ds.reverse)
  | _ => none
theorem jrevT {X : Cx} {np : Nat} {K : PySem.W.Frag} {e : Expr} {te : TE} {ke : FK} {k : Nat} {p1 p2 p3 pos : Pos} (h : JK X np e te ke) (hK : X.K = K := by rfl) : JE X np (.Subscript e (.Slice none none (some (.UnaryOp .USub (.Constant (.int 1) k p1) p2)) p3) pos) (tRevT K te) (fRevT ke) := by
  subst hK
  refine ⟨pe_revT h.pe, fun B F e σ H Q hn I e' d hf q => ?_⟩
  obtain ⟨⟨e1, ra⟩, h1, hf⟩ := bnd hf
  obtain ⟨x, h3, hf⟩ := bnd hf
  split at hf
  · rename_i ds
    cases hf
    refine h.de B F e σ H _ hn I e1 ra h1 fun F1 v H1 s1 I1 l1 => ?_
    obtain ⟨a, ys, e1, t1, g1, r1⟩ := (l1 F1 _ H1 _ (Same.refl _) I1 h3).tup' I1.sf
    refine ⟨a, ys, e1, t1, fun p hp => ?_⟩
    have sm := same_upd (o := .tup ys.reverse) (I1.free hp).1
    exact q _ _ _ (s1.trans sm) (I1.laid hp) (.tup (.inl (.inl upd_same)) (r1.reverse.mono sm))
  · cases hf
/-! ### functions as values -/
def FnAt (K : PySem.W.Frag) (mg : Str → Option Value) (x : Str) : Prop := ∀ f, PySem.W.nsIn K mainGlobals x = some (some (.ref f)) → mg x = some (.ref f)
def tblL {α : Type} (tbl : List (Str × α)) (x : Str) : Option α := (tbl.find? fun p => p.1 == x).map (·.2)
inductive TblOk (P : Program) (w : World) (K : PySem.W.Frag) (mg : Str → Option Value) (base : Heap) (k n : Nat) : List (Str × FC) → Prop
  | nil : TblOk P w K mg base k n []
  | cons {x : Str} {m : FC} {ps : List Str} {r : List (Str × FC)} : FnAt K mg x → DefOk P w K mg base x ps k n m → TblOk P w K mg base k n r → TblOk P w K mg base k n ((x, m) :: r)
theorem tblL_mem {α : Type} {tbl : List (Str × α)} {x : Str} {m : α} (h : tblL tbl x = some m) : (x, m) ∈ tbl := by
  unfold tblL at h
  obtain ⟨p, h1, h2⟩ := Option.map_eq_some_iff.mp h
  have h3 := List.find?_some h1
  have h4 := List.mem_of_find?_eq_some h1
  have e : p.1 = x := by simpa using h3
  rw [← e, ← h2]
  exact h4
theorem TblOk.get {P : Program} {w : World} {K : PySem.W.Frag} {mg : Str → Option Value} {base : Heap} {k n : Nat} {tbl : List (Str × FC)} (T : TblOk P w K mg base k n tbl) {x : Str} {m : FC} (h : (x, m) ∈ tbl) : FnAt K mg x ∧ ∃ ps, DefOk P w K mg base x ps k n m := by
  induction T with
  | nil => exact nomatch h
  | cons h1 h2 _ ih =>
    rcases List.mem_cons.mp h with e | h
    · cases e; exact ⟨h1, _, h2⟩
    · exact ih h
def tCallT (K : PySem.W.Frag) (i n : Nat) (tbl : List (Str × FC)) (t : TA) : TE := fun σ H Q => ∃ f x m, σ[i]? = some (some (.ref f)) ∧ (x, m) ∈ tbl ∧ PySem.W.nsIn K mainGlobals x = some (some (.ref f)) ∧ t σ H fun vs H1 => spM K n m vs H1 Q E0
def fCallV (i : Nat) (tbl : List (Str × FC)) (k : FA) : FE := fun e => match e[i]? with
  | some (.im (.fn x)) => match tblL tbl x with
    | some m => fCall m k e
    | none => none
  | _ => none
section
variable {X : Cx} {np : Nat}
theorem jcallV {K : PySem.W.Frag} {n k i : Nat} {x : Str} {p pos : Pos} {ex : Expr} {es : List Expr} {tbl : List (Str × FC)} {t : TA} {fa : FA} (T : TblOk X.prog X.w K X.mg X.base k n tbl) (hr : RoomT k X.A) (ha : JA X np (ex :: es) t fa)
    (hN : X.N[i]? = some x := by rfl) (hv : Vis X.env.scope x := by first | exact Or.inl rfl | exact Or.inr (Or.inl rfl) | exact Or.inr (Or.inr rfl))
    (hdb : (x == ("__debug__" : Str)) = false := by decide) (hcd : (x == ("__classdict__" : Str)) = false := by decide)
    (he : starEach (ex :: es) X.env = (false, eval ex X.env) :: starEach es X.env := by rfl) (hpl : (backTo pos (starEach es X.env)).any (·.1) = false := by rfl) (hK : X.K = K := by rfl) :
    JE X np (.Call (.Name x p) (ex :: es) [] pos) (tCallT K i n tbl t) (fCallV i tbl fa) := by
  subst hK
  refine ⟨⟨fun pins s σ H Q I h => ?_⟩, fun B F e σ H Q hn I e' d hf q => ?_⟩
  · obtain ⟨f, y, m, hs, hm, hns, ht⟩ := h
    obtain ⟨fa1, ps, f', fd, G, b, kp, e, l, kw⟩ := T.get hm
    have ef := (fa1 f hns).symm.trans e
    cases ef
    refine (pe_callLT (i := i) (f := f) (sp := spM X.K n m) (dvs := []) (E := E0) G hr hN hv kp b.b .nil pass0 ha.pa hdb hcd he hpl).run pins s σ H Q I ⟨hs, ?_⟩
    have e0 : (fun (vs : List V) (H1 : Hp) => spM X.K n m (vs ++ []) H1 Q E0) = fun vs H1 => spM X.K n m vs H1 Q E0 := by
      funext vs H1
      rw [List.append_nil]
    show t σ H (fun vs H1 => spM X.K n m (vs ++ []) H1 Q E0)
    rw [e0]
    exact ht
  · unfold fCallV at hf
    split at hf
    · rename_i y h0
      split at hf
      · rename_i m hm
        obtain ⟨v0, hv0, r0⟩ := I.slot h0
        obtain ⟨x0, e0, r1⟩ := r0.of_im
        subst e0
        cases r1 with
        | fn _ hns =>
          have hmem := tblL_mem hm
          obtain ⟨fa1, ps, f', fd, G, b, kp, e, l, kw⟩ := T.get hmem
          have z := de_call (E := E0) ha.de (fun {es r} h => l es r h) B F _ σ H Q hn I e' d hf q
          unfold tCall at z
          have e2 : (fun (vs : List V) (H1 : Hp) => spM X.K n m (vs ++ []) H1 Q E0) = fun vs H1 => spM X.K n m vs H1 Q E0 := by
            funext vs H1
            rw [List.append_nil]
          rw [e2] at z
          exact ⟨_, y, m, hv0, hmem, hns, z⟩
      · cases hf
    · cases hf
end
theorem fnAt_mk {K : PySem.W.Frag} {h : Heap} {mg : Str → Option Value} {x : Str} {f : Addr} (X : K.In h) (G : h.Ns mainGlobals mg) (a : PySem.W.nsIn K mainGlobals x = some (some (.ref f))) : FnAt K mg x := fun g hg => PySem.W.mg_of X G hg
theorem gl_fn {K : PySem.W.Frag} {h : Heap} {mg : Str → Option Value} {x : Str} {f : Addr} (X : K.In h) (G : h.Ns mainGlobals mg) (a : PySem.W.nsIn K mainGlobals x = some (some (.ref f))) : GlOk K mg x (.fn x) := ⟨_, .ref f, PySem.W.mg_of X G a, rfl, fun F => .fn x a⟩
section
variable (s : Sl) (e : Sls)
theorem c_fRevT (k : FK) : fRevT k (s :: e) = (k (s :: e)).bind fun p => (p.2 p.1).bind fun d => match d with
  | .tup ds => some (p.1, .tup ds.reverse)
  | _ => none := rfl
theorem c_fCallV (i : Nat) (tbl : List (Str × FC)) (k : FA) : fCallV i tbl k (s :: e) = match (s :: e)[i]? with
  | some (.im (.fn x)) => match tblL tbl x with
    | some m => fCall m k (s :: e)
    | none => none
  | _ => none := rfl
end
theorem tbl_cons {α : Type} (x y : Str) (m : α) (r : List (Str × α)) : tblL ((x, m) :: r) y = if x = y then some m else tblL r y := by
  unfold tblL
  rw [List.find?_cons]
  by_cases h : x = y
  · subst h; simp
  · have : (x == y) = false := by simpa using h
    simp [this, h]
end M

namespace M
open PySem PySem.Spec PyProof.Rows L2
/-! ### things of any form -/
/-- an ASCII text, not long -/
def Asc (s : Str) (n : Nat) : Prop := (∀ c ∈ s.cps.toList, c < 128) ∧ s.length ≤ n
/-- what is built: tuples, texts, numbers -/
inductive Pd : Nat → D → Prop
  | int {n : Nat} {i : Int} : 0 ≤ i → i < 10 ^ 20 → Pd n (.int i)
  | str {n : Nat} {s : Str} : Asc s 40 → Pd n (.str s)
  | tup {n : Nat} {ds : List D} : (∀ d ∈ ds, Pd n d) → ds.length ≤ 3300 → Pd (n + 1) (.tup ds)
/-- what comes of an exchange -/
inductive Wd : Nat → D → Prop
  | non {n : Nat} : Wd n .non
  | bl {n : Nat} (b : Bool) : Wd n (.bl b)
  | int {n : Nat} (i : Int) : i.natAbs.log2 < 1900 → Wd n (.int i)
  | str {n : Nat} {s : Str} : Asc s 100 → Wd n (.str s)
  | lst {n : Nat} (ds : List D) : Wd n (.lst ds)
  | dic {n : Nat} (es : List (Key × D)) : Wd n (.dic es)
  | tup {n : Nat} {ds : List D} : (∀ d ∈ ds, Wd n d) → ds.length ≤ 3900 → Wd (n + 1) (.tup ds)
theorem Asc.le {s : Str} {n m : Nat} (h : Asc s n) (hm : n ≤ m) : Asc s m := ⟨h.1, Nat.le_trans h.2 hm⟩
theorem Nm.asc {s : Str} (h : Nm s) : Asc s 40 := ⟨fun c hc => by have := h.1 c hc; omega, by have := h.2.2; omega⟩
theorem Pd.mono {n : Nat} {d : D} (h : Pd n d) : ∀ {m : Nat}, n ≤ m → Pd m d := by
  induction h with
  | int a b => intro m _; exact .int a b
  | str a => intro m _; exact .str a
  | tup a b ih =>
    intro m hm
    obtain ⟨k, rfl⟩ : ∃ k, m = k + 1 := ⟨m - 1, by omega⟩
    exact .tup (fun d hd => ih d hd (by omega)) b
theorem Wd.mono {n : Nat} {d : D} (h : Wd n d) : ∀ {m : Nat}, n ≤ m → Wd m d := by
  induction h with
  | non => intro m _; exact .non
  | bl b => intro m _; exact .bl b
  | int i h => intro m _; exact .int i h
  | str a => intro m _; exact .str a
  | lst ds => intro m _; exact .lst ds
  | dic ds => intro m _; exact .dic ds
  | tup a b ih =>
    intro m hm
    obtain ⟨k, rfl⟩ : ∃ k, m = k + 1 := ⟨m - 1, by omega⟩
    exact .tup (fun d hd => ih d hd (by omega)) b
theorem Pd.wd {n : Nat} {d : D} (h : Pd n d) : Wd n d := by
  induction h with
  | int a b =>
    refine .int _ ?_
    have := int_log a b
    rename_i i
    rcases log2_le (i := i) (k := 100) a (by omega) with h | h
    · omega
    · subst h; decide
  | str a => exact .str (a.le (by decide))
  | tup a b ih => exact .tup ih (by omega)
theorem plains_of : ∀ {ds : List D}, (∀ d ∈ ds, d.plain = true) → D.plains ds = true
  | [], _ => rfl
  | d :: ds, h => by simp only [D.plains, h d (List.mem_cons_self ..), plains_of fun x hx => h x (List.mem_cons_of_mem _ hx), Bool.and_self]
theorem Pd.plain {n : Nat} {d : D} (h : Pd n d) : d.plain = true := by
  induction h with
  | int a b => rfl
  | str a => rfl
  | tup a b ih => rw [D.plain]; exact plains_of ih
theorem pd_strs {n : Nat} {ss : List Str} (h : ∀ s ∈ ss, Asc s 40) : ∀ d ∈ ss.map D.str, Pd n d := fun d hd => by
  obtain ⟨s, hs, rfl⟩ := List.mem_map.mp hd
  exact .str (h s hs)
mutual
theorem Kd.pd : ∀ {n L : Nat} {d : D}, Kd n L d → L ≤ 3300 → Pd (2 * n) d
  | _, _, _, .num _, _ => .tup (fun d hd => by rw [List.mem_singleton.mp hd]; exact .str ⟨by decide +kernel, by decide +kernel⟩) (by decide)
  | _, _, _, .var hs _, _ => .tup (fun d hd => by
      simp only [List.mem_cons, List.not_mem_nil, or_false] at hd
      rcases hd with rfl | rfl
      · exact .str ⟨by decide +kernel, by decide +kernel⟩
      · exact .str hs.nm.asc) (by simp)
  | n + 1, _, _, .fn a b _, hL => .tup (n := 2 * n + 1) (fun d hd => by
      simp only [List.mem_cons, List.not_mem_nil, or_false] at hd
      rcases hd with rfl | rfl | rfl
      · exact .str ⟨by decide +kernel, by decide +kernel⟩
      · exact (Kd.pd a (by omega)).mono (by omega)
      · exact (Kd.pd b (by omega)).mono (by omega)) (by simp)
  | n + 1, _, _, .data hs b h, hL => by
    have l := b.lenL
    refine .tup (n := 2 * n + 1) (fun d hd => ?_) (by simp)
    simp only [List.mem_cons, List.not_mem_nil, or_false] at hd
    rcases hd with rfl | rfl | rfl
    · exact .str ⟨by decide +kernel, by decide +kernel⟩
    · exact .str hs.nm.asc
    · exact .tup (Kds.pd b (by omega)) (by omega)
theorem Kds.pd : ∀ {n L : Nat} {ds : List D}, Kds n L ds → L ≤ 3300 → ∀ d ∈ ds, Pd (2 * n) d
  | _, _, _, .nil, _, d, h => nomatch h
  | _, _, _, .cons a b _, hL, d, h => by
    rcases List.mem_cons.mp h with e | h
    · rw [e]; exact Kd.pd a (by omega)
    · exact Kds.pd b (by omega) d h
theorem Kds.lenL : ∀ {n L : Nat} {ds : List D}, Kds n L ds → ds.length ≤ L
  | _, _, _, .nil => Nat.zero_le _
  | _, _, _, .cons a b h => by
    have := b.lenL
    have := Kd.pos a
    rw [List.length_cons]; omega
theorem Kd.pos : ∀ {n L : Nat} {d : D}, Kd n L d → 1 ≤ L
  | _, _, _, .num h => h
  | _, _, _, .var _ h => h
  | _, _, _, .fn a b h => by have := Kd.pos a; omega
  | _, _, _, .data _ _ h => by omega
end
/-! isinstance -/
def D.isT : D → Bool | .tup _ => true | _ => false
def D.isS : D → Bool | .str _ => true | _ => false
def D.isI : D → Bool | .int _ => true | .bl _ => true | _ => false
def D.isB : D → Bool | .bl _ => true | _ => false
theorem isa_T {n : Nat} {d : D} (h : Wd n d) : isaD [d, .ty "tuple"] = some (.bl d.isT) := by cases h <;> rfl
theorem isa_S {n : Nat} {d : D} (h : Wd n d) : isaD [d, .ty "str"] = some (.bl d.isS) := by cases h <;> rfl
theorem isa_I {n : Nat} {d : D} (h : Wd n d) : isaD [d, .ty "int"] = some (.bl d.isI) := by cases h <;> rfl
theorem isa_B {n : Nat} {d : D} (h : Wd n d) : isaD [d, .ty "bool"] = some (.bl d.isB) := by cases h <;> rfl
theorem d_neWB (a b : Bool) : neW (.bl a) (.bl b) = some (.bl (a != b)) := by cases a <;> cases b <;> rfl
theorem cutG_mem {α : Type} {xs : List α} {lo hi : Option Int} {x : α} (h : x ∈ cutG xs lo hi) : x ∈ xs := List.mem_of_mem_drop (List.mem_of_mem_take h)
theorem cutG_len {α : Type} (xs : List α) (lo hi : Option Int) : (cutG xs lo hi).length ≤ xs.length := by
  unfold cutG
  rw [List.length_take, List.length_drop]; omega
theorem cut_to {α : Type} (xs : List α) {r : Int} (h : 0 ≤ r) : (cutG xs none (some r)).length ≤ r.toNat := by
  unfold cutG HT.sIx
  simp only [List.length_take, List.length_drop]
  split <;> omega
theorem cut_from {α : Type} (xs : List α) {r : Int} (h : 0 ≤ r) : (cutG xs (some r) none).length ≤ xs.length - r.toNat := by
  unfold cutG HT.sIx
  simp only [List.length_take, List.length_drop]
  split <;> omega
theorem cut_one {α : Type} (xs : List α) {r : Int} (h : 0 ≤ r) : (cutG xs (some r) (some (r + 1))).length ≤ 1 := by
  unfold cutG HT.sIx
  simp only [List.length_take, List.length_drop]
  split <;> split <;> omega
theorem d_cutT (xs : List D) (lo hi : Option Int) : M.cutD (.tup xs) lo hi = some (.tup (cutG xs lo hi)) := rfl
theorem d_cutS (z : Str) (lo hi : Option Int) : M.cutD (.str z) lo hi = if z.length ≤ sizeLine then some (.str (cutS z lo hi)) else none := rfl
theorem cutS_asc {z : Str} {n : Nat} (h : Asc z n) (lo hi : Option Int) : Asc (cutS z lo hi) n := by
  have e : (cutS z lo hi).cps.toList = cutG z.cps.toList lo hi := by
    unfold cutS cutG
    simp only [List.toList_toArray, Array.length_toList]
    rfl
  refine ⟨fun c hc => ?_, ?_⟩
  · rw [e] at hc; exact h.1 c (cutG_mem hc)
  · show (cutS z lo hi).cps.size ≤ n
    rw [← Array.length_toList, e]
    have := cutG_len z.cps.toList lo hi
    have h2 := h.2
    rw [Array.length_toList] at this
    exact Nat.le_trans this h2
theorem Asc.app {a b : Str} {n m : Nat} (h : Asc a n) (g : Asc b m) : Asc (a ++ b) (n + m) := by
  refine ⟨fun c hc => ?_, by rw [Str.length_append]; have := h.2; have := g.2; omega⟩
  rw [Str.cps_append, Array.toList_append] at hc
  rcases List.mem_append.mp hc with hc | hc
  · exact h.1 c hc
  · exact g.1 c hc
theorem up_asc {a : Str} {n : Nat} (h : Asc a n) (hn : n ≤ 5592405) : ∃ b, upperD (.str a) = some (.str b) ∧ Asc b n := by
  have hl := h.2
  refine ⟨Txt.upper a, by simp only [upperD]; rw [if_pos ⟨h.1, by omega⟩], ?_⟩
  have e : Txt.upper a = SX.S (a.cps.toList.map PyProof.Rows.up1) := by
    have := SX.upper_S (a := a.cps.toList) (List.all_eq_true.mpr fun c hc => decide_eq_true (h.1 c hc))
    rw [SX.S_tl] at this
    exact this
  rw [e]
  refine ⟨fun c hc => ?_, ?_⟩
  · simp only [List.mem_map] at hc
    obtain ⟨x, hx, rfl⟩ := hc
    have := h.1 x hx
    unfold PyProof.Rows.up1
    split <;> omega
  · rw [SX.S_len, List.length_map, Array.length_toList]
    exact hl
/-! ### names, by their form -/
def lowL (cs : List Nat) : Bool := cs.all fun c => decide (97 ≤ c ∧ c ≤ 122)
def keptWs : List Str := ["data", "let", "in", "case", "of", "num"]
def smS (s : Str) : Bool := decide (1 ≤ s.length) && decide (s.length ≤ 8) && lowL s.cps.toList && !decide (s ∈ keptWs)
def grS (s : Str) : Bool := match s.cps.toList with
  | [] => false
  | c :: r => decide (s.length ≤ 8) && decide (65 ≤ c ∧ c ≤ 90) && lowL r
def isSm : D → Bool | .str s => smS s | _ => false
def isGr : D → Bool | .str s => grS s | _ => false
theorem az_mem (c : Nat) : decide (c ∈ azS.cps.toList) = decide (97 ≤ c ∧ c ≤ 122) := by
  refine decide_eq_decide.mpr ⟨low_of, fun h => ?_⟩
  rw [azS_cps]
  simp only [List.mem_cons, List.not_mem_nil, or_false]
  omega
def AZS : Str := "ABCDEFGHIJKLMNOPQRSTUVWXYZ"
theorem AZS_cps : AZS.cps.toList = [65, 66, 67, 68, 69, 70, 71, 72, 73, 74, 75, 76, 77, 78, 79, 80, 81, 82, 83, 84, 85, 86, 87, 88, 89, 90] := by decide +kernel
theorem AZ_mem (c : Nat) : decide (c ∈ AZS.cps.toList) = decide (65 ≤ c ∧ c ≤ 90) := by
  rw [AZS_cps]
  refine decide_eq_decide.mpr ?_
  simp only [List.mem_cons, List.not_mem_nil, or_false]
  omega
theorem in_sign (c : Nat) (z : Str) : inD (.str ⟨#[c]⟩) (.str z) = some (.bl (decide (c ∈ z.cps.toList))) := rfl
theorem lt_sign (c d : Nat) : ltD (.str ⟨#[c]⟩) (.str ⟨#[d]⟩) = some (.bl (decide (c < d))) := by
  simp only [ltD]
  congr 2
  refine decide_eq_decide.mpr ?_
  simp only [List.cons_lt_cons_iff, List.not_lt_nil, and_false, or_false]
theorem gt_sign (c d : Nat) : gtD (.str ⟨#[c]⟩) (.str ⟨#[d]⟩) = some (.bl (decide (d < c))) := by
  simp only [gtD]
  congr 2
  refine decide_eq_decide.mpr ?_
  simp only [List.cons_lt_cons_iff, List.not_lt_nil, and_false, or_false]
theorem litA : (Str.ofString "A") = ⟨#[65]⟩ := by decide +kernel
theorem litZ : (Str.ofString "Z") = ⟨#[90]⟩ := by decide +kernel
theorem lita : (Str.ofString "a") = ⟨#[97]⟩ := by decide +kernel
theorem litz : (Str.ofString "z") = ⟨#[122]⟩ := by decide +kernel
theorem bools_map {α : Type} (f : α → Bool) : ∀ xs : List α, bools (xs.map fun x => D.bl (f x)) = some (xs.map f)
  | [] => rfl
  | x :: xs => by simp only [List.map_cons, bools, bools_map f xs, Option.map_some]
theorem all_map {α : Type} (f : α → Bool) (xs : List α) : allD [.lst (xs.map fun x => D.bl (f x))] = some (.bl (xs.all f)) := by
  simp only [allD, bools_map, Option.map_some, List.all_map]
  rfl
theorem chars_map (z : Str) : chars z = z.cps.toList.map fun c => D.str ⟨#[c]⟩ := rfl
/-! ### a comprehension that chooses -/
theorem w_lc_filter {α : Type} {vs : List Nat} {b : FG} {c : FT} {f : FE} {e : Sls} (i g : α → D) (p : α → Bool) {Q : Sls → List D → Prop} : ∀ {ds : List α} {acc : List D}, acc.length + ds.length ≤ 8000000 →
    (∀ d ∈ ds, ∀ (acc : List D) (R : Sls → List D → Prop), acc.length < sizeLine → R e (if p d = true then acc ++ [g d] else acc) → W (lcStep vs b c f (i d) e acc) R) → Q e (acc ++ (ds.filter p).map g) → W (lcLoop vs b c f (ds.map i) e acc) Q
  | [], acc, _, _, h => ⟨_, _, rfl, by simpa using h⟩
  | d :: ds, acc, hl, hs, h => by
    rw [List.length_cons] at hl
    rw [List.map_cons, lc_step, W_bind]
    refine hs d (List.mem_cons_self ..) acc _ (line_lt (by omega)) ?_
    by_cases hp : p d = true
    · rw [if_pos hp]
      refine w_lc_filter i g p (ds := ds) (acc := acc ++ [g d]) (by simp; omega) (fun d' hd' => hs d' (List.mem_cons_of_mem _ hd')) ?_
      simpa [List.append_assoc, List.filter_cons, hp] using h
    · rw [if_neg hp]
      refine w_lc_filter i g p (ds := ds) (acc := acc) (by omega) (fun d' hd' => hs d' (List.mem_cons_of_mem _ hd')) ?_
      simpa [List.filter_cons, hp] using h
theorem eq_nilL (xs : List Str) : eqD (.lst (xs.map .str)) (.lst []) = some (.bl xs.isEmpty) := by
  have := eq_strsL xs []
  rw [show ([] : List Str).map D.str = [] from rfl] at this
  rw [this]
  congr 2
  cases xs <;> simp
def StrVals : List Value → List Str → Prop
  | [], [] => True
  | v :: vs, s :: ss => (∃ t, v = Value.str s t) ∧ StrVals vs ss
  | _, _ => False
theorem strVals_rps {K : PySem.W.Frag} : ∀ {its : List Value} {ss : List Str}, StrVals its ss → (∀ s ∈ ss, sOk s) → Vals (ss.map V.str) its ∧ ∀ F : Hp, Rps K F (ss.map V.str) (ss.map D.str)
  | [], [], _, _ => ⟨.nil, fun F => .nil⟩
  | [], s :: ss, h, _ => h.elim
  | v :: vs, [], h, _ => h.elim
  | v :: vs, s :: ss, h, ho => by
    obtain ⟨⟨t, rfl⟩, h2⟩ := h
    obtain ⟨i1, i2⟩ := strVals_rps (K := K) h2 fun s hs => ho s (List.mem_cons_of_mem _ hs)
    exact ⟨.cons ⟨t, rfl⟩ i1, fun F => .cons (.str _ (ho _ (List.mem_cons_self ..))) (i2 F)⟩
theorem StrVals.len : ∀ {its : List Value} {ss : List Str}, StrVals its ss → its.length = ss.length
  | [], [], _ => rfl
  | [], s :: ss, h => h.elim
  | v :: vs, [], h => h.elim
  | v :: vs, s :: ss, h => congrArg (· + 1) (StrVals.len h.2)
theorem gl_strs2 {K : PySem.W.Frag} {h : Heap} {mg : Str → Option Value} {x : Str} {a : Addr} {od : Option Addr} {its : Array Value} {n : Nat} {sl : Array (Option Value)} {ss : List Str} (X : K.In h) (G : h.Ns mainGlobals mg) (q : PySem.W.nsIn K mainGlobals x = some (some (.ref a)))
    (hw : K.lookup a = some ⟨.type "tuple", od, .seq its n, sl⟩) (hv : StrVals its.toList ss) (hl : ss.length ≤ 1000) (hs : ∀ s ∈ ss, sOk s) : GlOk K mg x (.tup (ss.map .str)) := by
  refine ⟨_, .ref a, PySem.W.mg_of X G q, rfl, fun F => ?_⟩
  obtain ⟨i1, i2⟩ := strVals_rps (K := K) hv hs
  have e := hv.len
  rw [Array.length_toList] at e
  exact .tup (.inr ⟨_, its, n, hw, rfl, rfl, Nat.le_trans (by omega) (show 1000 ≤ sizeLine by decide), i1⟩) (i2 F)
end M

namespace M
open PySem PySem.Spec PyProof.Rows L2
/-! ### set(texts), and how many texts there are -/
/-- how many texts, each once (the row backwards) -/
def cntR : List Str → Nat
  | [] => 0
  | x :: r => if x ∈ r then cntR r else cntR r + 1
def cntS (xs : List Str) : Nat := cntR xs.reverse
theorem cntR_le : ∀ xs : List Str, cntR xs ≤ xs.length
  | [] => Nat.le_refl _
  | x :: r => by
    have := cntR_le r
    rw [cntR, List.length_cons]
    split <;> omega
theorem cntR_eq : ∀ xs : List Str, cntR xs = xs.length ↔ xs.Nodup
  | [] => by simp [cntR]
  | x :: r => by
    have h := cntR_eq r
    have l := cntR_le r
    rw [cntR, List.length_cons, List.nodup_cons]
    split
    · rename_i hx
      exact ⟨fun e => by omega, fun e => absurd hx e.1⟩
    · rename_i hx
      exact ⟨fun e => ⟨hx, h.mp (by omega)⟩, fun e => by have := h.mpr e.2; omega⟩
theorem cntS_eq (xs : List Str) : cntS xs = xs.length ↔ xs.Nodup := by
  have h := cntR_eq xs.reverse
  rw [List.length_reverse, (List.reverse_perm xs).nodup_iff] at h
  exact h
theorem cntS_le (xs : List Str) : cntS xs ≤ xs.length := by
  have := cntR_le xs.reverse
  rw [List.length_reverse] at this
  exact this
section
variable {prog : Program} {w : World} {A : Around} {R : Result → Shared → Prop} {I : Addr} {fp wr : List Addr} {G : Array GenState → Array GenState → Prop} {n : Nat} {P : Nat → Value → Prop} {St : Nat → Shared → Prop}
/-- the set behind the first i texts -/
def SetTo (w : World) (prog : Program) (h : Heap) (S : Addr) (xs : List Str) (i : Nat) : Prop := h.SetOf (PySem.strKind prog w) S (fun k => decide (k ∈ xs.take i)) (cntS (xs.take i))
theorem SetTo.step {h : Heap} {S : Addr} {xs : List Str} {i : Nat} {x : Str} (e : xs[i]? = some x)
    (hS : h.SetOf (PySem.strKind prog w) S (fun k => decide (k ∈ xs.take i) || decide (k = x)) (if decide (x ∈ xs.take i) = true then cntS (xs.take i) else cntS (xs.take i) + 1)) : SetTo w prog h S xs (i + 1) := by
  have et : xs.take (i + 1) = xs.take i ++ [x] := by rw [List.take_add_one, e]; rfl
  refine PyProof.Rows.SetOf_congr hS (fun k => ?_) ?_
  · rw [et]; simp
  · rw [et]; unfold cntS
    rw [List.reverse_append]
    show _ = cntR (x :: (xs.take i).reverse)
    rw [cntR]
    simp
theorem loopTexts (W : WalksS prog w A.in1 I fp wr G n P St) (S : Addr) (hSf : S ∉ fp) (xs : List Str) (hlen : xs.length = n) (hroom : n < 4000)
    (hval : ∀ i v, P i v → ∃ x t, xs[i]? = some x ∧ v = .str x t) : ∀ (left : Nat) (i : Nat) (s : Shared), i + left = n → St i s → SetTo w prog s.heap S xs i →
      (∀ s', Moved (S :: wr) G s s' → SetTo w prog s'.heap S xs n → R (.ok (.ret .none)) s') → codeAny (model prog w) A (.builtin "set.update.loop" ⟨[.ref S, .ref I], []⟩) R s
  | 0, i, s, hi, hst, hS, hR => by
    obtain rfl : i = n := by omega
    refine codeAny_builtin PyProof.Rows.F.entry_set_update_loop ?_
    rw [Around.under_plainId PyProof.Rows.F.plain_set_update_loop _]
    refine wpAny_bind (W.done s _ _ hst fun s1 hm => wpAny_pure (hR s1 (hm.mono fun b hb => List.mem_cons_of_mem _ hb) ?_))
    have ⟨o, es, ep, t, ho, rest⟩ := hS
    exact ⟨o, es, ep, t, hm.heap S _ (fun h => hSf (W.sub _ h)) ho, rest⟩
  | left + 1, i, s, hi, hst, hS, hR => by
    refine codeAny_builtin PyProof.Rows.F.entry_set_update_loop ?_
    rw [Around.under_plainId PyProof.Rows.F.plain_set_update_loop _]
    refine wpAny_bind (W.item i s _ _ (by omega) hst fun v s1 hP hst1 hm => ?_)
    obtain ⟨x, t, hx, rfl⟩ := hval i v hP
    have hS1 : SetTo w prog s1.heap S xs i := by
      have ⟨o, es, ep, t, ho, rest⟩ := hS
      exact ⟨o, es, ep, t, hm.heap S _ (fun h => hSf (W.sub _ h)) ho, rest⟩
    have hc := cntS_le (xs.take i)
    rw [List.length_take] at hc
    refine wpAny_bind (wpAny_holding ?_)
    unfold setAdd
    refine wpAny_holding (wpAny_bind ((PySem.strKind prog w).pyHash (k := x) (strKind_is _ _ _ _) ?_))
    refine wpAny_setAddHashed_of (knd := PySem.strKind prog w) (s := { s1 with toks := s1.toks + 1 }) (strKind_is _ _ _ _) rfl hS1 (by unfold scanBound; omega) fun h' sb hS2 => ?_
    refine wpAny_pure ⟨plainId_quiet PyProof.Rows.F.plain_set_update_loop _, loopTexts W S hSf xs hlen hroom hval left (i + 1) _ (by omega) (W.frame _ s1 _ _ hst1 (Nat.le_succ _) fun b hb o e => ?_) (SetTo.step hx hS2) fun s2 hm2 hS3 => ?_⟩
    · exact (sb.2 b fun e => hSf (e ▸ hb)).trans e
    · exact hR s2 (Moved.trans W.gtrans ((hm.mono fun b hb => List.mem_cons_of_mem _ hb).then_heap (Nat.le_succ _) fun b o hb e => (sb.2 b fun e => hb (e ▸ List.mem_cons_self)).trans e) hm2) hS3
theorem strs_get : ∀ {us : List Value} {xs : List Str}, StrsAre us xs → ∀ (i : Nat) (v : Value), us[i]? = some v → ∃ x t, xs[i]? = some x ∧ v = .str x t
  | _, _, .nil, i, v, h => nomatch h
  | _, _, .cons x t _, 0, v, h => ⟨x, t, rfl, (Option.some.inj h).symm⟩
  | _, _, .cons _ _ r, i + 1, v, h => by
    rw [List.getElem?_cons_succ] at h ⊢
    exact strs_get r i v h
end
section
variable {prog : Program} {w : World} {A : Around} {E : Value → Shared → Prop} {s : Shared}
/-- a list or a tuple of these items -/
def SeqIs (h : Heap) (T : String) (l : Addr) (items : Array Value) : Prop := ∃ o, h.get? l = some o ∧ o.cls = .type T ∧ ∃ n, o.data = .seq items n
/-- how it is gone through -/
structure Goes (prog : Program) (w : World) (T : String) : Prop where
  set : isSubtype (.type T) (.type "set") = pure false
  froz : isSubtype (.type T) (.type "frozenset") = pure false
  dict : (Value.type T == Value.type "dict") = false
  iter : ∀ (l : Addr) (items : Array Value) (A : Around) (s : Shared) (Q : Value → Shared → Prop) (E : Value → Shared → Prop), SeqIs s.heap T l items →
    (∀ (o : Obj) (St : Nat → Shared → Prop), (∀ A' : Around, A'.handled = none → WalksS prog w A' s.heap.objs.size [s.heap.objs.size, l] [s.heap.objs.size] (fun a b => b = a) items.size (fun i v => items[i]? = some v) St) →
      St 0 { s with heap := s.heap.push o } → Q (.ref s.heap.objs.size) { s with heap := s.heap.push o }) → wpAny (model prog w) A (pyIter (.ref l)) Q E s
theorem SeqIs.lt {h : Heap} {T : String} {l : Addr} {items : Array Value} (x : SeqIs h T l items) : l < h.objs.size := by
  obtain ⟨o, ho, _⟩ := x
  exact Heap.lt_size ho
theorem SeqIs.push {h : Heap} {T : String} {l : Addr} {items : Array Value} (x : SeqIs h T l items) (o : Obj) : SeqIs (h.push o) T l items := by
  obtain ⟨p, hp, r⟩ := x
  exact ⟨p, Heap.get?_push_of_some _ hp, r⟩
theorem goes_list : Goes prog w "list" where
  set := PySem.F.sub_list_set
  froz := PySem.F.sub_list_frozenset
  dict := by decide
  iter := fun l items A s Q E hl h => by
    have hlt := hl.lt
    have hL : s.heap.IsList l items := hl
    exact wpAny_pyIter_list hL (h _ _ (fun A' hh => (Walks.list hh _ l (Nat.ne_of_lt hlt) items).toS) ⟨⟨_, Heap.get?_push_size _ rfl, rfl, rfl⟩, hL.push _⟩)
theorem goes_tuple : Goes prog w "tuple" where
  set := PySem.F.sub_tuple_set
  froz := PySem.F.sub_tuple_frozenset
  dict := by decide
  iter := fun l items A s Q E hl h => by
    have hlt := hl.lt
    have hL : s.heap.IsTuple l items := hl
    exact wpAny_pyIter_tuple hL (h _ _ (fun A' hh => (Walks.tuple hh _ l (Nat.ne_of_lt hlt) items).toS) ⟨⟨_, Heap.get?_push_size _ rfl, rfl, rfl⟩, hL.push _⟩)
set_option maxHeartbeats 3200000 in
/-- set(row of texts) -/
theorem call_setTexts {T : String} (g : Goes prog w T) {l : Addr} {items : Array Value} {xs : List Str} {Q : Value → Shared → Prop} (hh : A.handled = none) (hl : SeqIs s.heap T l items) (hx : StrsAre items.toList xs) (hn : xs.length < 4000)
    (h : ∀ (h' : Heap) (tk : Nat), SetTo w prog h' s.heap.objs.size xs xs.length → (∀ b o, s.heap.get? b = some o → h'.get? b = some o) → Q (.ref s.heap.objs.size) { s with heap := h', toks := tk }) :
    wpAny (model prog w) A (call (.type "set") [.ref l]) Q E s := by
  obtain ⟨c, tl, hmro⟩ := PySem.F.called_set.mro
  have m1 := PySem.F.called_set.made
  have m2 := PySem.F.called_set.sub
  have m3 := PySem.F.called_set.notType
  have m4 := PySem.F.called_set.canCreate
  have m5 := PySem.F.typeCall_set_1 (.ref l)
  refine wpAny_call (codeAny_of_tree ?_)
  show wpAny _ _ (callAny (.type "set") _) _ _ _
  refine wpAny_pure ⟨Code.quiet_builtin _ (by decide +kernel), codeAny_builtin PySem.F.entry_type_call ?_⟩
  rw [Around.under_plain (weight_type_call_type "set" [.ref l] []) rfl]
  repeat (any_goals (first | assumption | wp_step))
  let fresh := fun led : Bool => ({ s with heap := s.heap.push { cls := .type "set", dict := none, data := .set #[] 0 (.fresh 0 0 led) } } : Shared)
  refine codeAny_mono (code_set_new_1 (.ref l) (E := E) (Q₁ := fun obj s1 => ∃ led : Bool, obj = .ref s.heap.objs.size ∧ s1 = fresh led) fun led => ⟨led, rfl, rfl⟩) fun r s1 hr => ?_
  match r, hr with
  | .error e, hr => exact hr
  | .ok (.ret obj), hr =>
    obtain ⟨led, rfl, rfl⟩ := hr
    have hS : (fresh led).heap.get? s.heap.objs.size = some { cls := .type "set", dict := none, data := .set #[] 0 (.fresh 0 0 led) } := Heap.get?_push_size _ rfl
    have hT : Shared.TypeIs (fresh led) (.ref s.heap.objs.size) "set" := ⟨_, hS, rfl⟩
    have i1 := PySem.F.called_set.init.lookup
    have i2 := PySem.F.called_set.init.bind (.ref s.heap.objs.size)
    repeat (any_goals (first | assumption | wp_step))
    refine codeAny_mono (codeAny_call_builtin (R := wants (fun r s2 => r = .none ∧ ∃ h' tk, s2 = { s with heap := h', toks := tk } ∧ SetTo w prog h' s.heap.objs.size xs xs.length ∧ (∀ b o, s.heap.get? b = some o → h'.get? b = some o)) E)
      PySem.F.called_set.init.plain PySem.F.entry_set_init (check_set_init_1 hT ?_)) fun r2 s2 hr2 => ?_
    · have hl1 : SeqIs (fresh led).heap T l items := hl.push _
      have ⟨ol, hol, hcl, nl, hdl⟩ := hl1
      obtain ⟨ocls, odict, odata, oslots⟩ := ol
      cases hcl
      cases hdl
      have s1 := g.set
      have s2 := g.froz
      have s3 := g.dict
      unfold Builtin.«set.__init__» noKeywords Builtin.Frozenset.updateFrom
      generalize hPI : pyIter = PI
      wp_walk
      subst hPI
      have hlt := hl.lt
      refine g.iter l items _ (fresh led) _ _ hl1 fun oi St W st0 => ?_
      refine wpAny_bind (wpAny_runValue ?_)
      have e1 : (fresh led).heap.objs.size = s.heap.objs.size + 1 := Heap.size_push ..
      refine loopTexts (W _ (by simp [hh])) s.heap.objs.size (by
        rw [e1]
        simp only [List.mem_cons, List.not_mem_nil, or_false, not_or]
        exact ⟨Nat.ne_of_lt (Nat.lt_succ_self _), Nat.ne_of_gt hlt⟩) xs (by rw [← Array.length_toList, StrsAre.len_eq hx]) (by rw [← Array.length_toList, StrsAre.len_eq hx]; exact hn)
        (fun i v hv => strs_get hx i v (by rw [Array.getElem?_toList]; exact hv)) items.size 0 _ (by omega) st0 ?_ fun s3 hm hS3 => ?_
      · have hg : ((fresh led).heap.push oi).get? s.heap.objs.size = some { cls := .type "set", dict := none, data := .set #[] 0 (.fresh 0 0 led) } := Heap.get?_push_of_some _ hS
        exact PyProof.Rows.SetOf_congr ((PyProof.Rows.setObjOf_fresh (knd := PySem.strKind prog w) led).setOf hg (by decide)) (fun _ => rfl) rfl
      · obtain ⟨h', g', d', tk', os'⟩ := s3
        have q1 : g' = s.gens := hm.gens
        have q2 : d' = s.drawn := hm.drawn
        have q3 : os' = s.os := hm.os
        subst q1 q2 q3
        have el : items.size = xs.length := by rw [← Array.length_toList, StrsAre.len_eq hx]
        rw [el] at hS3
        refine wpAny_pure ?_
        show wpAny _ _ (ret Value.none) _ _ _
        refine wpAny_pure ⟨rfl, h', tk', rfl, hS3, fun b o e => ?_⟩
        have hb := Heap.lt_size e
        refine hm.heap b o ?_ (Heap.get?_push_of_some _ (Heap.get?_push_of_some _ e))
        rw [e1]
        simp only [List.mem_cons, List.not_mem_nil, or_false, not_or]
        exact ⟨Nat.ne_of_lt hb, Nat.ne_of_lt (Nat.lt_succ_of_lt hb)⟩
    · match r2, hr2 with
      | .error e, hr2 => exact hr2
      | .ok (.ret r), hr2 =>
        obtain ⟨rfl, h', tk, rfl, hS', hk⟩ := hr2
        repeat (any_goals (first | assumption | wp_step))
        exact h h' tk hS' hk
      | .ok .next, hr2 => exact hr2.elim
  | .ok .next, hr => exact hr.elim
end
/-- len(set(xs)), xs a list or tuple of texts -/
def tLenSetN (K : PySem.W.Frag) (ta : TE) : TE := fun σ H Q => ta σ H fun x H1 => ∃ l, ∃ xs : List Str, x = .ref l ∧ (SqL K H1 l (xs.map V.str) ∨ SqT K H1 l (xs.map V.str)) ∧ xs.length < 4000 ∧ Q (.int (cntS xs)) H1
section
variable {X : Cx}
theorem pe_lenSetN {a : Expr} {ta : TE} {p p2 q pos : Pos} (hc : X.calm = true) (hg : Gl X "len") (hm : X.mg "len" = none) (hg2 : Gl X "set") (hm2 : X.mg "set" = none) (ha : PE X a ta)
    (na : starEach [a] X.env = (false, eval a X.env) :: starEach [] X.env := by rfl) : PE X (.Call (.Name "len" p) [.Call (.Name "set" p2) [a] [] q] [] pos) (tLenSetN X.K ta) := by
  refine ⟨fun pins s σ H Q I h => ?_⟩
  refine Call_ (ld_blt I hg hm boot_len (PyProof.Rows.callWith_builtin1 (PyProof.Rows.args_cons ?_ rfl) rfl rfl))
  refine Call_ (ld_blt I hg2 hm2 boot_set ?_)
  refine PyProof.Rows.callWith_type1 (PyProof.Rows.args_cons (thn (ha.run pins s σ H _ I h) fun v s1 ⟨x, H1, I1, r1, l, xs, ex, hq, hn, q1⟩ => PyProof.Rows.args_nil ?_) na) na rfl
  subst ex
  cases r1
  have hcnt := cntS_le xs
  have fin : ∀ (h' : Heap) (tk : Nat), SetTo X.w X.prog h' s1.heap.objs.size xs xs.length → (∀ b o, s1.heap.get? b = some o → h'.get? b = some o) →
      wpAny (model X.prog X.w) X.A (spliced (backTo pos (starEach [] X.env))) (fun vs s2 => wpAny (model X.prog X.w) X.A (call (.builtin "len") (Value.ref s1.heap.objs.size :: vs)) (EP X pins σ Q) X.xe s2) X.xe { s1 with heap := h', toks := tk } := fun h' tk hS hk => by
    refine PyProof.Rows.args_nil ?_
    unfold SetTo at hS
    rw [List.take_length] at hS
    obtain ⟨o, es, ep, t, ho, hex, hd, _, _, _, hf, hn1⟩ := hS
    have I2 : Inv X pins σ H1 { s1 with heap := h', toks := tk } := I1.kept fun b o e => hk b o e
    exact call_len_set ho hex hd hf (by rw [hn1]; omega) ⟨.int (cntS xs), H1, I2.tok _, ⟨_, by rw [hn1]⟩, q1⟩
  rcases hq with hq | hq
  · obtain ⟨its, r, pl, hz⟩ := I1.list hq
    exact call_setTexts goes_list (I1.ok.hd hc) pl.isList (by simpa using r.strs) hn fin
  · obtain ⟨its, r, pl, hz⟩ := I1.tuple hq
    exact call_setTexts goes_tuple (I1.ok.hd hc) pl (by simpa using r.strs) hn fin
def strsIn : D → Option (List Str)
  | .lst ds => strsOf ds
  | .tup ds => strsOf ds
  | _ => none
/-- len(set(xs)) -/
def lenSetD (d : D) : Option D := (strsIn d).bind fun xs => if xs.length < 4000 then some (.int (cntS xs)) else none
def fLenSet (k : FK) : FE := fun e => (k e).bind fun p => (p.2 p.1).bind fun d => (lenSetD d).bind fun d => some (p.1, d)
theorem jlenSet {np : Nat} {K : PySem.W.Frag} {e : Expr} {te : TE} {ke : FK} {p p2 q pos : Pos} (hc : X.calm = true) (hg : Gl X "len") (hm : X.mg "len" = none) (hg2 : Gl X "set") (hm2 : X.mg "set" = none) (h : JK X np e te ke)
    (na : starEach [e] X.env = (false, eval e X.env) :: starEach [] X.env := by rfl) (hK : X.K = K := by rfl) : JE X np (.Call (.Name "len" p) [.Call (.Name "set" p2) [e] [] q] [] pos) (tLenSetN K te) (fLenSet ke) := by
  subst hK
  refine ⟨pe_lenSetN hc hg hm hg2 hm2 h.pe na, fun B F e σ H Q hn I e' d hf q => ?_⟩
  obtain ⟨⟨e1, ra⟩, h1, hf⟩ := bnd hf
  obtain ⟨x, h3, hf⟩ := bnd hf
  obtain ⟨y, h4, hf⟩ := bnd hf
  cases hf
  obtain ⟨xs, h5, hf⟩ := bnd h4
  split at hf
  · rename_i hl
    cases hf
    refine h.de B F e σ H _ hn I e1 ra h1 fun F1 v H1 s1 I1 l1 => ?_
    have rx := l1 F1 _ H1 _ (Same.refl _) I1 h3
    unfold strsIn at h5
    split at h5
    · obtain ⟨a, ys, ea, t1, r1⟩ := rx.lst' I1.sf
      obtain ⟨e2, _⟩ := strs_rps r1 h5
      subst e2
      exact ⟨a, xs, ea, .inl t1, hl, q _ _ _ s1 I1 (.int _)⟩
    · obtain ⟨a, ys, ea, t1, g1, r1⟩ := rx.tup' I1.sf
      obtain ⟨e2, _⟩ := strs_rps r1 h5
      subst e2
      exact ⟨a, xs, ea, .inr t1, hl, q _ _ _ s1 I1 (.int _)⟩
    · cases h5
  · cases hf
end
section
variable (s : Sl) (e : Sls)
theorem c_fLenSet (k : FK) : fLenSet k (s :: e) = (k (s :: e)).bind fun p => (p.2 p.1).bind fun d => (lenSetD d).bind fun d => some (p.1, d) := rfl
end
theorem d_lenSetL (ss : List Str) (h : ss.length < 4000) : lenSetD (.lst (ss.map D.str)) = some (.int (cntS ss)) := by
  simp only [lenSetD, strsIn, strsOf_map, Option.bind_some, if_pos h]
theorem d_lenSetT (ss : List Str) (h : ss.length < 4000) : lenSetD (.tup (ss.map D.str)) = some (.int (cntS ss)) := by
  simp only [lenSetD, strsIn, strsOf_map, Option.bind_some, if_pos h]
end M

namespace M
open PySem PySem.Spec PyProof.Rows L2
/-! ### t != () for any tuple -/
def neQe : D → D → Option Bool
  | .tup xs, .tup [] => some xs.isEmpty
  | a, b => neQ a b
def neE (a b : D) : Option D := (neQe a b).map fun k => .bl (!k)
def rNeE (K : PySem.W.Frag) : R2 := fun x y H Q => ∃ b, EqVals K H x y b ∧ Q (.bl (!b)) H
theorem op_neE {X : Cx} (hu : X.A.units + 200 < cLine) : OpR X (compareOp .NotEq) (rNeE X.K) := by
  intro pins s σ H x y v u Q I rx ry h
  obtain ⟨b, h, q⟩ := h
  rcases h with ⟨p, r, xs, rfl, rfl, h1, h2, rfl⟩ | h
  · cases rx
    cases ry
    obtain ⟨us, r1, t1, _⟩ := I.tuple h1
    obtain ⟨ws, r2, t2, _⟩ := I.tuple h2
    cases r2
    refine SeqAt.RcNeAt.tuples (A := X.A) (s := s) (e := fun _ => true) t1 t2 (Nat.lt_of_le_of_lt (Nat.le_add_right _ 200) hu) (fun j _ j2 => absurd j2 (by simp)) X.prog X.w X.xe _ ⟨.bl _, H, I, rfl, ?_⟩
    have e : ((List.range (min us.toArray.size ([] : List Value).toArray.size)).all (fun _ => true) && us.toArray.size == ([] : List Value).toArray.size) = xs.isEmpty := by
      cases xs with
      | nil => cases r1; rfl
      | cons a t => cases r1; simp
    rw [e]
    exact q
  · exact op_neX hu pins s σ H _ _ v u Q I rx ry ⟨b, h, q⟩
theorem om_neE {K : PySem.W.Frag} : OpM K (rNeE K) neE := by
  intro B F e σ H x y dx dy d Q I rx ry hf q
  obtain ⟨b, h1, h2⟩ := Option.map_eq_some_iff.mp hf
  subst h2
  refine ⟨b, ?_, q F _ H (Same.refl F) I (.bl _)⟩
  unfold neQe at h1
  split at h1
  · cases h1
    obtain ⟨p, us, e1, t1, _, r1⟩ := rx.tup' I.sf
    obtain ⟨q, ws, e2, t2, _, r2⟩ := ry.tup' I.sf
    cases r2
    refine .inl ⟨p, q, us, e1, e2, t1, t2, ?_⟩
    cases r1 <;> rfl
  · exact .inr (neQ_vals I.sf rx ry h1)
theorem oneE {X : Cx} {K : PySem.W.Frag} (hu : X.A.units + 200 < cLine) (hK : X.K = K := by rfl) : OpR X (compareOp .NotEq) (rNeE K) := by subst hK; exact op_neE hu
theorem d_neE (xs : List D) : neE (.tup xs) (.tup []) = some (.bl (!xs.isEmpty)) := rfl
end M

namespace M
open PySem PySem.Spec PyProof.Rows L2
/-! ### something made anew as the last argument -/
theorem IV.ext {K : PySem.W.Frag} {B : Bs} {F : Hp} {e : Sls} {σ : L2.St} {H : Hp} (I : IV K B F e σ H) {a : Addr} {s : Sl} (o : Ow K F H a s) (f : F a = none) (g : B.G a = none) (b : B.H a = none)
    (ne : ∀ (j : Nat) (s' : Sl), e[j]? = some s' → s'.own = true → σ[j]? ≠ some (some (.ref a))) : IV K B F (e ++ [s]) (σ ++ [some (.ref a)]) H := by
  have sp : ∀ {i : Nat} {t : Sl}, (e ++ [s])[i]? = some t → (i < e.length ∧ e[i]? = some t) ∨ (i = e.length ∧ t = s) := fun {i t} h => by
    by_cases z : i < e.length
    · rw [List.getElem?_append_left z] at h; exact .inl ⟨z, h⟩
    · rw [List.getElem?_append_right (by omega)] at h
      have : i - e.length = 0 := by
        rcases Nat.eq_zero_or_pos (i - e.length) with y | y
        · exact y
        · rw [List.getElem?_eq_none (by rw [List.length_cons, List.length_nil]; omega)] at h; cases h
      rw [this] at h
      cases h
      exact .inr ⟨by omega, rfl⟩
  have sl : ∀ {i : Nat}, i < e.length → (σ ++ [some (V.ref a)])[i]? = σ[i]? := fun {i} h => List.getElem?_append_left (by rw [← I.len]; exact h)
  have sr : (σ ++ [some (V.ref a)])[e.length]? = some (some (.ref a)) := by
    rw [List.getElem?_append_right (by rw [I.len]; exact Nat.le_refl _), I.len, Nat.sub_self]; rfl
  refine ⟨I.sf, I.sg, I.g1, I.g2, I.g3, by rw [List.length_append, List.length_append, I.len]; rfl, fun i t v h1 h2 => ?_, fun i j t u hij h1 h2 o1 o2 => ?_, fun i v hi hv => ?_⟩
  · rcases sp h1 with ⟨z, h⟩ | ⟨rfl, rfl⟩
    · rw [sl z] at h2; exact I.sl i t v h h2
    · rw [sr] at h2; cases h2
      exact .ow o f g fun _ => b
  · rcases sp h1 with ⟨z, h⟩ | ⟨rfl, rfl⟩
    · rcases sp h2 with ⟨z2, h'⟩ | ⟨rfl, rfl⟩
      · rw [sl z, sl z2]; exact I.ap i j t u hij h h' o1 o2
      · rw [sl z, sr]; exact ne i t h o1
    · rcases sp h2 with ⟨z2, h'⟩ | ⟨rfl, rfl⟩
      · rw [sl z2, sr]; exact fun y => ne j u h' o2 y.symm
      · exact absurd rfl hij
  · have h := I.an i v hi hv
    rw [sl (by rw [I.len]; exact (List.getElem?_eq_some_iff.mp h).1)]
    exact h
theorem IV.unext {K : PySem.W.Frag} {B : Bs} {F F0 : Hp} {e e0 : Sls} {σ : L2.St} {x : Option V} {H H0 : Hp} (I0 : IV K B F0 e0 σ H0) (I : IV K B F e (σ ++ [x]) H) : IV K B F e.dropLast σ H := by
  have hl : e.length = σ.length + 1 := by rw [I.len, List.length_append]; rfl
  have dl : ∀ {i : Nat} {t : Sl}, e.dropLast[i]? = some t → e[i]? = some t ∧ (σ ++ [x])[i]? = σ[i]? := fun {i t} h => by
    rw [List.dropLast_eq_take] at h
    obtain ⟨h1, h2⟩ := take_get h
    exact ⟨h2, List.getElem?_append_left (by omega)⟩
  refine ⟨I.sf, I.sg, I.g1, I.g2, I.g3, by rw [List.length_dropLast, hl]; rfl, fun i t v h1 h2 => ?_, fun i j t u hij h1 h2 o1 o2 => ?_, I0.an⟩
  · obtain ⟨a1, a2⟩ := dl h1
    exact I.sl i t v a1 (by rw [a2]; exact h2)
  · obtain ⟨a1, a2⟩ := dl h1
    obtain ⟨b1, b2⟩ := dl h2
    rw [← a2, ← b2]; exact I.ap i j t u hij a1 b1 o1 o2
theorem ArgRs.snoc {K : PySem.W.Frag} {F : Hp} {σ : L2.St} {x : Option V} {a : Addr} {n : Nat} (hx : (σ ++ [x])[n]? = some (some (.ref a))) : ∀ {vs : List V} {as : List Arg}, ArgRs K F σ vs as → ArgRs K F (σ ++ [x]) (vs ++ [.ref a]) (as ++ [.ow n])
  | _, _, .nil => .cons (.ow hx) .nil
  | _, _, .cons r t => by
    refine .cons ?_ (ArgRs.snoc hx t)
    cases r with
    | im r => exact .im r
    | ow h => exact .ow (by rw [List.getElem?_append_left (List.getElem?_eq_some_iff.mp h).1]; exact h)
def fCall2 (m : FC) (e : Sls) (as : List Arg) : Option (Sls × Sl) := if (owIx as).Nodup then (argSs e as).bind fun es => (m es).bind fun q => some (putBack e as q.1, q.2) else none
abbrev FAL := Sls → Option (Sls × List Arg × Sl)
def fCallL (m : FC) (k : FAL) : FE := fun e => (k e).bind fun p => (fCall2 m (p.1 ++ [p.2.2]) (p.2.1 ++ [.ow p.1.length])).bind fun q => match q.2 with
  | .im d => some (q.1.dropLast, d)
  | _ => none
def DAL (K : PySem.W.Frag) (np : Nat) (t : TA) (f : FAL) : Prop :=
  ∀ (B : Bs) (F : Hp) (e : Sls) (σ : L2.St) (H : Hp) (Q : List V → Hp → Prop), B.np = np → IV K B F e σ H → ∀ (e' : Sls) (as : List Arg) (s : Sl), f e = some (e', as, s) →
    (∀ (F' : Hp) (vs : List V) (a : Addr) (H' : Hp), Same F F' → IV K B F' e' σ H' → ArgRs K F' σ vs as → Ow K F' H' a s → F' a = none → B.G a = none → B.H a = none → (∀ (j : Nat) (s' : Sl), e'[j]? = some s' → s'.own = true → σ[j]? ≠ some (some (.ref a))) → Q (vs ++ [.ref a]) H') → t σ H Q
structure JAL (X : Cx) (np : Nat) (es : List Expr) (t : TA) (f : FAL) : Prop where
  pa : PA X es t
  de : DAL X.K np t f
def lOne (o : Sls → Option (Sls × Sl)) : FAL := fun e => (o e).bind fun r => some (r.1, [], r.2)
def lIm (f : FE) (g : FAL) : FAL := fun e => (f e).bind fun p => (g p.1).bind fun q => some (q.1, .im p.2 :: q.2.1, q.2.2)
def lOw (i : Nat) (g : FAL) : FAL := fun e => if ((e[i]?.getD .un).own) = true then (g e).bind fun q => some (q.1, .ow i :: q.2.1, q.2.2) else none
section
variable {X : Cx} {np : Nat} {ex : Expr} {es : List Expr} {te : TE} {t : TA} {fe : FE} {fa : FAL}
theorem jal_one {o : Sls → Option (Sls × Sl)} (h : JOw X np ex te o) (hs : starEach [ex] X.env = (false, eval ex X.env) :: starEach [] X.env := by rfl) : JAL X np [ex] (tCons te tNil) (lOne o) := by
  refine ⟨pa_cons h.pe pa_nil hs, fun B F e σ H Q hn I e' as s hf q => ?_⟩
  obtain ⟨⟨e1, s1⟩, h1, hf⟩ := bnd hf
  cases hf
  exact h.de B F e σ H _ hn I e1 s1 h1 fun F' a H' sm I' o f1 f2 f3 ne => q F' [] a H' sm I' .nil o f1 f2 f3 ne
theorem jal_im (h : JE X np ex te fe) (h2 : JAL X np es t fa) (hs : starEach (ex :: es) X.env = (false, eval ex X.env) :: starEach es X.env := by rfl) : JAL X np (ex :: es) (tCons te t) (lIm fe fa) := by
  refine ⟨pa_cons h.pe h2.pa hs, fun B F e σ H Q hn I e' as s hf q => ?_⟩
  obtain ⟨⟨e1, d⟩, h1, hf⟩ := bnd hf
  obtain ⟨⟨e2, as2, s2⟩, h3, hf⟩ := bnd hf
  cases hf
  refine h.de B F e σ H _ hn I e1 d h1 fun F' v H' s I' r => ?_
  exact h2.de B F' e1 σ H' _ hn I' e2 as2 s2 h3 fun F2 vs a H2 s2 I2 r2 o f1 f2 f3 ne => q F2 (v :: vs) a H2 (s.trans s2) I2 (.cons (.im (r.mono s2)) r2) o f1 f2 f3 ne
theorem jal_ow (i : Nat) {x : Str} {p : Pos} (h : PE X (.Name x p) (tVar i)) (h2 : JAL X np es t fa) (hs : starEach (.Name x p :: es) X.env = (false, eval (.Name x p) X.env) :: starEach es X.env := by rfl) : JAL X np (.Name x p :: es) (tCons (tVar i) t) (lOw i fa) := by
  refine ⟨pa_cons h h2.pa hs, fun B F e σ H Q hn I e' as s hf q => ?_⟩
  unfold lOw at hf
  split at hf
  · rename_i ho
    obtain ⟨⟨e2, as2, s2⟩, h3, hf⟩ := bnd hf
    cases hf
    cases hs0 : e[i]? with
    | none => rw [hs0] at ho; cases ho
    | some s0 =>
      rw [hs0] at ho
      obtain ⟨v0, hv0, r0⟩ := I.slot hs0
      obtain ⟨a, ev, _⟩ := r0.of_own ho
      subst ev
      exact ⟨.ref a, hv0, h2.de B F e σ H _ hn I e2 as2 s2 h3 fun F2 vs b H2 s2 I2 r2 o f1 f2 f3 ne => q F2 (.ref a :: vs) b H2 s2 I2 (.cons (.ow hv0) r2) o f1 f2 f3 ne⟩
  · cases hf
theorem de_callL {K : PySem.W.Frag} {np n : Nat} {m : FC} {t : TA} {fa : FAL} {E : XK} (h : DAL K np t fa) (hlen : ∀ {es r}, m es = some r → es.length = n) : DE K np (tCall (spM K n m) [] E t) (fCallL m fa) := by
  intro B F e σ H Q hn I e' d hf q
  obtain ⟨⟨e1, as, s⟩, h1, hf⟩ := bnd hf
  obtain ⟨⟨e2, s2⟩, h2, hf⟩ := bnd hf
  have hd : s2 = .im d ∧ e2.dropLast = e' := by
    cases s2 with
    | im d0 => cases hf; exact ⟨rfl, rfl⟩
    | un => cases hf
    | lst _ => cases hf
    | dic _ => cases hf
  obtain ⟨rfl, rfl⟩ := hd
  unfold fCall2 at h2
  split at h2
  · rename_i hnd
    obtain ⟨es, h3, h2⟩ := bnd h2
    obtain ⟨⟨es', d'⟩, h4, h2⟩ := bnd h2
    cases h2
    refine h B F e σ H _ hn I e1 as s h1 fun F1 vs a H1 s1 I1 r1 o f1 f2 f3 ne => ?_
    rw [List.append_nil]
    have I2 := I1.ext o f1 f2 f3 ne
    have hx : (σ ++ [some (V.ref a)])[e1.length]? = some (some (.ref a)) := by
      rw [List.getElem?_append_right (by rw [I1.len]; exact Nat.le_refl _), I1.len, Nat.sub_self]; rfl
    refine call_core2 hlen I2 (r1.snoc hx) hnd h3 h4 fun F' v H' sm I' rv _ => ?_
    cases rv with
    | im r => exact q F' v H' (s1.trans sm) (I1.unext I') r
    | ow o _ _ _ => cases o
  · cases h2
theorem jcallL {K : PySem.W.Frag} {n k : Nat} {x : Str} {p pos : Pos} {ps : List Str} {m : FC} (G : DefOk X.prog X.w K X.mg X.base x ps k n m)
    (hr : RoomT k X.A) (hg : Gl X x) (ha : JAL X np (ex :: es) t fa) (hdb : (x == ("__debug__" : Str)) = false := by decide)
    (he : starEach (ex :: es) X.env = (false, eval ex X.env) :: starEach es X.env := by rfl) (hpl : (backTo pos (starEach es X.env)).any (·.1) = false := by rfl) (hK : X.K = K := by rfl) :
    JE X np (.Call (.Name x p) (ex :: es) [] pos) (tCall (spM K n m) [] E0 t) (fCallL m fa) := by
  subst hK
  obtain ⟨f, fd, G, b, kp, e, l, kw⟩ := G
  exact ⟨pe_callT G hr hg e kp b.b .nil pass0 ha.pa hdb he hpl, de_callL ha.de (fun {es r} h => l es r h)⟩
end
/-! ### x[k] += c of one's own list -/
section
variable {X : Cx} {np : Nat}
def rGetL : V → V → Hp → VK → Prop := fun o i H Q => ∃ p xs k v, o = .ref p ∧ i = .int k ∧ H p = some (.lst xs) ∧ 0 ≤ k ∧ k < 2 ^ 62 ∧ xs[k.toNat]? = some v ∧ Q v H
theorem get_list : PGet X rGetL := by
  intro pins s σ H o i ov iv Q I ro ri h
  obtain ⟨p, xs, k, v, rfl, rfl, hp, h0, h1, hx, q⟩ := h
  cases ro
  obtain ⟨t, rfl⟩ := ri
  obtain ⟨z, its, n, r, hl, e⟩ := I.lstM hp
  obtain ⟨u, hu, ru⟩ := r.get hx
  exact wpAny_getItem_list ⟨_, e, rfl, n, rfl⟩ h0 (by omega) (by rw [← Array.getElem?_toList]; exact hu) ⟨v, H, I, ru, q⟩
def sAugC (i : Nat) (k c : Int) : FS := fun e => match e[i]? with
  | some (.lst ds) => match ds[k.toNat]? with
    | some (.int n) => if 0 ≤ k ∧ k < 2 ^ 62 then some (e.set i (.lst (ds.set k.toNat (.int (n + c)))), .nx) else none
    | _ => none
  | _ => none
theorem jaug {i : Nat} {x : Str} {p pos tpos p1 p2 : Pos} {j1 j2} {k c : Int} (hv : PE X (.Name x p) (tVar i))
    (ha : ∀ ov iv new, augStore (.Constant (.int k) j1 p1) ov iv new = (do holding [new, ov, iv] (setItem ov iv new); release [new, ov, iv] []; pure .next) := by intros; rfl) :
    JS X np (.AugAssign (.Subscript (.Name x p) (.Constant (.int k) j1 p1) tpos) .Add (.Constant (.int c) j2 p2) pos) (tAugS (tVar i) (tC (.int k)) (tC (.int c)) rGetL (ipI fun i j => i + j) rSetL) (sAugC i k c) := by
  refine ⟨ps_augS hv pe_int get_list pe_int ip_add set_list ha, fun B F e σ H E hn I e' fl hf q => ?_⟩
  unfold sAugC at hf
  split at hf
  · rename_i ds hds
    split at hf
    · rename_i n hn'
      split at hf
      · rename_i hk
        cases hf
        obtain ⟨v0, hv0, r0⟩ := I.slot hds
        obtain ⟨a, ev, o, _⟩ := r0.of_own rfl
        subst ev
        cases o with
        | @lst xs _ g3 g4 =>
          obtain ⟨w, hw, rw'⟩ := g4.getD hn'
          cases rw'
          have hlt : k.toNat < xs.length := (List.getElem?_eq_some_iff.mp hw).1
          refine ⟨.ref a, hv0, a, xs, k, _, rfl, rfl, g3, hk.1, hk.2, hw, n, c, rfl, rfl, a, xs, k, k.toNat, rfl, rfl, g3, ?_, ?_⟩
          · unfold ixN
            rw [if_pos hk.1, if_pos (by omega)]
          · exact q F _ _ (Same.refl F) (I.turn (s' := .lst (ds.set k.toNat (.int (n + c)))) hds rfl hv0 (.lst upd_same (g4.set (.int _) _)))
      · cases hf
    · cases hf
  · cases hf
end
/-! ### d.update(e) -/
def rUpdate : V → List V → Hp → VK → Prop := fun x vs H Q => ∃ (a o : Addr) (kvs more : List (Key × V)), x = .ref a ∧ vs = [.ref o] ∧ H a = some (.dK kvs) ∧ Rd H o (.dK more) ∧ a ≠ o ∧ kvs.length + more.length ≤ sizeLine ∧ Q .non (upd H a (.dK (mergeK kvs more)))
section
variable {X : Cx} {np : Nat}
theorem mt_update : MtR X "dict.update" rUpdate := by
  intro pins s σ H x xs v us Q I rx rxs h
  obtain ⟨a, o, kvs, more, rfl, rfl, ha, ho, hao, hz, q⟩ := h
  cases rx
  obtain ⟨u, rfl, ru⟩ := rxs.one
  cases ru
  obtain ⟨z1, hd1, vs1, rel1, dd1⟩ := dk_of I.hok ha
  obtain ⟨z2, hd2, vs2, rel2, dd2⟩ := dk_rd I.hok ho
  refine call_meetsIn PySem.F.slot_dict_update dd1.typeIs PySem.F.entry_dict_update (PySem.F.args_dict_update_2 _ _) (meets_dict_update (mixKind X.prog X.w) a o hao hd2)
    ⟨vs1, vs2, dd1, dd2, by rw [← Paired.length rel1, ← Paired.length rel2]; exact hz, fun h' hd' ho' hs => ?_⟩
  have he : ∃ q, h'.get? a = some q := let ⟨q, _, _, hq, _⟩ := hd'; ⟨q, hq⟩
  refine ⟨.non, _, d_write I (t' := s.toks) (by rw [ha]; exact True.intro) hs he (dk_new ?_ hd1 (rel2.merge rel1) hd'), rfl, q⟩
  exact Nat.le_trans (length_mergeK more kvs) hz
def OwN (K : PySem.W.Frag) (r : V → List V → Hp → VK → Prop) (g : Sl → List D → Option (Sl × D)) : Prop :=
  ∀ (F H : Hp) (a : Addr) (s s' : Sl) (xs : List V) (ds : List D) (d : D) (Q : VK), Same F H → F a = none → Ow K F H a s → Rps K F xs ds → g s ds = some (s', d) →
    (∀ (o : HO) (v : V), Ow K F (upd H a o) a s' → Rp K F v d → Q v (upd H a o)) → r (.ref a) xs H Q
theorem de_bmN {K : PySem.W.Frag} {np n : Nat} {T : String} {i : Nat} {r : V → List V → Hp → VK → Prop} {g : Sl → List D → Option (Sl × D)} {t : TA} {fs : FEs} (hm : OwN K r g) (h : DEs K np n t fs) : DE K np (tBM K T r (tVar i) t) (fBm T i g fs) := by
  intro B F e σ H Q hn I e' d hf q
  unfold fBm at hf
  split at hf
  · rename_i s0 h0
    split at hf
    · rename_i ho
      obtain ⟨hT, ho⟩ := ho
      subst hT
      obtain ⟨⟨e1, ds⟩, h1, hf⟩ := bnd hf
      simp only at hf
      split at hf
      · rename_i s h2
        split at hf
        · rename_i hos
          obtain ⟨⟨s', d'⟩, h3, hf⟩ := bnd hf
          cases hf
          obtain ⟨v0, hv0, r0⟩ := I.slot h0
          obtain ⟨a, ev, o0, _⟩ := r0.of_own ho
          subst ev
          refine ⟨.ref a, hv0, tyV_own o0, h B F e σ H _ hn I e1 ds h1 fun F1 vs H1 s1 I1 r1 _ => ?_⟩
          obtain ⟨a', ev, o1, f1, _⟩ := (I1.sl i _ _ h2 hv0).of_own hos
          cases ev
          refine hm F1 H1 a s s' vs ds _ Q I1.sf f1 o1 r1 h3 fun o v ow rv => ?_
          exact q F1 v _ s1 (I1.turn h2 hos hv0 ow) rv
        · cases hf
      · cases hf
    · cases hf
  · cases hf
def gUpdate : Sl → List D → Option (Sl × D)
  | .dic es, [.dic ks] => if es.length + ks.length ≤ sizeLine then some (.dic (ks.foldl (fun acc kv => putG acc kv.1 kv.2) es), .non) else none
  | _, _ => none
theorem ow_update {K : PySem.W.Frag} : OwN K rUpdate gUpdate := by
  intro F H a s s' xs ds d Q sf fa o r hf q
  unfold gUpdate at hf
  split at hf
  · split at hf
    · rename_i hz
      cases hf
      obtain ⟨x, rfl, rx⟩ : ∃ x, xs = [x] ∧ Rp K F x (.dic _) := by cases r with | cons r t => cases t; exact ⟨_, rfl, r⟩
      cases o with
      | dic h1 h2 =>
        cases rx with
        | @dic b kvs _ rd rk =>
          have hb : a ≠ b := fun z => by
            subst z
            rcases rd with rd | ⟨_, rd⟩ <;> (rw [fa] at rd; cases rd)
          refine ⟨a, b, _, kvs, rfl, rfl, h1, rd_mono sf rd, hb, by rw [h2.length, rk.length]; exact hz, ?_⟩
          exact q _ _ (.dic upd_same (merge_rpk rk h2)) .non
    · cases hf
  · cases hf
theorem jupdate {K : PySem.W.Frag} {i : Nat} {x : Str} {p apos cpos : Pos} {ex : Expr} {te : TE} {fe : FE} (hv : PE X (.Name x p) (tVar i)) (h : JE X np ex te fe)
    (hs : starEach [ex] X.env = (false, eval ex X.env) :: starEach [] X.env := by rfl) (hbase : attributeBase (.Name x p) "update" X.env (eval (.Name x p) X.env) = eval (.Name x p) X.env := by rfl)
    (hfew : ((backTo cpos (starEach (ex :: []) X.env)).all (fun x => !x.1) && (backToKw cpos (keywordEach [] X.env)).all (fun x => x.1.isSome)
      && decide ((ex :: []).length + ([] : List Keyword).length + (if ([] : List Keyword).isEmpty then 0 else 1) < 30)) = true := by rfl)
    (hline : (apos.endLine == cpos.line) = true := by rfl) (hplain : (backTo cpos (starEach [] X.env)).any (·.1) = false := by rfl) (hK : X.K = K := by rfl) :
    JE X np (.Call (.Attribute (.Name x p) "update" apos) [ex] [] cpos) (tBM K "dict" rUpdate (tVar i) (tCons te tNil)) (fBm "dict" i gUpdate (fCons fe fNil)) := by
  subst hK
  exact ⟨pe_bm PySem.F.plainAttrs_dict PySem.F.slot_dict_update PySem.F.type_dict_update mt_update hv (pa_cons h.pe pa_nil hs) hbase hfew hline hs hplain, de_bmN ow_update (jes_cons h jes_nil hs).de⟩
end
/-! ### dict comprehensions -/
def dcLoop (vs : List Nat) (b : FG) (c : FT) (fk fv : FE) : List D → Sls → List (Key × D) → Option (Sls × List (Key × D))
  | [], e, acc => some (e, acc)
  | d :: ds, e, acc => (b e d).bind fun e1 => (c e1).bind fun p => if p.2 = true then (fk p.1).bind fun y => (fv y.1).bind fun q => y.2.key.bind fun k => if acc.length < sizeLine then dcLoop vs b c fk fv ds (wipeS q.1 vs) (putG acc k q.2) else none
    else dcLoop vs b c fk fv ds (wipeS p.1 vs) acc
def oDc (it : FI) (vs : List Nat) (b : FG) (c : FT) (fk fv : FE) : Sls → Option (Sls × Sl) := fun e => (it e).bind fun p =>
  if vs.all (fun i => !((p.1[i]?.getD .un).own)) = true then (dcLoop vs b c fk fv p.2 (wipeS p.1 vs) []).bind fun q => some (restS p.1 q.1 vs, .dic q.2) else none
theorem dow_dc {K : PySem.W.Frag} {np : Nat} {wi : TI} {fi : FI} {ts vs : List Nat} {g : TG} {b : FG} {tt : TT} {c : FT} {tk tv : TE} {fk fv : FE} (hi : DI K np wi fi) (hg : DG K np ts g b) (ht : DT K np tt c) (hk : DE K np tk fk) (he : DE K np tv fv)
    (hts : ∀ i ∈ ts, i ∈ vs) (hvs : ∀ i ∈ vs, np ≤ i) : DOw K np (tDc wi g tt tk tv vs) (oDc fi vs b c fk fv) := by
  intro B F e σ H Q hn I e' d hf q
  obtain ⟨⟨e1, ds⟩, h1, hf⟩ := bnd hf
  split at hf
  · rename_i hown
    obtain ⟨⟨e2, out⟩, h2, hf⟩ := bnd hf
    cases hf
    refine hi B F e σ H _ hn I e1 ds h1 fun F1 J H1 s1 I1 it => fun p hp => ?_
    obtain ⟨fp, gp, bp, hp0⟩ := I1.free hp
    have hw : ∀ {B' : Bs} {F' : Hp} {e' : Sls} {σ' : L2.St} {H' : Hp}, B'.np = np → IV K B' F' e' σ' H' → Out ts (L2.wipe σ vs) σ' → IV K B' F' (wipeS e' vs) (L2.wipe σ vs) H' := fun {B' F' e' σ' H'} hn' I' o => by
      refine I'.re (by rw [wipeS_length, I'.len, o.1]) (fun i s hs => ?_) fun i hi' => ?_
      · rcases wipeS_get hs with q | ⟨q1, q2⟩
        · exact .inl q
        · exact .inr (.inl ⟨q2, by rw [wipe_out q1, o.get hts q1]⟩)
      · have : i ∉ vs := fun m => by have := hvs i m; omega
        rw [wipe_out this, o.get hts this]
    refine ⟨fun i m H' => m = ds.length - i ∧ i ≤ ds.length ∧ ∃ F' e' acc accv, Same F1 F' ∧ IV K { B with G := upd B.G p (.dK accv) } F' e' (L2.wipe σ vs) H' ∧ Rpk K F' accv acc ∧ dcLoop vs b c fk fv (ds.drop i) e' acc = some (e2, out), ⟨ds.length, rfl, Nat.zero_le _, F1, wipeS e1 vs, [], [], Same.refl _, ?_, .nil, by rw [List.drop_zero]; exact h2⟩, ?_⟩
    · refine IV.guard ?_ hp
      refine I1.re (by rw [wipeS_length, L2.wipe_length, I1.len]) (fun i s hs => ?_) fun i hi' => ?_
      · rcases wipeS_get hs with q | ⟨q1, q2⟩
        · exact .inl q
        · exact .inr (.inl ⟨q2, by rw [wipe_out q1]⟩)
      · have : i ∉ vs := fun m => by have := hvs i m; omega
        rw [wipe_out this]
    · rintro i m H' ⟨rfl, hle, F', e', acc, accv, s2, I2, r2, hl⟩
      obtain ⟨i1, i2, i3⟩ := it F' _ e' _ H' s2 I2
      by_cases hlt : i < ds.length
      · refine .inr ⟨i1 i hlt, fun H4 => ∃ m', m' < ds.length - i ∧ m' = ds.length - (i + 1) ∧ i + 1 ≤ ds.length ∧ ∃ F' e' acc accv, Same F1 F' ∧ IV K { B with G := upd B.G p (.dK accv) } F' e' (L2.wipe σ vs) H4 ∧ Rpk K F' accv acc ∧ dcLoop vs b c fk fv (ds.drop (i + 1)) e' acc = some (e2, out),
          fun H4 ⟨m', a1, a2, a3⟩ => ⟨m', a1, a2, a3⟩, fun x H3 hy => ?_⟩
        obtain ⟨F3, dx, s3, I3, hd, rx⟩ := i3 i x H3 hlt hy
        have ed : ds.drop i = dx :: ds.drop (i + 1) := by
          have hlt' := hlt
          rw [List.getElem?_eq_getElem hlt] at hd
          cases hd
          exact List.drop_eq_getElem_cons hlt'
        rw [ed, dcLoop] at hl
        obtain ⟨ea, ha, hl⟩ := bnd hl
        obtain ⟨⟨eb, k⟩, hb, hl⟩ := bnd hl
        refine hg { B with G := upd B.G p (.dK accv) } F3 e' _ H3 x dx _ hn I3 rx ea ha fun F4 σ4 H4 s4 I4 o4 => ⟨?_, ?_⟩
        · have := o4.wipe hts
          rw [this]
          apply List.ext_getElem?
          intro j
          by_cases hj : j ∈ vs
          · have z : ∀ (τ : L2.St) (us : List Nat), j ∈ us → (L2.wipe τ us)[j]? = if j < τ.length then some none else none := fun τ us => by
              induction us with
              | nil => intro h; cases h
              | cons v us ih =>
                intro hm
                unfold L2.wipe
                by_cases z : v = j
                · subst z
                  rw [List.getElem?_set]
                  simp only [if_true, wipe_length]
                · rw [List.getElem?_set_ne z]
                  rcases List.mem_cons.mp hm with q | q
                  · exact absurd q.symm z
                  · exact ih q
            rw [z _ _ hj, z _ _ hj, wipe_length]
          · rw [wipe_out hj]
        refine ht { B with G := upd B.G p (.dK accv) } F4 ea σ4 H4 _ hn I4 eb k hb fun F5 H5 s5 I5 => ?_
        cases k with
        | false =>
          refine iteF ⟨_, by omega, rfl, hlt, F5, wipeS eb vs, acc, accv, s2.trans (s3.trans (s4.trans s5)), hw hn I5 o4, r2.mono (s3.trans (s4.trans s5)), hl⟩
        | true =>
          simp only [if_true] at hl
          obtain ⟨⟨ec, y⟩, hc, hl⟩ := bnd hl
          obtain ⟨⟨ed', z⟩, hdv, hl⟩ := bnd hl
          obtain ⟨k, hkk, hl⟩ := bnd hl
          split at hl
          · rename_i hsz
            refine iteT (hk { B with G := upd B.G p (.dK accv) } F5 eb σ4 H5 _ hn I5 ec y hc fun F6 v6 H6 s6 I6 r6 => ?_)
            refine he { B with G := upd B.G p (.dK accv) } F6 ec σ4 H6 _ hn I6 ed' z hdv fun F7 v7 H7 s7 I7 r7 => ?_
            have s27 := s3.trans (s4.trans (s5.trans (s6.trans s7)))
            refine ⟨accv, k, key_rpo (.rp r6 : RpO K F6 H6 v6 y) hkk, I7.sg p _ (show upd B.G p _ p = some _ from upd_same), by rw [r2.length]; exact hsz, _, by omega, rfl, hlt, F7, wipeS ed' vs, putG acc k z, putG accv k v7, s2.trans s27, ?_, put_rpk r7 (r2.mono s27), hl⟩
            rw [putG_put]
            exact IV.grow bp (hw hn I7 o4)
          · cases hl
      · have e : i = ds.length := by omega
        subst e
        rw [List.drop_length, dcLoop] at hl
        cases hl
        refine .inl ⟨i2, ?_⟩
        obtain ⟨I3, hpp, hpf, hne⟩ := IV.unguard2 gp bp I2
        have I4 : IV K B F' (restS e1 e2 vs) σ H' := by
          refine I3.re (by rw [restS_length, I3.len, L2.wipe_length]) (fun i s hs => ?_) fun i hi' => ?_
          · rcases restS_get hs with ⟨q1, q2⟩ | ⟨q1, q2⟩
            · have ho := List.all_eq_true.mp hown i q1
              cases hs1 : e1[i]? with
              | none => rw [hs1] at q2; exact .inl q2
              | some s0 =>
                rw [hs1] at q2 ho
                cases s0 with
                | un => exact .inl q2
                | im d0 =>
                  obtain ⟨v0, hv0, r0⟩ := I1.slot hs1
                  obtain ⟨x0, e0, r1⟩ := r0.of_im
                  subst e0
                  exact .inr (.inr ⟨x0, d0, q2, hv0, r1.mono s2⟩)
                | lst _ => cases ho
                | dic _ => cases ho
            · exact .inr (.inl ⟨q2, by rw [wipe_out q1]⟩)
          · have : i ∉ vs := fun m => by have := hvs i m; omega
            rw [wipe_out this]
        refine q F' p H' (s1.trans s2) I4 (.dic hpp r2) hpf gp hp0 fun j s hj ho => ?_
        rcases restS_get hj with ⟨q1, q2⟩ | ⟨q1, q2⟩
        · exfalso
          have hh := List.all_eq_true.mp hown j q1
          rw [← q2, ho] at hh
          cases hh
        · rw [← wipe_out (σ := σ) q1]
          exact hne j s q2 ho
  · cases hf
theorem jow_dc {X : Cx} {np : Nat} {kx vx tg iter : Expr} {ifs : List Expr} {scope : Scope} {own : List (Str × Nat)} {pos : Pos} {wi : TI} {fi : FI} {ts : List Nat} {g : TG} {b : FG} {tt : TT} {c : FT} {tk tv : TE} {fk fv : FE} (hc : X.calm = true) (hN : X.N.Nodup)
    (hi : JI X np tg iter wi fi) (ok : BlkOk X.N X.env.scope scope own)
    (hg : ∀ (s : Shared) (H : Hp) (C : Addr) (cl : List (Str × Addr)) (fp : List Addr), JG (X.blk s H scope (compEnvC scope cl C X.env) fp) np tg ts g b)
    (ht : ∀ (s : Shared) (H : Hp) (C : Addr) (cl : List (Str × Addr)) (fp : List Addr), JTs (X.blk s H scope (compEnvC scope cl C X.env) fp) np ifs tt c)
    (hk : ∀ (s : Shared) (H : Hp) (C : Addr) (cl : List (Str × Addr)) (fp : List Addr), JE (X.blk s H scope (compEnvC scope cl C X.env) fp) np kx tk fk)
    (he : ∀ (s : Shared) (H : Hp) (C : Addr) (cl : List (Str × Addr)) (fp : List Addr), JE (X.blk s H scope (compEnvC scope cl C X.env) fp) np vx tv fv)
    (hts : ∀ i ∈ ts, i ∈ own.map (·.2) := by decide) (hvs : ∀ i ∈ own.map (·.2), np ≤ i := by decide) (hs : ∀ x, foldedSetIterable iter X.env x = pure x := by intro _; rfl) :
    JOw X np (.DictComp kx vx [⟨tg, iter, ifs, 0⟩] scope pos) (tDc wi g tt tk tv (own.map (·.2))) (oDc fi (own.map (·.2)) b c fk fv) := by
  refine ⟨pe_dc hc hN hi.pi ok (fun s H C cl fp => (hg s H C cl fp).pg) (fun s H C cl fp => (ht s H C cl fp).pts) (fun s H C cl fp => (hk s H C cl fp).pe) (fun s H C cl fp => (he s H C cl fp).pe) hs, ?_⟩
  exact dow_dc hi.de (hg X.s_0 X.H_0 0 [] []).de (ht X.s_0 X.H_0 0 [] []).de (hk X.s_0 X.H_0 0 [] []).de (he X.s_0 X.H_0 0 [] []).de hts hvs
end M

namespace M
open PySem PySem.Spec PyProof.Rows L2
/-! ### a comprehension's list as one's own -/
def oLc (it : FI) (vs : List Nat) (b : FG) (c : FT) (f : FE) : Sls → Option (Sls × Sl) := fun e => (it e).bind fun p =>
  if vs.all (fun i => !((p.1[i]?.getD .un).own)) = true then (lcLoop vs b c f p.2 (wipeS p.1 vs) []).bind fun q => some (restS p.1 q.1 vs, .lst q.2) else none
theorem dow_lc {K : PySem.W.Frag} {np : Nat} {wi : TI} {fi : FI} {ts vs : List Nat} {g : TG} {b : FG} {tt : TT} {c : FT} {te : TE} {f : FE} (hi : DI K np wi fi) (hg : DG K np ts g b) (ht : DT K np tt c) (he : DE K np te f)
    (hts : ∀ i ∈ ts, i ∈ vs) (hvs : ∀ i ∈ vs, np ≤ i) : DOw K np (tLc wi g tt te vs) (oLc fi vs b c f) := by
  intro B F e σ H Q hn I e' d hf q
  obtain ⟨⟨e1, ds⟩, h1, hf⟩ := bnd hf
  split at hf
  · rename_i hown
    obtain ⟨⟨e2, out⟩, h2, hf⟩ := bnd hf
    cases hf
    refine hi B F e σ H _ hn I e1 ds h1 fun F1 J H1 s1 I1 it => fun p hp => ?_
    obtain ⟨fp, gp, bp, hp0⟩ := I1.free hp
    have hw : ∀ {B' : Bs} {F' : Hp} {e' : Sls} {σ' : L2.St} {H' : Hp}, B'.np = np → IV K B' F' e' σ' H' → Out ts (L2.wipe σ vs) σ' → IV K B' F' (wipeS e' vs) (L2.wipe σ vs) H' := fun {B' F' e' σ' H'} hn' I' o => by
      refine I'.re (by rw [wipeS_length, I'.len, o.1]) (fun i s hs => ?_) fun i hi' => ?_
      · rcases wipeS_get hs with q | ⟨q1, q2⟩
        · exact .inl q
        · exact .inr (.inl ⟨q2, by rw [wipe_out q1, o.get hts q1]⟩)
      · have : i ∉ vs := fun m => by have := hvs i m; omega
        rw [wipe_out this, o.get hts this]
    refine ⟨fun i m H' => m = ds.length - i ∧ i ≤ ds.length ∧ ∃ F' e' acc accv, Same F1 F' ∧ IV K { B with G := upd B.G p (.lst accv) } F' e' (L2.wipe σ vs) H' ∧ Rps K F' accv acc ∧ lcLoop vs b c f (ds.drop i) e' acc = some (e2, out), ⟨ds.length, rfl, Nat.zero_le _, F1, wipeS e1 vs, [], [], Same.refl _, ?_, .nil, by rw [List.drop_zero]; exact h2⟩, ?_⟩
    · refine IV.guard ?_ hp
      refine I1.re (by rw [wipeS_length, L2.wipe_length, I1.len]) (fun i s hs => ?_) fun i hi' => ?_
      · rcases wipeS_get hs with q | ⟨q1, q2⟩
        · exact .inl q
        · exact .inr (.inl ⟨q2, by rw [wipe_out q1]⟩)
      · have : i ∉ vs := fun m => by have := hvs i m; omega
        rw [wipe_out this]
    · rintro i m H' ⟨rfl, hle, F', e', acc, accv, s2, I2, r2, hl⟩
      obtain ⟨i1, i2, i3⟩ := it F' _ e' _ H' s2 I2
      by_cases hlt : i < ds.length
      · refine .inr ⟨i1 i hlt, fun H4 => ∃ m', m' < ds.length - i ∧ m' = ds.length - (i + 1) ∧ i + 1 ≤ ds.length ∧ ∃ F' e' acc accv, Same F1 F' ∧ IV K { B with G := upd B.G p (.lst accv) } F' e' (L2.wipe σ vs) H4 ∧ Rps K F' accv acc ∧ lcLoop vs b c f (ds.drop (i + 1)) e' acc = some (e2, out),
          fun H4 ⟨m', a1, a2, a3⟩ => ⟨m', a1, a2, a3⟩, fun x H3 hy => ?_⟩
        obtain ⟨F3, dx, s3, I3, hd, rx⟩ := i3 i x H3 hlt hy
        have ed : ds.drop i = dx :: ds.drop (i + 1) := by
          have hlt' := hlt
          rw [List.getElem?_eq_getElem hlt] at hd
          cases hd
          exact List.drop_eq_getElem_cons hlt'
        rw [ed, lcLoop] at hl
        obtain ⟨ea, ha, hl⟩ := bnd hl
        obtain ⟨⟨eb, k⟩, hb, hl⟩ := bnd hl
        refine hg { B with G := upd B.G p (.lst accv) } F3 e' _ H3 x dx _ hn I3 rx ea ha fun F4 σ4 H4 s4 I4 o4 => ⟨?_, ?_⟩
        · have := o4.wipe hts
          rw [this]
          apply List.ext_getElem?
          intro j
          by_cases hj : j ∈ vs
          · have z : ∀ (τ : L2.St) (us : List Nat), j ∈ us → (L2.wipe τ us)[j]? = if j < τ.length then some none else none := fun τ us => by
              induction us with
              | nil => intro h; cases h
              | cons v us ih =>
                intro hm
                unfold L2.wipe
                by_cases z : v = j
                · subst z
                  rw [List.getElem?_set]
                  simp only [if_true, wipe_length]
                · rw [List.getElem?_set_ne z]
                  rcases List.mem_cons.mp hm with q | q
                  · exact absurd q.symm z
                  · exact ih q
            rw [z _ _ hj, z _ _ hj, wipe_length]
          · rw [wipe_out hj]
        refine ht { B with G := upd B.G p (.lst accv) } F4 ea σ4 H4 _ hn I4 eb k hb fun F5 H5 s5 I5 => ?_
        cases k with
        | false =>
          refine iteF ⟨_, by omega, rfl, hlt, F5, wipeS eb vs, acc, accv, s2.trans (s3.trans (s4.trans s5)), hw hn I5 o4, r2.mono (s3.trans (s4.trans s5)), hl⟩
        | true =>
          simp only [if_true] at hl
          obtain ⟨⟨ec, y⟩, hc, hl⟩ := bnd hl
          split at hl
          · rename_i hsz
            refine iteT (he { B with G := upd B.G p (.lst accv) } F5 eb σ4 H5 _ hn I5 ec y hc fun F6 v6 H6 s6 I6 r6 => ?_)
            have s26 := s3.trans (s4.trans (s5.trans s6))
            refine ⟨accv, I6.sg p _ (show upd B.G p _ p = some _ from upd_same), by rw [r2.length]; exact hsz, _, by omega, rfl, hlt, F6, wipeS ec vs, acc ++ [y], accv ++ [v6], s2.trans s26, ?_, (r2.mono s26).append (.cons r6 .nil), hl⟩
            exact IV.grow bp (hw hn I6 o4)
          · cases hl
      · have e : i = ds.length := by omega
        subst e
        rw [List.drop_length, lcLoop] at hl
        cases hl
        refine .inl ⟨i2, ?_⟩
        obtain ⟨I3, hpp, hpf, hne⟩ := IV.unguard2 gp bp I2
        have I4 : IV K B F' (restS e1 e2 vs) σ H' := by
          refine I3.re (by rw [restS_length, I3.len, L2.wipe_length]) (fun i s hs => ?_) fun i hi' => ?_
          · rcases restS_get hs with ⟨q1, q2⟩ | ⟨q1, q2⟩
            · have ho := List.all_eq_true.mp hown i q1
              cases hs1 : e1[i]? with
              | none => rw [hs1] at q2; exact .inl q2
              | some s0 =>
                rw [hs1] at q2 ho
                cases s0 with
                | un => exact .inl q2
                | im d0 =>
                  obtain ⟨v0, hv0, r0⟩ := I1.slot hs1
                  obtain ⟨x0, e0, r1⟩ := r0.of_im
                  subst e0
                  exact .inr (.inr ⟨x0, d0, q2, hv0, r1.mono s2⟩)
                | lst _ => cases ho
                | dic _ => cases ho
            · exact .inr (.inl ⟨q2, by rw [wipe_out q1]⟩)
          · have : i ∉ vs := fun m => by have := hvs i m; omega
            rw [wipe_out this]
        refine q F' p H' (s1.trans s2) I4 (.lst hpp r2) hpf gp hp0 fun j s hj ho => ?_
        rcases restS_get hj with ⟨q1, q2⟩ | ⟨q1, q2⟩
        · exfalso
          have hh := List.all_eq_true.mp hown j q1
          rw [← q2, ho] at hh
          cases hh
        · rw [← wipe_out (σ := σ) q1]
          exact hne j s q2 ho
  · cases hf
theorem js_newLc {i : Nat} {y : Str} {py : Pos} {elt tg iter : Expr} {ifs : List Expr} {scope : Scope} {own : List (Str × Nat)} {pos spos : Pos} {wi : TI} {fi : FI} {ts : List Nat} {g : TG} {b : FG} {tt : TT} {c : FT} {te : TE} {f : FE} (hc : X.calm = true) (hN : X.N.Nodup)
    (hi : JI X np tg iter wi fi) (ok : BlkOk X.N X.env.scope scope own)
    (hg : ∀ (s : Shared) (H : Hp) (C : Addr) (cl : List (Str × Addr)) (fp : List Addr), JG (X.blk s H scope (compEnvC scope cl C X.env) fp) np tg ts g b)
    (ht : ∀ (s : Shared) (H : Hp) (C : Addr) (cl : List (Str × Addr)) (fp : List Addr), JTs (X.blk s H scope (compEnvC scope cl C X.env) fp) np ifs tt c)
    (he : ∀ (s : Shared) (H : Hp) (C : Addr) (cl : List (Str × Addr)) (fp : List Addr), JE (X.blk s H scope (compEnvC scope cl C X.env) fp) np elt te f)
    (hts : ∀ i ∈ ts, i ∈ own.map (·.2) := by decide) (hvs : ∀ i ∈ own.map (·.2), np ≤ i := by decide) (hs : ∀ x, foldedSetIterable iter X.env x = pure x := by intro _; rfl)
    (hy : X.N[i]? = some y := by rfl) (hyl : X.env.scope.names.lookup y = some .local := by rfl) (hnp : np ≤ i := by decide)
    (hsw : swapsWith (.ListComp elt [⟨tg, iter, ifs, 0⟩] scope pos) (some (.Name y py)) spos.line X.env = pure true := by rfl) (hx : Loc X.env.scope y := by first | exact Or.inl rfl | exact Or.inr rfl)
    (hf : X.fn y = true ∨ X.env.scope.names.lookup y = some .local := by first | exact .inl rfl | exact .inr rfl) :
    JS X np (.Assign [.Name y py] (.ListComp elt [⟨tg, iter, ifs, 0⟩] scope pos) spos) (tAsg (tLc wi g tt te (own.map (·.2))) (gName i)) (sSetO i (oLc fi (own.map (·.2)) b c f)) :=
  js_setO ⟨pe_lc hc hN hi.pi ok (fun s H C cl fp => (hg s H C cl fp).pg) (fun s H C cl fp => (ht s H C cl fp).pts) (fun s H C cl fp => (he s H C cl fp).pe) hs,
    dow_lc hi.de (hg X.s_0 X.H_0 0 [] []).de (ht X.s_0 X.H_0 0 [] []).de (he X.s_0 X.H_0 0 [] []).de hts hvs⟩
    (ps_setLc hc hN hy hyl hsw hi.pi ok (fun s H C cl fp => (hg s H C cl fp).pg) (fun s H C cl fp => (ht s H C cl fp).pts) (fun s H C cl fp => (he s H C cl fp).pe) hs) hnp
theorem jow_lc {X : Cx} {np : Nat} {elt tg iter : Expr} {ifs : List Expr} {scope : Scope} {own : List (Str × Nat)} {pos : Pos} {wi : TI} {fi : FI} {ts : List Nat} {g : TG} {b : FG} {tt : TT} {c : FT} {te : TE} {f : FE} (hc : X.calm = true) (hN : X.N.Nodup)
    (hi : JI X np tg iter wi fi) (ok : BlkOk X.N X.env.scope scope own)
    (hg : ∀ (s : Shared) (H : Hp) (C : Addr) (cl : List (Str × Addr)) (fp : List Addr), JG (X.blk s H scope (compEnvC scope cl C X.env) fp) np tg ts g b)
    (ht : ∀ (s : Shared) (H : Hp) (C : Addr) (cl : List (Str × Addr)) (fp : List Addr), JTs (X.blk s H scope (compEnvC scope cl C X.env) fp) np ifs tt c)
    (he : ∀ (s : Shared) (H : Hp) (C : Addr) (cl : List (Str × Addr)) (fp : List Addr), JE (X.blk s H scope (compEnvC scope cl C X.env) fp) np elt te f)
    (hts : ∀ i ∈ ts, i ∈ own.map (·.2) := by decide) (hvs : ∀ i ∈ own.map (·.2), np ≤ i := by decide) (hs : ∀ x, foldedSetIterable iter X.env x = pure x := by intro _; rfl) :
    JOw X np (.ListComp elt [⟨tg, iter, ifs, 0⟩] scope pos) (tLc wi g tt te (own.map (·.2))) (oLc fi (own.map (·.2)) b c f) :=
  ⟨pe_lc hc hN hi.pi ok (fun s H C cl fp => (hg s H C cl fp).pg) (fun s H C cl fp => (ht s H C cl fp).pts) (fun s H C cl fp => (he s H C cl fp).pe) hs,
    dow_lc hi.de (hg X.s_0 X.H_0 0 [] []).de (ht X.s_0 X.H_0 0 [] []).de (he X.s_0 X.H_0 0 [] []).de hts hvs⟩
end M

namespace M
open PySem PySem.Spec PyProof.Rows L2
/-! ### terms of whatever names; terms without bound names -/
mutual
def T.Wk (N : Nat) : T → Prop
  | .num i => 0 ≤ i ∧ i < 10 ^ 20
  | .name s => Asc s 40
  | .make s => Asc s 40
  | .app a b => a.Wk N ∧ b.Wk N
  | .op o a b => o ∈ opsL ∧ a.Wk N ∧ b.Wk N
  | .fn x b => Asc x 40 ∧ b.Wk N
  | .lt ps b => (plI ps).length ≤ N ∧ ps.Wk N ∧ b.Wk N
  | .cs a ws => a.Wk N ∧ (wlI ws).length ≤ N ∧ ws.Wk N
def PL.Wk (N : Nat) : PL → Prop
  | .nil => True
  | .cons x t r => Asc x 40 ∧ t.Wk N ∧ r.Wk N
def WL.Wk (N : Nat) : WL → Prop
  | .nil => True
  | .cons c xs t r => Asc c 40 ∧ (∀ s ∈ xs, Asc s 40) ∧ xs.length ≤ N ∧ t.Wk N ∧ r.Wk N
end
mutual
theorem T.wk {N : Nat} (hN : 3 ≤ N) : ∀ t : T, t.Ok → t.z ≤ N → t.Wk N
  | .num i, ok, _ => ok
  | .name s, ok, _ => (SmallN.nm ok).asc
  | .make s, ok, _ => (GreatN.nm ok).asc
  | .app a b, ok, hz => by rw [T.z] at hz; exact ⟨T.wk hN a ok.1 (by omega), T.wk hN b ok.2 (by omega)⟩
  | .op o a b, ok, hz => by rw [T.z] at hz; exact ⟨ok.1, T.wk hN a ok.2.1 (by omega), T.wk hN b ok.2.2 (by omega)⟩
  | .fn x b, ok, hz => by rw [T.z] at hz; exact ⟨(SmallN.nm ok.1).asc, T.wk hN b ok.2 (by omega)⟩
  | .lt ps b, ok, hz => by
    rw [T.z] at hz
    have := pl_len ps
    exact ⟨by omega, PL.wk hN ps ok.2.2.1 (by omega), T.wk hN b ok.2.2.2 (by omega)⟩
  | .cs a ws, ok, hz => by
    rw [T.z] at hz
    have := wl_len ws
    exact ⟨T.wk hN a ok.1 (by omega), by omega, WL.wk hN ws ok.2.2 (by omega)⟩
theorem PL.wk {N : Nat} (hN : 3 ≤ N) : ∀ t : PL, t.Ok → t.z ≤ N → t.Wk N
  | .nil, _, _ => trivial
  | .cons x t r, ok, hz => by rw [PL.z] at hz; exact ⟨(SmallN.nm ok.1).asc, T.wk hN t ok.2.1 (by omega), PL.wk hN r ok.2.2 (by omega)⟩
theorem WL.wk {N : Nat} (hN : 3 ≤ N) : ∀ t : WL, t.Ok → t.z ≤ N → t.Wk N
  | .nil, _, _ => trivial
  | .cons c xs t r, ok, hz => by
    rw [WL.z] at hz
    exact ⟨(GreatN.nm ok.1).asc, fun s hs => (SmallN.nm (ok.2.1 s hs)).asc, Nat.le_trans ok.2.2.2.1 hN, T.wk hN t ok.2.2.2.2.1 (by omega), WL.wk hN r ok.2.2.2.2.2 (by omega)⟩
end
theorem pl_wk {N : Nat} : ∀ {ps : PL}, ps.Wk N → ∀ q ∈ plI ps, Asc q.1 40 ∧ q.2.Wk N ∧ q.2.h ≤ ps.h
  | .nil, _, q, h => nomatch h
  | .cons x t r, ok, q, h => by
    rcases List.mem_cons.mp h with rfl | h
    · exact ⟨ok.1, ok.2.1, by rw [PL.h]; exact Nat.le_max_left _ _⟩
    · obtain ⟨h1, h2, h3⟩ := pl_wk ok.2.2 q h
      exact ⟨h1, h2, by rw [PL.h]; omega⟩
theorem wl_wk {N : Nat} : ∀ {ps : WL}, ps.Wk N → ∀ q ∈ wlI ps, Asc q.1 40 ∧ (∀ s ∈ q.2.1, Asc s 40) ∧ q.2.1.length ≤ N ∧ q.2.2.Wk N ∧ q.2.2.h ≤ ps.h
  | .nil, _, q, h => nomatch h
  | .cons c xs t r, ok, q, h => by
    rcases List.mem_cons.mp h with rfl | h
    · exact ⟨ok.1, ok.2.1, ok.2.2.1, ok.2.2.2.1, by rw [WL.h]; exact Nat.le_max_left _ _⟩
    · obtain ⟨h1, h2, h3, h4, h5⟩ := wl_wk ok.2.2.2.2 q h
      exact ⟨h1, h2, h3, h4, by rw [WL.h]; omega⟩
def T.few (N : Nat) : T → Prop
  | .lt ps _ => (plI ps).length ≤ N
  | .cs _ ws => (wlI ws).length ≤ N
  | _ => True
theorem T.Wk.few {N : Nat} {t : T} (h : t.Wk N) : t.few N := by
  cases t with
  | lt ps b => exact h.1
  | cs a ws => exact h.2.1
  | _ => trivial
theorem T.parts_wk {N : Nat} (hN : 1 ≤ N) {t : T} (ok : t.Wk N) : t.parts.length ≤ N + 1 ∧ ∀ q ∈ t.parts, q.1.h + 1 ≤ t.h ∧ q.1.Wk N ∧ q.2.length ≤ N := by
  cases t with
  | app a b =>
    refine ⟨by simp only [T.parts, List.length_cons, List.length_nil]; omega, fun q h => ?_⟩
    simp only [T.parts, List.mem_cons, List.not_mem_nil, or_false] at h
    rcases h with rfl | rfl
    · exact ⟨by simp only [T.h]; omega, ok.1, Nat.zero_le _⟩
    · exact ⟨by simp only [T.h]; omega, ok.2, Nat.zero_le _⟩
  | op o a b =>
    refine ⟨by simp only [T.parts, List.length_cons, List.length_nil]; omega, fun q h => ?_⟩
    simp only [T.parts, List.mem_cons, List.not_mem_nil, or_false] at h
    rcases h with rfl | rfl
    · exact ⟨by simp only [T.h]; omega, ok.2.1, Nat.zero_le _⟩
    · exact ⟨by simp only [T.h]; omega, ok.2.2, Nat.zero_le _⟩
  | fn x b =>
    refine ⟨by simp only [T.parts, List.length_cons, List.length_nil]; omega, fun q h => ?_⟩
    simp only [T.parts, List.mem_cons, List.not_mem_nil, or_false] at h
    subst h
    exact ⟨by simp only [T.h]; omega, ok.2, hN⟩
  | lt ps b =>
    have ok1 : (plI ps).length ≤ N := ok.1
    refine ⟨by rw [T.parts, pl_parts, List.length_append, List.length_map, List.length_cons, List.length_nil]; omega, fun q h => ?_⟩
    rw [T.parts, pl_parts] at h
    rcases List.mem_append.mp h with h | h
    · obtain ⟨w, hw, rfl⟩ := List.mem_map.mp h
      obtain ⟨_, h2, h3⟩ := pl_wk ok.2.1 w hw
      exact ⟨by simp only [T.h]; omega, h2, by rw [pl_names, List.length_map]; exact ok1⟩
    · obtain rfl := List.mem_singleton.mp h
      exact ⟨by simp only [T.h]; omega, ok.2.2, by rw [pl_names, List.length_map]; exact ok1⟩
  | cs a ws =>
    have ok1 : (wlI ws).length ≤ N := ok.2.1
    refine ⟨by rw [T.parts, wl_parts, List.length_cons, List.length_map]; omega, fun q h => ?_⟩
    rw [T.parts, wl_parts] at h
    rcases List.mem_cons.mp h with rfl | h
    · exact ⟨by simp only [T.h]; omega, ok.1, Nat.zero_le _⟩
    · obtain ⟨w, hw, rfl⟩ := List.mem_map.mp h
      obtain ⟨_, _, h2, h3, h4⟩ := wl_wk ok.2.2 w hw
      exact ⟨by simp only [T.h]; omega, h3, h2⟩
  | num _ => exact ⟨Nat.zero_le _, fun q h => nomatch h⟩
  | name _ => exact ⟨Nat.zero_le _, fun q h => nomatch h⟩
  | make _ => exact ⟨Nat.zero_le _, fun q h => nomatch h⟩
/-! the last place of a name -/
def lix : List Str → Str → Option Nat
  | [], _ => none
  | b :: bd, s => match lix bd s with
    | some k => some (k + 1)
    | none => if b = s then some 0 else none
theorem lix_lt : ∀ {bd : List Str} {s : Str} {k : Nat}, lix bd s = some k → k < bd.length
  | b :: bd, s, k, h => by
    rw [lix] at h
    rw [List.length_cons]
    cases e : lix bd s with
    | some j => rw [e] at h; cases h; have := lix_lt e; omega
    | none =>
      rw [e] at h
      simp only at h
      split at h
      · cases h; omega
      · cases h
theorem lix_append (s : Str) : ∀ (bd ns : List Str), lix (bd ++ ns) s = match lix ns s with
    | some k => some (bd.length + k)
    | none => lix bd s
  | [], ns => by
    rw [List.nil_append]
    cases lix ns s with
    | some k => simp
    | none => rfl
  | b :: bd, ns => by
    rw [List.cons_append, lix, lix_append s bd ns]
    cases lix ns s with
    | some k => simp only [List.length_cons]; congr 1; omega
    | none => rw [lix]
def fidx : List Str → Str → Option Nat
  | [], _ => none
  | b :: bd, s => if b = s then some 0 else (fidx bd s).map (· + 1)
theorem fidx_snoc (b s : Str) : ∀ r : List Str, fidx (r ++ [b]) s = match fidx r s with
    | some k => some k
    | none => if b = s then some r.length else none
  | [] => by simp only [List.nil_append, fidx, List.length_nil]; split <;> rfl
  | x :: r => by
    rw [List.cons_append, fidx, fidx_snoc b s r, fidx]
    by_cases h : x = s
    · simp only [h, if_true]
    · simp only [h, if_false]
      cases fidx r s with
      | some k => rfl
      | none =>
        simp only [Option.map_none, List.length_cons]
        split <;> rfl
theorem fidx_rev (s : Str) : ∀ bd : List Str, fidx bd.reverse s = (lix bd s).map fun k => bd.length - 1 - k
  | [] => rfl
  | b :: bd => by
    rw [List.reverse_cons, fidx_snoc, fidx_rev s bd, lix]
    cases e : lix bd s with
    | some k =>
      have := lix_lt e
      simp only [Option.map_some, List.length_cons]; congr 1; omega
    | none =>
      simp only [Option.map_none, List.length_reverse, List.length_cons]
      split
      · simp only [Option.map_some]; congr 1
      · rfl
theorem find_fidx (s : Str) : ∀ r : List Str, (List.range r.length).find? (fun k => decide (r.getD k ⟨#[]⟩ = s)) = fidx r s
  | [] => rfl
  | x :: r => by
    rw [List.length_cons, List.range_succ_eq_map, List.find?_cons, fidx]
    by_cases h : x = s
    · simp [h]
    · have ih := find_fidx s r
      simp only [List.getD_cons_zero, h, decide_false, if_false, List.find?_map, Function.comp_def, Nat.succ_eq_add_one, List.getD_cons_succ, ih]
theorem find_back (s : Str) (bd : List Str) : (List.range bd.length).find? (fun k => decide (bd.getD (bd.length - 1 - k) ⟨#[]⟩ = s)) = (lix bd s).map fun k => bd.length - 1 - k := by
  rw [← fidx_rev, ← find_fidx, List.length_reverse]
  have : ∀ k ∈ List.range bd.length, decide (bd.getD (bd.length - 1 - k) ⟨#[]⟩ = s) = decide (bd.reverse.getD k ⟨#[]⟩ = s) := fun k hk => by
    have hk := List.mem_range.mp hk
    rw [List.getD_eq_getElem?_getD, List.getD_eq_getElem?_getD, List.getElem?_reverse hk]
  generalize List.range bd.length = l at this
  induction l with
  | nil => rfl
  | cons a l ih =>
    rw [List.find?_cons, List.find?_cons, this a (List.mem_cons_self ..), ih fun k hk => this k (List.mem_cons_of_mem _ hk)]
/-! dicts of places -/
theorem lookK_put {k j : Key} {v : D} : ∀ {es : List (Key × D)}, lookK j (putG es k v) = if k = j then some v else lookK j es := by
  have h1 : ∀ es : List (Key × D), (es.any fun kv => decide (kv.1 = k)) = true → lookK j (es.map fun kv => if kv.1 = k then (kv.1, v) else kv) = if k = j then some v else lookK j es := by
    intro es
    induction es with
    | nil => intro h; cases h
    | cons p es ih =>
      intro h
      obtain ⟨a, b⟩ := p
      rw [List.map_cons]
      by_cases ha : a = k
      · subst ha
        simp only [if_true, lookK]
        by_cases hj : a = j
        · simp only [hj, if_true]
        · simp only [hj, if_false]
          by_cases hr : (es.any fun kv => decide (kv.1 = a)) = true
          · rw [ih hr, if_neg hj]
          · clear ih h
            induction es with
            | nil => rfl
            | cons q es ih2 =>
              obtain ⟨c, d⟩ := q
              have hc : ¬ c = a := fun z => hr (by simp [z])
              have hr2 : ¬ (es.any fun kv => decide (kv.1 = a)) = true := fun z => hr (by simp [z])
              rw [List.map_cons]
              simp only [hc, if_false, lookK]
              rw [ih2 hr2]
      · simp only [ha, if_false, lookK]
        have hr : (es.any fun kv => decide (kv.1 = k)) = true := by simpa [ha] using h
        rw [ih hr]
        by_cases hj : a = j
        · subst hj; simp only [if_true, Ne.symm ha, if_false]
        · simp only [hj, if_false]
  intro es
  unfold putG
  split
  · rename_i h; exact h1 es h
  · rename_i h
    induction es with
    | nil => simp only [List.nil_append, lookK]
    | cons p es ih =>
      obtain ⟨a, b⟩ := p
      have ha : ¬ a = k := fun z => h (by simp [z])
      have hr : ¬ (es.any fun kv => decide (kv.1 = k)) = true := fun z => h (by simp [z])
      rw [List.cons_append, lookK, lookK, ih hr]
      by_cases hj : a = j
      · subst hj; simp only [if_true]; rw [if_neg (fun z => ha z.symm)]
      · simp only [hj, if_false]
theorem putG_keys (es : List (Key × D)) (k : Key) (v : D) : (k ∈ es.map (·.1) ∧ (putG es k v).map (·.1) = es.map (·.1)) ∨ (k ∉ es.map (·.1) ∧ (putG es k v).map (·.1) = es.map (·.1) ++ [k]) := by
  unfold putG
  by_cases h : (es.any fun kv => decide (kv.1 = k)) = true
  · refine .inl ⟨?_, ?_⟩
    · obtain ⟨p, hp, e⟩ := List.any_eq_true.mp h
      exact List.mem_map.mpr ⟨p, hp, of_decide_eq_true e⟩
    · rw [if_pos h, List.map_map]
      refine List.map_congr_left fun p _ => ?_
      simp only [Function.comp_apply]
      split <;> rfl
  · refine .inr ⟨fun z => h ?_, ?_⟩
    · obtain ⟨p, hp, e⟩ := List.mem_map.mp z
      exact List.any_eq_true.mpr ⟨p, hp, decide_eq_true e⟩
    · rw [if_neg h, List.map_append]
      rfl
theorem putG_nodup {es : List (Key × D)} {k : Key} {v : D} (h : (es.map (·.1)).Nodup) : ((putG es k v).map (·.1)).Nodup := by
  rcases putG_keys es k v with ⟨_, e⟩ | ⟨hk, e⟩
  · rw [e]; exact h
  · rw [e]
    exact List.nodup_append.mpr ⟨h, List.nodup_cons.mpr ⟨List.not_mem_nil, List.nodup_nil⟩, fun a ha b hb e => hk (by rw [List.mem_singleton.mp hb] at e; rw [← e]; exact ha)⟩
theorem putG_len (es : List (Key × D)) (k : Key) (v : D) : (putG es k v).length ≤ es.length + 1 := by
  rcases putG_keys es k v with ⟨_, e⟩ | ⟨hk, e⟩
  · have := congrArg List.length e
    rw [List.length_map, List.length_map] at this; omega
  · have := congrArg List.length e
    rw [List.length_map, List.length_append, List.length_map] at this
    simp only [List.length_cons, List.length_nil] at this; omega
theorem look_none {k : Key} : ∀ {es : List (Key × D)}, k ∉ es.map (·.1) → lookK k es = none
  | [], _ => rfl
  | (a, b) :: es, h => by
    rw [lookK, if_neg (fun z => h (by rw [← z]; exact List.mem_cons_self ..)), look_none fun z => h (List.mem_cons_of_mem _ z)]
theorem look_merge {j : Key} : ∀ {ks es : List (Key × D)}, (ks.map (·.1)).Nodup → lookK j (ks.foldl (fun acc kv => putG acc kv.1 kv.2) es) = match lookK j ks with
    | some v => some v
    | none => lookK j es
  | [], es, _ => rfl
  | (a, b) :: ks, es, h => by
    rw [List.map_cons, List.nodup_cons] at h
    rw [List.foldl_cons, look_merge h.2, lookK_put, lookK]
    by_cases z : a = j
    · subst z
      rw [look_none h.1]
      simp only [if_true]
    · simp only [z, if_false]
theorem len_merge : ∀ (ks es : List (Key × D)), (ks.foldl (fun acc kv => putG acc kv.1 kv.2) es).length ≤ es.length + ks.length
  | [], es => Nat.le_refl _
  | p :: ks, es => by
    have h1 := len_merge ks (putG es p.1 p.2)
    have h2 := putG_len es p.1 p.2
    rw [List.foldl_cons, List.length_cons]; omega
/-- names numbered from a number on -/
def enK (d : Int) : Nat → List Str → List (Key × D) → List (Key × D)
  | _, [], acc => acc
  | j, x :: xs, acc => enK d (j + 1) xs (putG acc (.inr x) (.int (d + (0 + (j : Nat)))))
theorem enK_len (d : Int) : ∀ (xs : List Str) (j : Nat) (acc : List (Key × D)), (enK d j xs acc).length ≤ acc.length + xs.length
  | [], _, _ => Nat.le_refl _
  | x :: xs, j, acc => by
    have h1 := enK_len d xs (j + 1) (putG acc (.inr x) (.int (d + (0 + (j : Nat)))))
    have h2 := putG_len acc (.inr x) (.int (d + (0 + (j : Nat))))
    rw [enK, List.length_cons]; omega
theorem enK_nodup (d : Int) : ∀ (xs : List Str) (j : Nat) (acc : List (Key × D)), (acc.map (·.1)).Nodup → ((enK d j xs acc).map (·.1)).Nodup
  | [], _, _, h => h
  | x :: xs, j, acc, h => enK_nodup d xs (j + 1) _ (putG_nodup h)
theorem enK_look (d : Int) (s : Str) : ∀ (xs : List Str) (j : Nat) (acc : List (Key × D)), lookK (.inr s) (enK d j xs acc) = match lix xs s with
    | some k => some (.int (d + ((j + k : Nat) : Int)))
    | none => lookK (.inr s) acc
  | [], _, _ => rfl
  | x :: xs, j, acc => by
    rw [enK, enK_look d s xs (j + 1), lix]
    cases lix xs s with
    | some k => simp only; congr 3; omega
    | none =>
      simp only [lookK_put, Sum.inr.injEq]
      by_cases z : x = s
      · simp only [z, if_true]; congr 3; omega
      · simp only [z, if_false]
def DRel (es : List (Key × D)) (bd : List Str) : Prop := es.length ≤ bd.length ∧ ∀ s, lookK (.inr s) es = (lix bd s).map fun k => D.int (k : Nat)
theorem DRel.nil : DRel [] [] := ⟨Nat.le_refl _, fun _ => rfl⟩
theorem DRel.more {es : List (Key × D)} {bd : List Str} (h : DRel es bd) (ns : List Str) : DRel ((enK ((bd.length : Nat) : Int) 0 ns []).foldl (fun acc kv => putG acc kv.1 kv.2) es) (bd ++ ns) := by
  refine ⟨?_, fun s => ?_⟩
  · have h1 := len_merge (enK ((bd.length : Nat) : Int) 0 ns []) es
    have h2 := enK_len ((bd.length : Nat) : Int) ns 0 []
    have h3 := h.1
    rw [List.length_append]
    simp only [List.length_nil] at h2
    omega
  · rw [look_merge (enK_nodup _ ns 0 [] List.nodup_nil), enK_look, lix_append, h.2 s]
    cases lix ns s with
    | some k =>
      simp only [Option.map_some]
      congr 2
      omega
    | none => rfl
/-! terms without bound names -/
def extD : T → List D
  | .op o _ _ => [.str o]
  | .cs _ ws => (wlI ws).map fun w => .tup [.str w.1, .int ((w.2.1.length : Nat) : Int)]
  | _ => []
def nlN (bd : List Str) (s : Str) : D := match lix bd s with
  | some k => .tup [.str "bound", .int ((bd.length - 1 - k : Nat) : Int)]
  | none => .tup [.str "name", .str s]
def nlC (F : T × List Str → D) (t : T) (bd : List Str) : D := match t with
  | .name s => nlN bd s
  | .num i => .tup [.str "num", .int i]
  | .make s => .tup [.str "make", .str s]
  | t => .tup [.str t.tag, .int (((t.parts.map F ++ extD t).length : Nat) : Int), .lst (t.parts.map F ++ extD t)]
def nl : Nat → T → List Str → D
  | 0, _, _ => .non
  | f + 1, t, bd => nlC (fun p => nl f p.1 (bd ++ p.2)) t bd
def T.mk : T → List Str
  | .cs _ ws => (wlI ws).map (·.1)
  | _ => []
def T.opn : T → Str
  | .op o _ _ => o
  | _ => ⟨#[]⟩
def T.lens (t : T) : List Nat := t.parts.map fun q => q.2.length
def nmEq (b1 b2 : List Str) (s s' : Str) : Bool := match lix b1 s, lix b2 s' with
  | some k, some k' => decide (k = k')
  | none, none => decide (s = s')
  | _, _ => false
abbrev zipS (S : T → T → List Str → List Str → Bool) (P Q : List (T × List Str)) (b1 b2 : List Str) : Bool := (P.zip Q).all fun p => S p.1.1 p.2.1 (b1 ++ p.1.2) (b2 ++ p.2.2)
def smR (S : T → T → List Str → List Str → Bool) (t u : T) (b1 b2 : List Str) : Bool := decide (t.opn = u.opn) && (decide (t.mk = u.mk) && (decide (t.lens = u.lens) && zipS S t.parts u.parts b1 b2))
def smC (S : T → T → List Str → List Str → Bool) (t u : T) (b1 b2 : List Str) : Bool := match t, u with
  | .name s, .name s' => nmEq b1 b2 s s'
  | .num i, .num j => decide (i = j)
  | .make s, .make s' => decide (s = s')
  | t, u => smR S t u b1 b2
def sm : Nat → T → T → List Str → List Str → Bool
  | 0, _, _, _, _ => false
  | f + 1, t, u, b1, b2 => decide (t.tag = u.tag) && smC (sm f) t u b1 b2
open PyData in
theorem eqvAll_app : ∀ {a a' b b' : List PyData}, a.length = a'.length → eqvAll (a ++ b) (a' ++ b') = (eqvAll a a' && eqvAll b b')
  | [], [], _, _, _ => by simp [eqvAll]
  | x :: a, y :: a', b, b', h => by
    simp only [List.length_cons, Nat.add_right_cancel_iff] at h
    simp only [List.cons_append, eqvAll, eqvAll_app h, Bool.and_assoc]
  | [], _ :: _, _, _, h => by simp at h
  | _ :: _, [], _, _, h => by simp at h
open PyData in
theorem eqvAll_len : ∀ {a b : List PyData}, a.length ≠ b.length → eqvAll a b = false
  | [], [], h => absurd rfl h
  | x :: a, y :: b, h => by
    simp only [List.length_cons, ne_eq, Nat.add_right_cancel_iff] at h
    simp only [eqvAll, eqvAll_len h, Bool.and_false]
  | [], _ :: _, _ => by simp [eqvAll]
  | _ :: _, [], _ => by simp [eqvAll]
theorem pys_app : ∀ a b : List D, D.pys (a ++ b) = D.pys a ++ D.pys b
  | [], _ => rfl
  | x :: a, b => by rw [List.cons_append, D.pys, D.pys, pys_app a b]; rfl
theorem pys_len : ∀ a : List D, (D.pys a).length = a.length
  | [] => rfl
  | x :: a => by rw [D.pys, List.length_cons, List.length_cons, pys_len a]
theorem zip_eqv {S : T → T → List Str → List Str → Bool} {b1 b2 : List Str} {F G : T × List Str → D} : ∀ {P Q : List (T × List Str)}, P.map (fun q => q.2.length) = Q.map (fun q => q.2.length) →
    (∀ p ∈ P, ∀ q ∈ Q, p.2.length = q.2.length → S p.1 q.1 (b1 ++ p.2) (b2 ++ q.2) = PyData.eqv (F p).py (G q).py) → PyData.eqvAll (D.pys (P.map F)) (D.pys (Q.map G)) = zipS S P Q b1 b2
  | [], [], _, _ => by simp [D.pys, PyData.eqvAll, zipS]
  | p :: P, q :: Q, hl, h => by
    simp only [List.map_cons, List.cons.injEq] at hl
    have ih := zip_eqv hl.2 (fun p hp q hq => h p (List.mem_cons_of_mem _ hp) q (List.mem_cons_of_mem _ hq))
    simp only [List.map_cons, D.pys, PyData.eqvAll, ih, zipS, List.zip_cons_cons, List.all_cons, h p (List.mem_cons_self ..) q (List.mem_cons_self ..) hl.1]
  | [], _ :: _, hl, _ => by simp at hl
  | _ :: _, [], hl, _ => by simp at hl
theorem ext_eqv : ∀ L M : List (Str × List Str × T), PyData.eqvAll (D.pys (L.map fun w => .tup [.str w.1, .int ((w.2.1.length : Nat) : Int)])) (D.pys (M.map fun w => .tup [.str w.1, .int ((w.2.1.length : Nat) : Int)])) = (decide (L.map (·.1) = M.map (·.1)) && decide (L.map (fun w => w.2.1.length) = M.map (fun w => w.2.1.length)))
  | [], [] => by simp [D.pys, PyData.eqvAll]
  | w :: L, v :: M => by
    have ih := ext_eqv L M
    simp only [List.map_cons, D.pys, D.py, PyData.eqvAll, PyData.eqv, ih, List.cons.injEq, Bool.decide_and, Bool.and_true]
    have e : (((w.2.1.length : Nat) : Int) == ((v.2.1.length : Nat) : Int)) = decide (w.2.1.length = v.2.1.length) := by
      by_cases h : w.2.1.length = v.2.1.length
      · simp [h]
      · have : ¬ ((w.2.1.length : Nat) : Int) = ((v.2.1.length : Nat) : Int) := by omega
        simp [h, this]
    first | rw [e] | skip
    cases h1 : decide (w.1 = v.1) <;> cases h2 : decide (w.2.1.length = v.2.1.length) <;> cases decide (L.map (·.1) = M.map (·.1)) <;> simp_all
  | [], _ :: _ => by simp [D.pys, PyData.eqvAll]
  | _ :: _, [] => by simp [D.pys, PyData.eqvAll]
def T.leaf : T → Bool
  | .num _ => true
  | .name _ => true
  | .make _ => true
  | _ => false
theorem nlC_in {F : T × List Str → D} {t : T} {bd : List Str} (h : t.leaf = false) : nlC F t bd = .tup [.str t.tag, .int (((t.parts.map F ++ extD t).length : Nat) : Int), .lst (t.parts.map F ++ extD t)] := by
  cases t <;> first | rfl | cases h
theorem smC_in {S : T → T → List Str → List Str → Bool} {t u : T} {b1 b2 : List Str} (h : t.leaf = false) : smC S t u b1 b2 = smR S t u b1 b2 := by
  cases t <;> first | (cases u <;> rfl) | cases h
theorem lens_lt (ps : PL) (b : T) : (T.lt ps b).lens = List.replicate ((plI ps).length + 1) (plI ps).length := by
  simp only [T.lens, T.parts, pl_parts, List.map_append, List.map_map, List.map_cons, List.map_nil, Function.comp_def, pl_names, List.length_map]
  rw [List.map_const', List.replicate_succ']
theorem lens_cs (a : T) (ws : WL) : (T.cs a ws).lens = 0 :: (wlI ws).map fun w => w.2.1.length := by
  simp only [T.lens, T.parts, wl_parts, List.map_cons, List.map_map, Function.comp_def, List.length_nil]
theorem ext_same {t u : T} (ht : t.tag = u.tag) (hn : t.leaf = false) (hl : t.lens = u.lens) : PyData.eqvAll (D.pys (extD t)) (D.pys (extD u)) = (decide (t.opn = u.opn) && decide (t.mk = u.mk)) := by
  cases t <;> cases u <;> first | (exfalso; simp [T.tag] at ht; done) | (exfalso; simp [T.leaf] at hn; done) | skip
  case app.app => simp [extD, D.pys, PyData.eqvAll, T.opn, T.mk]
  case op.op o _ _ o' _ _ => simp [extD, D.pys, D.py, PyData.eqvAll, PyData.eqv, T.opn, T.mk]; by_cases h : o = o' <;> simp [h]
  case fn.fn => simp [extD, D.pys, PyData.eqvAll, T.opn, T.mk]
  case lt.lt => simp [extD, D.pys, PyData.eqvAll, T.opn, T.mk]
  case cs.cs =>
    rw [lens_cs, lens_cs] at hl
    simp only [List.cons.injEq, true_and] at hl
    simp only [extD, ext_eqv, hl, decide_true, Bool.and_true, T.opn, T.mk, Bool.true_and] <;> congr
theorem ext_diff {t u : T} (ht : t.tag = u.tag) (hn : t.leaf = false) (hl : t.lens ≠ u.lens) : t.parts.length + (extD t).length ≠ u.parts.length + (extD u).length ∨ (t.parts.length = u.parts.length ∧ PyData.eqvAll (D.pys (extD t)) (D.pys (extD u)) = false) := by
  cases t <;> cases u <;> first | (exfalso; simp [T.tag] at ht; done) | (exfalso; simp [T.leaf] at hn; done) | skip
  case app.app => exact absurd rfl hl
  case op.op => exact absurd rfl hl
  case fn.fn => exact absurd rfl hl
  case lt.lt ps b qs c =>
    rw [lens_lt, lens_lt] at hl
    refine .inl fun z => ?_
    simp only [T.parts, pl_parts, extD, List.length_append, List.length_map, List.length_cons, List.length_nil] at z
    have : (plI ps).length = (plI qs).length := by omega
    rw [this] at hl
    exact hl rfl
  case cs.cs a ws b vs =>
    rw [lens_cs, lens_cs] at hl
    simp only [T.parts, wl_parts, extD, List.length_cons, List.length_map, ext_eqv]
    by_cases hz : (wlI ws).length = (wlI vs).length
    · refine .inr ⟨by omega, ?_⟩
      rw [decide_eq_false (p := List.map (fun w => w.2.1.length) (wlI ws) = List.map (fun w => w.2.1.length) (wlI vs)) (fun z => hl (by rw [z])), Bool.and_false]
    · exact .inl fun z => hz (by omega)
theorem sm_in {S : T → T → List Str → List Str → Bool} {F G : T × List Str → D} {t u : T} {b1 b2 : List Str} (ht : t.tag = u.tag) (hn : t.leaf = false)
    (h : ∀ p ∈ t.parts, ∀ q ∈ u.parts, p.2.length = q.2.length → S p.1 q.1 (b1 ++ p.2) (b2 ++ q.2) = PyData.eqv (F p).py (G q).py) :
    smR S t u b1 b2 = PyData.eqv (D.tup [.str t.tag, .int (((t.parts.map F ++ extD t).length : Nat) : Int), .lst (t.parts.map F ++ extD t)]).py (D.tup [.str u.tag, .int (((u.parts.map G ++ extD u).length : Nat) : Int), .lst (u.parts.map G ++ extD u)]).py := by
  simp only [D.py, D.pys, PyData.eqv, PyData.eqvAll, Bool.and_true, ht, beq_self_eq_true, Bool.true_and, pys_app, List.length_append, List.length_map]
  have e : ((((t.parts.length + (extD t).length : Nat)) : Int) == (((u.parts.length + (extD u).length : Nat)) : Int)) = decide (t.parts.length + (extD t).length = u.parts.length + (extD u).length) := by
    by_cases hz : t.parts.length + (extD t).length = u.parts.length + (extD u).length
    · rw [hz]; simp
    · rw [decide_eq_false hz]
      exact beq_eq_false_iff_ne.mpr (fun z => hz (by omega))
  rw [e]
  unfold smR
  by_cases hl : t.lens = u.lens
  · have hP : t.parts.length = u.parts.length := by have := congrArg List.length hl; simpa only [T.lens, List.length_map] using this
    rw [eqvAll_app (by rw [pys_len, pys_len, List.length_map, List.length_map]; exact hP), zip_eqv hl h, ext_same ht hn hl, decide_eq_true hl, Bool.true_and]
    by_cases hz : (extD t).length = (extD u).length
    · rw [decide_eq_true (show t.parts.length + (extD t).length = u.parts.length + (extD u).length by omega)]
      cases decide (t.opn = u.opn) <;> cases decide (t.mk = u.mk) <;> cases zipS S t.parts u.parts b1 b2 <;> rfl
    · have := ext_same ht hn hl
      rw [eqvAll_len (by rw [pys_len, pys_len]; exact hz)] at this
      rw [decide_eq_false (show ¬ t.parts.length + (extD t).length = u.parts.length + (extD u).length by omega), Bool.false_and, ← Bool.and_assoc, ← this, Bool.false_and]
  · rw [decide_eq_false hl, Bool.false_and, Bool.and_false, Bool.and_false]
    rcases ext_diff ht hn hl with hz | ⟨hz, he⟩
    · rw [decide_eq_false hz, Bool.false_and]
    · rw [eqvAll_app (by rw [pys_len, pys_len, List.length_map, List.length_map]; exact hz), he, Bool.and_false, Bool.and_false]
def nlTag (bd : List Str) : T → Str
  | .name s => if (lix bd s).isSome then "bound" else "name"
  | t => t.tag
theorem nlC_tag (F : T × List Str → D) (t : T) (bd : List Str) : ∃ r, nlC F t bd = .tup (.str (nlTag bd t) :: r) := by
  cases t with
  | name s =>
    simp only [nlC, nlN, nlTag]
    cases lix bd s <;> exact ⟨_, rfl⟩
  | num i => exact ⟨_, rfl⟩
  | make i => exact ⟨_, rfl⟩
  | _ => rw [nlC_in rfl]; exact ⟨_, rfl⟩
theorem nlTag_ne {t u : T} (b1 b2 : List Str) (h : t.tag ≠ u.tag) : nlTag b1 t ≠ nlTag b2 u := by
  cases t <;> cases u <;> first | exact absurd rfl h | skip
  all_goals simp only [nlTag, T.tag]
  all_goals first | (split <;> decide +kernel) | decide +kernel
theorem sm_eqv : ∀ (f : Nat) (t u : T) (b1 b2 : List Str) (g1 g2 : Nat), b1.length = b2.length → (t.h ≤ f ∨ u.h ≤ f) → t.h ≤ g1 → u.h ≤ g2 → sm f t u b1 b2 = PyData.eqv (nl g1 t b1).py (nl g2 u b2).py
  | 0, t, u, _, _, _, _, _, hf, _, _ => by have := t.h_pos; have := u.h_pos; omega
  | f + 1, t, u, b1, b2, g1, g2, hb, hf, h1, h2 => by
    obtain ⟨g1, rfl⟩ : ∃ k, g1 = k + 1 := ⟨g1 - 1, by have := t.h_pos; omega⟩
    obtain ⟨g2, rfl⟩ : ∃ k, g2 = k + 1 := ⟨g2 - 1, by have := u.h_pos; omega⟩
    rw [sm, nl, nl]
    by_cases ht : t.tag = u.tag
    · rw [decide_eq_true (by rw [ht]), Bool.true_and]
      cases hn : t.leaf with
      | false =>
        have hn2 : u.leaf = false := by cases t <;> cases u <;> first | rfl | (exfalso; simp [T.leaf] at hn; done) | (exfalso; simp [T.tag] at ht; done)
        rw [smC_in hn, nlC_in hn, nlC_in hn2]
        have pm : ∀ {v : T} {q : T × List Str}, q ∈ v.parts → q.1.h + 1 ≤ v.h := fun {v q} hq => by
          cases v with
          | app a b => simp only [T.parts, List.mem_cons, List.not_mem_nil, or_false] at hq; rcases hq with rfl | rfl <;> simp only [T.h] <;> omega
          | op o a b => simp only [T.parts, List.mem_cons, List.not_mem_nil, or_false] at hq; rcases hq with rfl | rfl <;> simp only [T.h] <;> omega
          | fn x b => simp only [T.parts, List.mem_cons, List.not_mem_nil, or_false] at hq; subst hq; simp only [T.h]; omega
          | lt ps b =>
            simp only [T.parts] at hq
            rcases List.mem_append.mp hq with hq | hq
            · have := (PL.parts_mem hq).2.1; simp only [T.h]; omega
            · obtain rfl := List.mem_singleton.mp hq; simp only [T.h]; omega
          | cs a ws =>
            simp only [T.parts] at hq
            rcases List.mem_cons.mp hq with rfl | hq
            · simp only [T.h]; omega
            · have := (WL.parts_mem hq).1; simp only [T.h]; omega
          | num _ => nomatch hq
          | name _ => nomatch hq
          | make _ => nomatch hq
        refine sm_in ht hn fun p hp q hq hl => ?_
        have a1 := pm hp
        have a2 := pm hq
        exact sm_eqv f p.1 q.1 _ _ g1 g2 (by rw [List.length_append, List.length_append]; omega) (by omega) (by omega) (by omega)
      | true =>
        cases t <;> cases u <;> first | (exfalso; simp [T.tag] at ht; done) | (exfalso; simp [T.leaf] at hn; done) | skip
        case num.num i j =>
          simp only [smC, nlC, D.py, D.pys, PyData.eqv, PyData.eqvAll, beq_self_eq_true, Bool.true_and, Bool.and_true]
          by_cases h : i = j <;> simp [h]
        case make.make i j =>
          simp only [smC, nlC, D.py, D.pys, PyData.eqv, PyData.eqvAll, beq_self_eq_true, Bool.true_and, Bool.and_true]
          by_cases h : i = j <;> simp [h]
        case name.name s s' =>
          simp only [smC, nlC, nmEq, nlN]
          cases e1 : lix b1 s with
          | some k =>
            have l1 := lix_lt e1
            cases e2 : lix b2 s' with
            | some k' =>
              have l2 := lix_lt e2
              simp only [D.py, D.pys, PyData.eqv, PyData.eqvAll, beq_self_eq_true, Bool.true_and, Bool.and_true]
              by_cases h : k = k'
              · rw [h, hb]; simp
              · rw [decide_eq_false h]
                exact (beq_eq_false_iff_ne.mpr (fun z => h (by omega))).symm
            | none =>
              simp only [D.py, D.pys, PyData.eqv, PyData.eqvAll]
              rfl
          | none =>
            cases e2 : lix b2 s' with
            | some k' =>
              simp only [D.py, D.pys, PyData.eqv, PyData.eqvAll]
              rfl
            | none =>
              simp only [D.py, D.pys, PyData.eqv, PyData.eqvAll, beq_self_eq_true, Bool.true_and, Bool.and_true]
              by_cases h : s = s' <;> simp [h]
    · obtain ⟨r1, e1⟩ := nlC_tag (fun p => nl g1 p.1 (b1 ++ p.2)) t b1
      obtain ⟨r2, e2⟩ := nlC_tag (fun p => nl g2 p.1 (b2 ++ p.2)) u b2
      rw [decide_eq_false (fun z => ht (by simpa using z)), Bool.false_and, e1, e2]
      simp only [D.py, D.pys, PyData.eqv, PyData.eqvAll]
      have := nlTag_ne b1 b2 ht
      have : (nlTag b1 t == nlTag b2 u) = false := beq_eq_false_iff_ne.mpr this
      rw [this, Bool.false_and]
theorem zip_comm {S : T → T → List Str → List Str → Bool} {b1 b2 : List Str} : ∀ {P Q : List (T × List Str)}, (∀ p ∈ P, ∀ q ∈ Q, S p.1 q.1 (b1 ++ p.2) (b2 ++ q.2) = S q.1 p.1 (b2 ++ q.2) (b1 ++ p.2)) → zipS S P Q b1 b2 = zipS S Q P b2 b1
  | [], [], _ => rfl
  | p :: P, q :: Q, h => by
    have ih := zip_comm (fun p hp q hq => h p (List.mem_cons_of_mem _ hp) q (List.mem_cons_of_mem _ hq))
    simp only [zipS, List.zip_cons_cons, List.all_cons] at ih ⊢
    rw [h p (List.mem_cons_self ..) q (List.mem_cons_self ..), ih]
  | [], _ :: _, _ => rfl
  | _ :: _, [], _ => rfl
theorem sm_comm : ∀ (f : Nat) (t u : T) (b1 b2 : List Str), sm f t u b1 b2 = sm f u t b2 b1
  | 0, _, _, _, _ => rfl
  | f + 1, t, u, b1, b2 => by
    rw [sm, sm]
    have e0 : decide (t.tag = u.tag) = decide (u.tag = t.tag) := decide_eq_decide.mpr eq_comm
    rw [e0]
    by_cases ht : u.tag = t.tag
    · rw [decide_eq_true ht, Bool.true_and, Bool.true_and]
      cases hn : t.leaf with
      | false =>
        have hn2 : u.leaf = false := by cases t <;> cases u <;> first | rfl | (exfalso; simp [T.leaf] at hn; done) | (exfalso; simp [T.tag] at ht; done)
        rw [smC_in hn, smC_in hn2]
        unfold smR
        rw [zip_comm (P := t.parts) fun p _ q _ => sm_comm f p.1 q.1 _ _, show decide (t.opn = u.opn) = decide (u.opn = t.opn) from decide_eq_decide.mpr eq_comm, show decide (t.mk = u.mk) = decide (u.mk = t.mk) from decide_eq_decide.mpr eq_comm, show decide (t.lens = u.lens) = decide (u.lens = t.lens) from decide_eq_decide.mpr eq_comm]
      | true =>
        cases t <;> cases u <;> first | (exfalso; simp [T.tag] at ht; done) | (exfalso; simp [T.leaf] at hn; done) | skip
        case num.num i j => exact decide_eq_decide.mpr eq_comm
        case make.make i j => exact decide_eq_decide.mpr eq_comm
        case name.name s s' =>
          simp only [smC, nmEq]
          cases lix b1 s <;> cases lix b2 s' <;> simp only [eq_comm]
    · rw [decide_eq_false ht, Bool.false_and, Bool.false_and]
end M

namespace M
open PySem PySem.Spec PyProof.Rows L2
/-! ### rules for the new combinators, at a state that shows its first slot -/
section
variable (s : Sl) (e : Sls)
theorem c_fCall2 (m : FC) (e : Sls) (as : List Arg) : fCall2 m e as = if (owIx as).Nodup then (argSs e as).bind fun es => (m es).bind fun q => some (putBack e as q.1, q.2) else none := rfl
theorem c_fCallL (m : FC) (k : FAL) : fCallL m k (s :: e) = (k (s :: e)).bind fun p => (fCall2 m (p.1 ++ [p.2.2]) (p.2.1 ++ [.ow p.1.length])).bind fun q => match q.2 with
  | .im d => some (q.1.dropLast, d)
  | _ => none := rfl
theorem c_lOne (o : Sls → Option (Sls × Sl)) : lOne o (s :: e) = (o (s :: e)).bind fun r => some (r.1, [], r.2) := rfl
theorem c_lIm (f : FE) (g : FAL) : lIm f g (s :: e) = (f (s :: e)).bind fun p => (g p.1).bind fun q => some (q.1, .im p.2 :: q.2.1, q.2.2) := rfl
theorem c_lOw (i : Nat) (g : FAL) : lOw i g (s :: e) = if ((s :: e)[i]?.getD .un).own = true then (g (s :: e)).bind fun q => some (q.1, .ow i :: q.2.1, q.2.2) else none := rfl
theorem c_sAugC (i : Nat) (k c : Int) : sAugC i k c (s :: e) = match (s :: e)[i]? with
  | some (.lst ds) => match ds[k.toNat]? with
    | some (.int n) => if 0 ≤ k ∧ k < 2 ^ 62 then some ((s :: e).set i (.lst (ds.set k.toNat (.int (n + c)))), .nx) else none
    | _ => none
  | _ => none := rfl
theorem c_oDc (it : FI) (vs : List Nat) (b : FG) (c : FT) (fk fv : FE) : oDc it vs b c fk fv (s :: e) = (it (s :: e)).bind fun p =>
  if vs.all (fun i => !((p.1[i]?.getD .un).own)) = true then (dcLoop vs b c fk fv p.2 (wipeS p.1 vs) []).bind fun q => some (restS p.1 q.1 vs, .dic q.2) else none := rfl
theorem c_oLc (it : FI) (vs : List Nat) (b : FG) (c : FT) (f : FE) : oLc it vs b c f (s :: e) = (it (s :: e)).bind fun p =>
  if vs.all (fun i => !((p.1[i]?.getD .un).own)) = true then (lcLoop vs b c f p.2 (wipeS p.1 vs) []).bind fun q => some (restS p.1 q.1 vs, .lst q.2) else none := rfl
end
theorem g_update (es ks : List (Key × D)) : gUpdate (.dic es) [.dic ks] = if es.length + ks.length ≤ sizeLine then some (.dic (ks.foldl (fun acc kv => putG acc kv.1 kv.2) es), .non) else none := rfl
theorem dl_one (a : Sl) : [a].dropLast = [] := rfl
theorem dl_cons (a b : Sl) (e : Sls) : (a :: b :: e).dropLast = a :: (b :: e).dropLast := rfl
def dcStep (vs : List Nat) (b : FG) (c : FT) (fk fv : FE) (d : D) (e : Sls) (acc : List (Key × D)) : Option (Sls × List (Key × D)) :=
  (b e d).bind fun e1 => (c e1).bind fun p => if p.2 = true then (fk p.1).bind fun y => (fv y.1).bind fun q => y.2.key.bind fun k => if acc.length < sizeLine then some (wipeS q.1 vs, putG acc k q.2) else none else some (wipeS p.1 vs, acc)
theorem c_dcStep (vs : List Nat) (b : FG) (c : FT) (fk fv : FE) (d : D) (s : Sl) (e : Sls) (acc : List (Key × D)) : dcStep vs b c fk fv d (s :: e) acc =
  (b (s :: e) d).bind fun e1 => (c e1).bind fun p => if p.2 = true then (fk p.1).bind fun y => (fv y.1).bind fun q => y.2.key.bind fun k => if acc.length < sizeLine then some (wipeS q.1 vs, putG acc k q.2) else none else some (wipeS p.1 vs, acc) := rfl
theorem dc_step (vs : List Nat) (b : FG) (c : FT) (fk fv : FE) (d : D) (ds : List D) (e : Sls) (acc : List (Key × D)) : dcLoop vs b c fk fv (d :: ds) e acc = (dcStep vs b c fk fv d e acc).bind fun q => dcLoop vs b c fk fv ds q.1 q.2 := by
  rw [dcLoop]
  unfold dcStep
  cases b e d with
  | none => rfl
  | some e1 =>
    simp only [Option.bind_some]
    cases c e1 with
    | none => rfl
    | some p =>
      simp only [Option.bind_some]
      split
      · cases fk p.1 with
        | none => rfl
        | some y =>
          simp only [Option.bind_some]
          cases fv y.1 with
          | none => rfl
          | some q =>
            simp only [Option.bind_some]
            cases y.2.key with
            | none => rfl
            | some k =>
              simp only [Option.bind_some]
              split <;> rfl
      · rfl
theorem w_dc_map {α : Type} {vs : List Nat} {b : FG} {c : FT} {fk fv : FE} {e : Sls} (i : α → D) (F : List (Key × D) → α → List (Key × D)) {Q : Sls → List (Key × D) → Prop} : ∀ {ds : List α} {acc : List (Key × D)}, acc.length + ds.length ≤ 8000000 →
    (∀ d ∈ ds, ∀ acc : List (Key × D), (F acc d).length ≤ acc.length + 1) →
    (∀ d ∈ ds, ∀ (acc : List (Key × D)) (R : Sls → List (Key × D) → Prop), acc.length < sizeLine → R e (F acc d) → W (dcStep vs b c fk fv (i d) e acc) R) → Q e (ds.foldl F acc) → W (dcLoop vs b c fk fv (ds.map i) e acc) Q
  | [], acc, _, _, _, h => ⟨_, _, rfl, by simpa using h⟩
  | d :: ds, acc, hl, hF, hs, h => by
    rw [List.length_cons] at hl
    rw [List.map_cons, dc_step, W_bind]
    refine hs d (List.mem_cons_self ..) acc _ (line_lt (by omega)) ?_
    have := hF d (List.mem_cons_self ..) acc
    refine w_dc_map i F (ds := ds) (acc := F acc d) (by omega) (fun d' hd' => hF d' (List.mem_cons_of_mem _ hd')) (fun d' hd' => hs d' (List.mem_cons_of_mem _ hd')) ?_
    exact h
/-! names, numbered -/
def numS (ns : List Str) : List (Nat × Str) := (List.range ns.length).zip ns
def numD (p : Nat × Str) : D := .tup [.int (0 + (p.1 : Nat)), .str p.2]
theorem pairs_zip : ∀ (ks : List Nat) (ns : List Str), pairs (ks.map fun k => D.int (0 + (k : Nat))) (ns.map .str) = (ks.zip ns).map numD
  | [], _ => rfl
  | _ :: _, [] => rfl
  | k :: ks, n :: ns => by rw [List.map_cons, List.map_cons, pairs, pairs_zip ks ns]; rfl
theorem numbered_strs (ns : List Str) : numbered (ns.map .str) = (numS ns).map numD := by
  rw [numbered, List.length_map]
  exact pairs_zip _ _
theorem fold_enK (d : Int) : ∀ (ns : List Str) (j : Nat) (acc : List (Key × D)), (((List.range' j ns.length).zip ns).foldl (fun acc p => putG acc (.inr p.2) (.int (d + (0 + (p.1 : Nat))))) acc) = enK d j ns acc
  | [], _, _ => rfl
  | n :: ns, j, acc => by
    rw [List.length_cons, List.range'_succ, List.zip_cons_cons, List.foldl_cons, fold_enK d ns (j + 1)]
    rfl
theorem fold_num (d : Int) (ns : List Str) : ((numS ns).foldl (fun acc p => putG acc (.inr p.2) (.int (d + (0 + (p.1 : Nat))))) []) = enK d 0 ns [] := by
  rw [numS, List.range_eq_range']
  exact fold_enK d ns 0 []
theorem numS_len (ns : List Str) : (numS ns).length = ns.length := by simp [numS]
/-! == of lists of whole numbers -/
theorem plains_ints : ∀ ss : List Nat, D.plains (ss.map fun n => .int ((n : Nat) : Int)) = true
  | [] => rfl
  | s :: ss => by simp only [List.map_cons, D.plains, D.plain, plains_ints ss, Bool.and_self]
theorem depth_ints : ∀ ss : List Nat, PyData.depthAll (D.pys (ss.map fun n => .int ((n : Nat) : Int))) ≤ 1
  | [] => by simp [PyData.depthAll, D.pys]
  | s :: ss => by have := depth_ints ss; simp only [List.map_cons, D.pys, D.py, PyData.depthAll, PyData.depth]; omega
theorem eqvAll_ints : ∀ xs ys : List Nat, PyData.eqvAll (D.pys (xs.map fun n => .int ((n : Nat) : Int))) (D.pys (ys.map fun n => .int ((n : Nat) : Int))) = decide (xs = ys)
  | [], [] => rfl
  | [], y :: ys => by simp [PyData.eqvAll, D.pys]
  | x :: xs, [] => by simp [PyData.eqvAll, D.pys]
  | x :: xs, y :: ys => by
    have ih := eqvAll_ints xs ys
    simp only [List.map_cons, D.pys, D.py, PyData.eqvAll, PyData.eqv, ih, List.cons.injEq, Bool.decide_and]
    congr 1
    by_cases h : x = y
    · simp [h]
    · rw [decide_eq_false h]; exact beq_eq_false_iff_ne.mpr (fun z => h (by omega))
theorem ne_intsL (xs ys : List Nat) : neD (.lst (xs.map fun n => .int ((n : Nat) : Int))) (.lst (ys.map fun n => .int ((n : Nat) : Int))) = some (.bl (!decide (xs = ys))) := by
  have g : (D.lst (xs.map fun n => .int ((n : Nat) : Int))).plain = true ∧ (D.lst (ys.map fun n => .int ((n : Nat) : Int))).plain = true ∧ min (D.lst (xs.map fun n => .int ((n : Nat) : Int))).py.depth (D.lst (ys.map fun n => .int ((n : Nat) : Int))).py.depth ≤ 200 := by
    refine ⟨plains_ints xs, plains_ints ys, ?_⟩
    have := depth_ints xs
    simp only [D.py, PyData.depth]
    omega
  simp only [neD, neQ, eqG]
  rw [if_pos g]
  simp only [D.py, PyData.eqv, eqvAll_ints, Option.map_some]
theorem eq_numT (i j : Int) : eqD (.tup [.str "num", .int i]) (.tup [.str "num", .int j]) = some (.bl (decide (i = j))) := by
  have : eqG (.tup [.str "num", .int i]) (.tup [.str "num", .int j]) = some (decide (i = j)) := by
    unfold eqG
    rw [if_pos (by simp [D.plain, D.plains, D.py, D.pys, PyData.depth, PyData.depthAll])]
    simp only [D.py, D.pys, PyData.eqv, PyData.eqvAll, beq_self_eq_true, Bool.true_and, Bool.and_true]
    by_cases h : i = j <;> simp [h]
  simp only [eqD, eqQ, this, Option.map_some]
theorem eq_makeT (i j : Str) : eqD (.tup [.str "make", .str i]) (.tup [.str "make", .str j]) = some (.bl (decide (i = j))) := by
  have : eqG (.tup [.str "make", .str i]) (.tup [.str "make", .str j]) = some (decide (i = j)) := by
    unfold eqG
    rw [if_pos (by simp [D.plain, D.plains, D.py, D.pys, PyData.depth, PyData.depthAll])]
    simp only [D.py, D.pys, PyData.eqv, PyData.eqvAll, beq_self_eq_true, Bool.true_and, Bool.and_true]
    by_cases h : i = j <;> simp [h]
  simp only [eqD, eqQ, this, Option.map_some]
theorem eq_is (i : Int) (x : Str) : eqD (.int i) (.str x) = some (.bl false) := by
  simp [eqD, eqQ, eqG, D.plain, D.py, PyData.depth, PyData.eqv]
theorem eq_si (i : Int) (x : Str) : eqD (.str x) (.int i) = some (.bl false) := by
  simp [eqD, eqQ, eqG, D.plain, D.py, PyData.depth, PyData.eqv]
theorem ne_bb (a b : Bool) : neD (.bl a) (.bl b) = some (.bl (a != b)) := by
  simp only [neD, neQ, eqG, D.plain, D.py, PyData.depth, PyData.eqv]
  cases a <;> cases b <;> rfl
theorem in_twoL (x : Str) (a b : String) : inD (.str x) (.lst [.str (Str.ofString a), .str (Str.ofString b)]) = some (.bl (decide (x = Str.ofString a) || decide (x = Str.ofString b))) := by
  have := in_strsL x [Str.ofString a, Str.ofString b]
  simpa only [List.map_cons, List.map_nil, List.mem_cons, List.not_mem_nil, or_false, Bool.decide_or] using this
theorem in_twoT (x : Str) (a b : String) : inD (.str x) (.tup [.str (Str.ofString a), .str (Str.ofString b)]) = some (.bl (decide (x = Str.ofString a) || decide (x = Str.ofString b))) := by
  have := in_strsT x [Str.ofString a, Str.ofString b]
  simpa only [List.map_cons, List.map_nil, List.mem_cons, List.not_mem_nil, or_false, Bool.decide_or] using this
/-! depth and plainness of terms without bound names -/
theorem ext_plain : ∀ t : T, D.plains (extD t) = true
  | .op o _ _ => rfl
  | .cs _ ws => by
    simp only [extD]
    induction wlI ws with
    | nil => rfl
    | cons w r ih => simp only [List.map_cons, D.plains, D.plain, ih, Bool.and_self]
  | .num _ => rfl
  | .name _ => rfl
  | .make _ => rfl
  | .app _ _ => rfl
  | .fn _ _ => rfl
  | .lt _ _ => rfl
theorem ext_depth : ∀ t : T, PyData.depthAll (D.pys (extD t)) ≤ 1 + 1
  | .op o _ _ => by simp [extD, D.pys, D.py, PyData.depthAll, PyData.depth]
  | .cs _ ws => by
    simp only [extD]
    induction wlI ws with
    | nil => simp [D.pys, PyData.depthAll]
    | cons w r ih => simp only [List.map_cons, D.pys, D.py, PyData.depthAll, PyData.depth]; omega
  | .num _ => by simp [extD, D.pys, PyData.depthAll]
  | .name _ => by simp [extD, D.pys, PyData.depthAll]
  | .make _ => by simp [extD, D.pys, PyData.depthAll]
  | .app _ _ => by simp [extD, D.pys, PyData.depthAll]
  | .fn _ _ => by simp [extD, D.pys, PyData.depthAll]
  | .lt _ _ => by simp [extD, D.pys, PyData.depthAll]
theorem plains_app : ∀ a b : List D, D.plains (a ++ b) = (D.plains a && D.plains b)
  | [], _ => by simp [D.plains]
  | x :: a, b => by rw [List.cons_append, D.plains, D.plains, plains_app a b, Bool.and_assoc]
theorem depth_app : ∀ a b : List PyData, PyData.depthAll (a ++ b) = max (PyData.depthAll a) (PyData.depthAll b)
  | [], _ => by simp [PyData.depthAll]
  | x :: a, b => by rw [List.cons_append, PyData.depthAll, PyData.depthAll, depth_app a b, Nat.max_assoc]
theorem plains_map {α : Type} {F : α → D} : ∀ {L : List α}, (∀ x ∈ L, (F x).plain = true) → D.plains (L.map F) = true
  | [], _ => rfl
  | x :: L, h => by rw [List.map_cons, D.plains, h x (List.mem_cons_self ..), plains_map fun y hy => h y (List.mem_cons_of_mem _ hy)]; rfl
theorem depth_map {α : Type} {F : α → D} {n : Nat} : ∀ {L : List α}, (∀ x ∈ L, (F x).py.depth ≤ n) → PyData.depthAll (D.pys (L.map F)) ≤ n
  | [], _ => by simp [D.pys, PyData.depthAll]
  | x :: L, h => by
    have h1 := h x (List.mem_cons_self ..)
    have h2 := depth_map fun y hy => h y (List.mem_cons_of_mem _ hy)
    simp only [List.map_cons, D.pys, PyData.depthAll]; omega
theorem nl_plain : ∀ (f : Nat) (t : T) (bd : List Str), (nl f t bd).plain = true
  | 0, _, _ => rfl
  | f + 1, t, bd => by
    rw [nl]
    cases hn : t.leaf with
    | false =>
      rw [nlC_in hn]
      simp only [D.plain, D.plains, plains_app, ext_plain, Bool.and_true, Bool.true_and]
      exact plains_map fun x _ => nl_plain f _ _
    | true =>
      cases t <;> first | rfl | (exfalso; simp [T.leaf] at hn; done) | skip
      simp only [nlC, nlN]
      split <;> rfl
theorem nl_depth : ∀ (f : Nat) (t : T) (bd : List Str), (nl f t bd).py.depth ≤ 2 * f + 3
  | 0, _, _ => by simp [nl, D.py, PyData.depth]
  | f + 1, t, bd => by
    rw [nl]
    cases hn : t.leaf with
    | false =>
      rw [nlC_in hn]
      have h1 := ext_depth t
      have h2 := depth_map (L := t.parts) (F := fun p => nl f p.1 (bd ++ p.2)) (n := 2 * f + 3) fun x _ => nl_depth f _ _
      simp only [D.py, D.pys, PyData.depth, PyData.depthAll, pys_app, depth_app]
      omega
    | true =>
      cases t <;> first | (simp only [nlC, D.py, D.pys, PyData.depth, PyData.depthAll]; omega) | (exfalso; simp [T.leaf] at hn; done) | skip
      simp only [nlC, nlN]
      split <;> simp only [D.py, D.pys, PyData.depth, PyData.depthAll] <;> omega
theorem eqW_nl (f : Nat) (hf : f ≤ 400) (t u : T) (b1 b2 : List Str) : eqW (nl f t b1) (nl f u b2) = some (.bl (PyData.eqv (nl f t b1).py (nl f u b2).py)) := by
  have g : eqGw (nl f t b1) (nl f u b2) = some (PyData.eqv (nl f t b1).py (nl f u b2).py) := by
    unfold eqGw
    rw [if_pos ⟨nl_plain .., nl_plain .., by have := nl_depth f t b1; omega⟩]
  cases f with
  | zero => simp only [nl, eqW, eqQw] at g ⊢; rw [g]; rfl
  | succ f =>
    obtain ⟨r1, e1⟩ := nlC_tag (fun p => nl f p.1 (b1 ++ p.2)) t b1
    obtain ⟨r2, e2⟩ := nlC_tag (fun p => nl f p.1 (b2 ++ p.2)) u b2
    rw [nl, nl, e1, e2] at g ⊢
    simp only [eqW, eqQw, g, Option.map_some]
end M

namespace M
open PySem PySem.Spec PyProof.Rows L2
/-! ### bound names called otherwise -/
def frL (j : Nat) : List Nat := [122, 113, 97 + j % 26, 97 + j / 26 % 26, 97 + j / 26 / 26 % 26, 97 + j / 26 / 26 / 26 % 26]
def frS (j : Nat) : Str := ⟨(frL j).toArray⟩
theorem frS_inj {i j : Nat} (hi : i < 456976) (hj : j < 456976) (h : frS i = frS j) : i = j := by
  have h : (frL i).toArray = (frL j).toArray := congrArg Str.cps h
  have h : frL i = frL j := by simpa using h
  simp only [frL, List.cons.injEq] at h
  omega
theorem frS_len (j : Nat) : (frS j).length = 6 := rfl
theorem frS_asc (j : Nat) : Asc (frS j) 40 := by
  refine ⟨fun c hc => ?_, by rw [frS_len]; decide⟩
  simp only [frS, frL, List.mem_cons, List.not_mem_nil, or_false] at hc
  omega
theorem frS_not (j : Nat) : ¬ SmallN (frS j) := by
  rintro (h | ⟨c, cs, h1, h2, _⟩)
  · simp only [smallWs, List.mem_cons, List.not_mem_nil, or_false] at h
    have e := frS_len j
    rcases h with h | h | h | h | h | h | h | h | h | h | h | h <;> (rw [h] at e; revert e; decide +kernel)
  · have : frL j = c :: cs := by simpa [frS] using congrArg (fun s : Str => s.cps.toList) h1
    simp only [frL, List.cons.injEq] at this
    rw [← this.1, firstS_cps] at h2
    revert h2; decide
structure RR (es : List (Key × D)) (bd bd' : List Str) (n : Nat) : Prop where
  len : bd'.length = bd.length
  look : ∀ s, lookK (.inr s) es = (lix bd s).map fun k => D.str (bd'.getD k ⟨#[]⟩)
  back : ∀ s k, lix bd s = some k → lix bd' (bd'.getD k ⟨#[]⟩) = some k
  mem : ∀ b ∈ bd', ∃ j, 1 ≤ j ∧ j ≤ n ∧ b = frS j
  small : es.length ≤ bd.length
theorem RR.nil (n : Nat) : RR [] [] [] n := ⟨rfl, fun _ => rfl, fun _ _ h => (by cases h), fun _ h => (nomatch h), Nat.le_refl _⟩
theorem RR.mono {es : List (Key × D)} {bd bd' : List Str} {n m : Nat} (h : RR es bd bd' n) (hm : n ≤ m) : RR es bd bd' m :=
  ⟨h.len, h.look, h.back, fun b hb => by obtain ⟨j, h1, h2, h3⟩ := h.mem b hb; exact ⟨j, h1, by omega, h3⟩, h.small⟩
theorem lix_snoc (bd : List Str) (x s : Str) : lix (bd ++ [x]) s = if x = s then some bd.length else lix bd s := by
  rw [lix_append, lix, lix]
  by_cases h : x = s
  · simp [h]
  · simp [h]
theorem RR.add {es : List (Key × D)} {bd bd' : List Str} {n : Nat} (h : RR es bd bd' n) (hn : n + 1 < 456976) (x : Str) : RR (putG es (.inr x) (.str (frS (n + 1)))) (bd ++ [x]) (bd' ++ [frS (n + 1)]) (n + 1) := by
  have hl := h.len
  have gd : ∀ {k}, k < bd.length → (bd' ++ [frS (n + 1)]).getD k ⟨#[]⟩ = bd'.getD k ⟨#[]⟩ := fun {k} hk => by
    rw [List.getD_eq_getElem?_getD, List.getD_eq_getElem?_getD, List.getElem?_append_left (by omega)]
  have gl : (bd' ++ [frS (n + 1)]).getD bd.length ⟨#[]⟩ = frS (n + 1) := by
    rw [List.getD_eq_getElem?_getD, ← hl, List.getElem?_append_right (Nat.le_refl _), Nat.sub_self]; rfl
  refine ⟨by rw [List.length_append, List.length_append, hl]; rfl, fun s => ?_, fun s k hk => ?_, fun b hb => ?_, ?_⟩
  · rw [lookK_put, lix_snoc, h.look s]
    by_cases z : x = s
    · subst z
      simp only [if_true, Option.map_some, gl]
    · have z2 : ¬ (Sum.inr x : Key) = .inr s := fun e => z (by cases e; rfl)
      simp only [z, z2, if_false]
      cases e : lix bd s with
      | none => rfl
      | some k => simp only [Option.map_some, gd (lix_lt e)]
  · rw [lix_snoc] at hk
    split at hk
    · cases hk
      rw [gl, lix_snoc, if_pos rfl, hl]
    · have lt := lix_lt hk
      rw [gd lt, lix_snoc, if_neg, h.back s k hk]
      intro e
      have hm : bd'.getD k ⟨#[]⟩ ∈ bd' := by
        rw [List.getD_eq_getElem?_getD, List.getElem?_eq_getElem (by omega), Option.getD_some]; exact List.getElem_mem _
      obtain ⟨j, h1, h2, h3⟩ := h.mem _ hm
      rw [h3] at e
      have := frS_inj (by omega) (by omega) e
      omega
  · rcases List.mem_append.mp hb with hb | hb
    · obtain ⟨j, h1, h2, h3⟩ := h.mem b hb
      exact ⟨j, h1, by omega, h3⟩
    · exact ⟨n + 1, by omega, Nat.le_refl _, List.mem_singleton.mp hb⟩
  · have := putG_len es (.inr x) (.str (frS (n + 1)))
    have := h.small
    rw [List.length_append, List.length_cons, List.length_nil]; omega
/-- names n + 1, n + 2, .. -/
def frs (n : Nat) : Nat → List Str
  | 0 => []
  | k + 1 => frS (n + 1) :: frs (n + 1) k
theorem frs_len (n k : Nat) : (frs n k).length = k := by
  induction k generalizing n with
  | zero => rfl
  | succ k ih => rw [frs, List.length_cons, ih]
def putF (es : List (Key × D)) (n : Nat) : List Str → List (Key × D)
  | [] => es
  | x :: xs => putF (putG es (.inr x) (.str (frS (n + 1)))) (n + 1) xs
theorem RR.adds : ∀ {xs : List Str} {es : List (Key × D)} {bd bd' : List Str} {n : Nat}, RR es bd bd' n → n + xs.length < 456976 → RR (putF es n xs) (bd ++ xs) (bd' ++ frs n xs.length) (n + xs.length)
  | [], es, bd, bd', n, h, _ => by simpa [putF, frs] using h
  | x :: xs, es, bd, bd', n, h, hn => by
    rw [List.length_cons] at hn
    have := RR.adds (xs := xs) (h.add (by omega) x) (by omega)
    rw [List.append_assoc, List.append_assoc] at this
    rw [putF, List.length_cons, frs]
    have e : n + 1 + xs.length = n + (xs.length + 1) := by omega
    rw [e] at this
    exact this
theorem lix_nodup : ∀ {xs : List Str}, xs.Nodup → ∀ i, (h : i < xs.length) → lix xs xs[i] = some i
  | x :: xs, hn, 0, _ => by
    rw [List.nodup_cons] at hn
    have : lix xs x = none := by
      cases e : lix xs x with
      | none => rfl
      | some k =>
        exfalso
        have hm : ∀ {ys : List Str} {s : Str} {k : Nat}, lix ys s = some k → s ∈ ys := by
          intro ys
          induction ys with
          | nil => intro s k h; cases h
          | cons y ys ih =>
            intro s k h
            rw [lix] at h
            cases e2 : lix ys s with
            | some j => exact List.mem_cons_of_mem _ (ih e2)
            | none =>
              rw [e2] at h
              simp only at h
              split at h
              · rename_i z; rw [z]; exact List.mem_cons_self ..
              · cases h
        exact hn.1 (hm e)
    simp only [List.getElem_cons_zero, lix, this, if_true]
  | x :: xs, hn, i + 1, h => by
    rw [List.nodup_cons] at hn
    have ih := lix_nodup hn.2 i (by simpa using h)
    simp only [List.getElem_cons_succ, lix, ih]
theorem RR.names {xs : List Str} {es : List (Key × D)} {bd bd' ys : List Str} {n : Nat} (h : RR es (bd ++ xs) (bd' ++ ys) n) (hb : bd'.length = bd.length) (hn : xs.Nodup) : xs.map (fun s => lookK (.inr s) es) = ys.map fun y => some (D.str y) := by
  have hl : ys.length = xs.length := by have := h.len; rw [List.length_append, List.length_append] at this; omega
  refine List.ext_getElem (by rw [List.length_map, List.length_map, hl]) fun i h1 h2 => ?_
  rw [List.length_map] at h1 h2
  rw [List.getElem_map, List.getElem_map, h.look, lix_append, lix_nodup hn i h1]
  simp only [Option.map_some]
  congr 2
  rw [List.getD_eq_getElem?_getD, List.getElem?_append_right (by omega), hb, Nat.add_sub_cancel_left, List.getElem?_eq_getElem h2]; rfl
theorem RR.name {es : List (Key × D)} {bd bd' : List Str} {n : Nat} (h : RR es bd bd' n) {s : Str} (hs : SmallN s) : ∃ y, Asc y 40 ∧ (lookK (.inr s) es).getD (.str s) = .str y ∧ nlN bd' y = nlN bd s := by
  rw [h.look s]
  cases e : lix bd s with
  | none =>
    refine ⟨s, (SmallN.nm hs).asc, rfl, ?_⟩
    have : lix bd' s = none := by
      cases e2 : lix bd' s with
      | none => rfl
      | some k =>
        exfalso
        have lt := lix_lt e2
        have hm : s ∈ bd' := by
          have hm : ∀ {ys : List Str} {s : Str} {k : Nat}, lix ys s = some k → s ∈ ys := by
            intro ys
            induction ys with
            | nil => intro s k h; cases h
            | cons y ys ih =>
              intro s k h
              rw [lix] at h
              cases e2 : lix ys s with
              | some j => exact List.mem_cons_of_mem _ (ih e2)
              | none =>
                rw [e2] at h
                simp only at h
                split at h
                · rename_i z; rw [z]; exact List.mem_cons_self ..
                · cases h
          exact hm e2
        obtain ⟨j, _, _, h3⟩ := h.mem s hm
        rw [h3] at hs
        exact frS_not j hs
    simp only [nlN, e, this]
  | some k =>
    have lt := lix_lt e
    have hm : bd'.getD k ⟨#[]⟩ ∈ bd' := by
      rw [List.getD_eq_getElem?_getD, List.getElem?_eq_getElem (by have := h.len; omega), Option.getD_some]; exact List.getElem_mem _
    obtain ⟨j, _, _, h3⟩ := h.mem _ hm
    refine ⟨bd'.getD k ⟨#[]⟩, by rw [h3]; exact frS_asc j, rfl, ?_⟩
    simp only [nlN, e, h.back s k e, h.len]
/-! lists of parts -/
def toPL : List (Str × T) → PL
  | [] => .nil
  | p :: r => .cons p.1 p.2 (toPL r)
def toWL : List (Str × List Str × T) → WL
  | [] => .nil
  | p :: r => .cons p.1 p.2.1 p.2.2 (toWL r)
theorem plI_to : ∀ L, plI (toPL L) = L
  | [] => rfl
  | p :: r => by rw [toPL, plI, plI_to r]
theorem wlI_to : ∀ L, wlI (toWL L) = L
  | [] => rfl
  | p :: r => by rw [toWL, wlI, wlI_to r]
/-- alike, as great -/
structure Tw (bd bd' : List Str) (t u : T) : Prop where
  nl : ∀ g, M.nl g u bd' = M.nl g t bd
  h : u.h = t.h
  z : u.z = t.z
  wk : u.Wk 3300
def PLr (bd bd' : List Str) : List (Str × T) → List (Str × T) → Prop
  | [], [] => True
  | p :: L, q :: Ms => Tw bd bd' p.2 q.2 ∧ PLr bd bd' L Ms
  | _, _ => False
theorem PLr.len {bd bd' : List Str} : ∀ {L Ms : List (Str × T)}, PLr bd bd' L Ms → Ms.length = L.length
  | [], [], _ => rfl
  | p :: L, q :: Ms, h => by rw [List.length_cons, List.length_cons, PLr.len h.2]
theorem PLr.z {bd bd' : List Str} : ∀ {L Ms : List (Str × T)}, PLr bd bd' L Ms → (toPL Ms).z = (toPL L).z ∧ (toPL Ms).h = (toPL L).h
  | [], [], _ => ⟨rfl, rfl⟩
  | p :: L, q :: Ms, h => by
    obtain ⟨a, b⟩ := PLr.z h.2
    simp only [toPL, PL.z, PL.h, a, b, h.1.z, h.1.h, and_self]
theorem PLr.nl_eq {bd bd' : List Str} (g : Nat) : ∀ {L Ms : List (Str × T)}, PLr bd bd' L Ms → Ms.map (fun q => nl g q.2 bd') = L.map fun q => nl g q.2 bd
  | [], [], _ => rfl
  | p :: L, q :: Ms, h => by rw [List.map_cons, List.map_cons, PLr.nl_eq g h.2, h.1.nl g]
theorem PLr.wk {bd bd' : List Str} : ∀ {L Ms : List (Str × T)}, PLr bd bd' L Ms → (∀ y ∈ Ms.map (·.1), Asc y 40) → (toPL Ms).Wk 3300
  | [], [], _, _ => trivial
  | p :: L, q :: Ms, h, ha => ⟨ha _ (List.mem_cons_self ..), h.1.wk, PLr.wk h.2 fun y hy => ha y (List.mem_cons_of_mem _ hy)⟩
def WLr (bd bd' : List Str) : List (Str × List Str × T) → List (Str × List Str × T) → Prop
  | [], [] => True
  | p :: L, q :: Ms => (q.1 = p.1 ∧ q.2.1.length = p.2.1.length ∧ (∀ y ∈ q.2.1, Asc y 40) ∧ Tw (bd ++ p.2.1) (bd' ++ q.2.1) p.2.2 q.2.2) ∧ WLr bd bd' L Ms
  | _, _ => False
theorem WLr.len {bd bd' : List Str} : ∀ {L Ms : List (Str × List Str × T)}, WLr bd bd' L Ms → Ms.length = L.length
  | [], [], _ => rfl
  | p :: L, q :: Ms, h => by rw [List.length_cons, List.length_cons, WLr.len h.2]
theorem WLr.z {bd bd' : List Str} : ∀ {L Ms : List (Str × List Str × T)}, WLr bd bd' L Ms → (toWL Ms).z = (toWL L).z ∧ (toWL Ms).h = (toWL L).h
  | [], [], _ => ⟨rfl, rfl⟩
  | p :: L, q :: Ms, h => by
    obtain ⟨a, b⟩ := WLr.z h.2
    simp only [toWL, WL.z, WL.h, a, b, h.1.2.2.2.z, h.1.2.2.2.h, and_self]
theorem WLr.nl_eq {bd bd' : List Str} (g : Nat) : ∀ {L Ms : List (Str × List Str × T)}, WLr bd bd' L Ms → Ms.map (fun q => nl g q.2.2 (bd' ++ q.2.1)) = L.map fun q => nl g q.2.2 (bd ++ q.2.1)
  | [], [], _ => rfl
  | p :: L, q :: Ms, h => by rw [List.map_cons, List.map_cons, WLr.nl_eq g h.2, h.1.2.2.2.nl g]
theorem WLr.ext {bd bd' : List Str} : ∀ {L Ms : List (Str × List Str × T)}, WLr bd bd' L Ms → Ms.map (fun w => D.tup [.str w.1, .int ((w.2.1.length : Nat) : Int)]) = L.map fun w => D.tup [.str w.1, .int ((w.2.1.length : Nat) : Int)]
  | [], [], _ => rfl
  | p :: L, q :: Ms, h => by rw [List.map_cons, List.map_cons, WLr.ext h.2, h.1.1, h.1.2.1]
theorem WLr.wk {bd bd' : List Str} : ∀ {L Ms : List (Str × List Str × T)}, WLr bd bd' L Ms → (∀ q ∈ L, Asc q.1 40 ∧ q.2.1.length ≤ 3) → (toWL Ms).Wk 3300
  | [], [], _, _ => trivial
  | p :: L, q :: Ms, h, ha => by
    obtain ⟨a1, a2⟩ := ha _ (List.mem_cons_self ..)
    exact ⟨by rw [h.1.1]; exact a1, h.1.2.2.1, by rw [h.1.2.1]; omega, h.1.2.2.2.wk, WLr.wk h.2 fun y hy => ha y (List.mem_cons_of_mem _ hy)⟩
theorem Tw.app {bd bd' : List Str} {a b a' b' : T} (h1 : Tw bd bd' a a') (h2 : Tw bd bd' b b') : Tw bd bd' (.app a b) (.app a' b') := by
  refine ⟨fun g => ?_, by simp only [T.h, h1.h, h2.h], by simp only [T.z, h1.z, h2.z], h1.wk, h2.wk⟩
  cases g with
  | zero => rfl
  | succ g =>
    rw [M.nl, M.nl, nlC_in rfl, nlC_in rfl]
    simp only [T.parts, T.tag, extD, List.map_cons, List.map_nil, List.append_nil, h1.nl, h2.nl, List.length_cons]
theorem Tw.op {bd bd' : List Str} {a b a' b' : T} {o : Str} (ho : o ∈ opsL) (h1 : Tw bd bd' a a') (h2 : Tw bd bd' b b') : Tw bd bd' (.op o a b) (.op o a' b') := by
  refine ⟨fun g => ?_, by simp only [T.h, h1.h, h2.h], by simp only [T.z, h1.z, h2.z], ho, h1.wk, h2.wk⟩
  cases g with
  | zero => rfl
  | succ g =>
    rw [M.nl, M.nl, nlC_in rfl, nlC_in rfl]
    simp only [T.parts, T.tag, extD, List.map_cons, List.map_nil, List.append_nil, h1.nl, h2.nl, List.length_cons, List.length_append]
theorem Tw.fn {bd bd' : List Str} {b b' : T} {x y : Str} (hy : Asc y 40) (h2 : Tw (bd ++ [x]) (bd' ++ [y]) b b') : Tw bd bd' (.fn x b) (.fn y b') := by
  refine ⟨fun g => ?_, by simp only [T.h, h2.h], by simp only [T.z, h2.z], hy, h2.wk⟩
  cases g with
  | zero => rfl
  | succ g =>
    rw [M.nl, M.nl, nlC_in rfl, nlC_in rfl]
    simp only [T.parts, T.tag, extD, List.map_cons, List.map_nil, List.append_nil, h2.nl, List.length_cons]
theorem pl_eta : ∀ ps : PL, toPL (plI ps) = ps
  | .nil => rfl
  | .cons x t r => by rw [plI, toPL, pl_eta r]
theorem wl_eta : ∀ ps : WL, toWL (wlI ps) = ps
  | .nil => rfl
  | .cons x xs t r => by rw [wlI, toWL, wl_eta r]
theorem Tw.lt {bd bd' : List Str} {ps : PL} {b b' : T} {L : List (Str × T)} (hp : PLr (bd ++ ps.names) (bd' ++ L.map (·.1)) (plI ps) L) (h2 : Tw (bd ++ ps.names) (bd' ++ L.map (·.1)) b b') (ha : ∀ y ∈ L.map (·.1), Asc y 40) (hz : (plI ps).length ≤ 3300) :
    Tw bd bd' (.lt ps b) (.lt (toPL L) b') := by
  have e := hp.z
  rw [pl_eta] at e
  refine ⟨fun g => ?_, by simp only [T.h, h2.h, e.2], by simp only [T.z, h2.z, e.1], by rw [plI_to, hp.len]; exact hz, hp.wk ha, h2.wk⟩
  cases g with
  | zero => rfl
  | succ g =>
    rw [M.nl, M.nl, nlC_in rfl, nlC_in rfl]
    have e1 := hp.nl_eq g
    simp only [T.parts, T.tag, extD, List.append_nil, pl_parts, plI_to, pl_names, List.map_append, List.map_map, List.map_cons, List.map_nil, Function.comp_def] at e1 h2 ⊢
    rw [e1, h2.nl]
theorem Tw.cs {bd bd' : List Str} {ws : WL} {a a' : T} {L : List (Str × List Str × T)} (hp : WLr bd bd' (wlI ws) L) (h2 : Tw bd bd' a a') (ha : ∀ q ∈ wlI ws, Asc q.1 40 ∧ q.2.1.length ≤ 3) (hz : (wlI ws).length ≤ 3300) :
    Tw bd bd' (.cs a ws) (.cs a' (toWL L)) := by
  have e := hp.z
  rw [wl_eta] at e
  refine ⟨fun g => ?_, by simp only [T.h, h2.h, e.2], by simp only [T.z, h2.z, e.1], h2.wk, by rw [wlI_to, hp.len]; exact hz, hp.wk ha⟩
  cases g with
  | zero => rfl
  | succ g =>
    rw [M.nl, M.nl, nlC_in rfl, nlC_in rfl]
    have e1 := hp.nl_eq g
    have e2 := hp.ext
    simp only [T.parts, T.tag, extD, List.append_nil, wl_parts, wlI_to, List.map_append, List.map_map, List.map_cons, List.map_nil, Function.comp_def] at e1 e2 h2 ⊢
    rw [e1, h2.nl, e2]
end M

namespace M
open PySem PySem.Spec PyProof.Rows L2
/-! ### terms put for names: laws -/
theorem parts_h {t : T} {q : T × List Str} (hq : q ∈ t.parts) : q.1.h + 1 ≤ t.h := by
  cases t with
  | app a b => simp only [T.parts, List.mem_cons, List.not_mem_nil, or_false] at hq; rcases hq with rfl | rfl <;> simp only [T.h] <;> omega
  | op o a b => simp only [T.parts, List.mem_cons, List.not_mem_nil, or_false] at hq; rcases hq with rfl | rfl <;> simp only [T.h] <;> omega
  | fn x b => simp only [T.parts, List.mem_cons, List.not_mem_nil, or_false] at hq; subst hq; simp only [T.h]; omega
  | lt ps b =>
    simp only [T.parts] at hq
    rcases List.mem_append.mp hq with hq | hq
    · have := (PL.parts_mem hq).2.1; simp only [T.h]; omega
    · obtain rfl := List.mem_singleton.mp hq; simp only [T.h]; omega
  | cs a ws =>
    simp only [T.parts] at hq
    rcases List.mem_cons.mp hq with rfl | hq
    · simp only [T.h]; omega
    · have := (WL.parts_mem hq).1; simp only [T.h]; omega
  | num _ => nomatch hq
  | name _ => nomatch hq
  | make _ => nomatch hq
theorem own_in {t : T} (h : t.leaf = false) (bd : List Str) : ownN t bd = [] := by
  cases t <;> first | rfl | (exfalso; simp [T.leaf] at h; done)
theorem own_make {s : Str} (bd : List Str) : ownN (.make s) bd = [] := rfl
def putQ (x : Str) (c : T) (q : T × List Str) : T := if x ∈ q.2 then q.1 else T.put x c q.1
theorem put_names (x : Str) (c : T) : ∀ ps : PL, (PL.put x c ps).names = ps.names
  | .nil => rfl
  | .cons y t r => by rw [PL.put, PL.names, PL.names, put_names x c r]
theorem plI_put (x : Str) (c : T) : ∀ ps : PL, plI (PL.put x c ps) = (plI ps).map fun q => (q.1, T.put x c q.2)
  | .nil => rfl
  | .cons y t r => by rw [PL.put, plI, plI, plI_put x c r]; rfl
theorem wlI_put (x : Str) (c : T) : ∀ ps : WL, wlI (WL.put x c ps) = (wlI ps).map fun q => (q.1, q.2.1, if x ∈ q.2.1 then q.2.2 else T.put x c q.2.2)
  | .nil => rfl
  | .cons y xs t r => by simp only [WL.put, wlI, wlI_put x c r, List.map_cons]
theorem parts_put (x : Str) (c : T) {t : T} (h : t.leaf = false) : (T.put x c t).leaf = false ∧ (T.put x c t).tag = t.tag ∧ extD (T.put x c t) = extD t ∧ (T.put x c t).parts = t.parts.map fun q => (putQ x c q, q.2) := by
  cases t with
  | app a b => exact ⟨rfl, rfl, rfl, by simp [T.put, T.parts, putQ]⟩
  | op o a b => exact ⟨rfl, rfl, rfl, by simp [T.put, T.parts, putQ]⟩
  | fn y b =>
    rw [T.put]
    by_cases hy : y = x
    · subst hy
      rw [if_pos rfl]
      exact ⟨rfl, rfl, rfl, by simp [T.parts, putQ]⟩
    · rw [if_neg hy]
      exact ⟨rfl, rfl, rfl, by simp [T.parts, putQ, Ne.symm hy]⟩
  | lt ps b =>
    rw [T.put]
    by_cases hx : x ∈ ps.names
    · rw [if_pos hx]
      refine ⟨rfl, rfl, rfl, ?_⟩
      simp only [T.parts, pl_parts, List.map_append, List.map_map, List.map_cons, List.map_nil, Function.comp_def, putQ, if_pos hx]
    · rw [if_neg hx]
      refine ⟨rfl, rfl, rfl, ?_⟩
      simp only [T.parts, pl_parts, put_names, plI_put, List.map_append, List.map_map, List.map_cons, List.map_nil, Function.comp_def, putQ, if_neg hx]
  | cs a ws =>
    refine ⟨rfl, rfl, ?_, ?_⟩
    · simp only [T.put, extD, wlI_put, List.map_map, Function.comp_def]
    · simp only [T.put, T.parts, wl_parts, wlI_put, List.map_map, List.map_cons, Function.comp_def, putQ, List.not_mem_nil, if_false]
  | num _ => cases h
  | name _ => cases h
  | make _ => cases h
theorem free_not : ∀ (f : Nat) (t : T) (bd : List Str), t.h ≤ f → ∀ s ∈ t.free bd, s ∉ bd
  | 0, t, _, hf, _, _ => by have := t.h_pos; omega
  | f + 1, t, bd, hf, s, hs => by
    rw [free_eq] at hs
    rcases List.mem_append.mp hs with hs | hs
    · cases t with
      | name y =>
        simp only [ownN] at hs
        split at hs
        · cases hs
        · rename_i hy; rw [List.mem_singleton.mp hs]; exact hy
      | _ => cases hs
    · simp only [restN, List.mem_flatten, List.mem_map] at hs
      obtain ⟨l, ⟨q, hq, rfl⟩, hs⟩ := hs
      have := parts_h hq
      have := free_not f q.1 (bd ++ q.2) (by omega) s hs
      exact fun z => this (List.mem_append_left _ z)
theorem free_pre (bs : List Str) : ∀ (f : Nat) (t : T) (bd : List Str), t.h ≤ f → t.free (bs ++ bd) = (t.free bd).filter fun s => decide (s ∉ bs)
  | 0, t, _, hf => by have := t.h_pos; omega
  | f + 1, t, bd, hf => by
    rw [free_eq, free_eq, List.filter_append]
    congr 1
    · cases t with
      | name y =>
        simp only [ownN, List.mem_append]
        by_cases h1 : y ∈ bs <;> by_cases h2 : y ∈ bd <;> simp [h1, h2]
      | _ => rfl
    · simp only [restN, List.filter_flatten, List.map_map]
      congr 1
      refine List.map_congr_left fun q hq => ?_
      have := parts_h hq
      simp only [Function.comp_apply]
      rw [List.append_assoc, free_pre bs f q.1 (bd ++ q.2) (by omega)]
theorem free_cl {c : T} (hc : c.free [] = []) (bd : List Str) : c.free bd = [] := by
  have := free_pre bd c.h c [] (Nat.le_refl _)
  rw [List.append_nil, hc] at this
  simpa using this
theorem filter_id {x : Str} {l : List Str} (h : x ∉ l) : (l.filter fun s => decide (s ≠ x)) = l := List.filter_eq_self.mpr fun s hs => decide_eq_true fun z => h (by rw [← z]; exact hs)
theorem free_put {x : Str} {c : T} (hc : c.free [] = []) : ∀ (f : Nat) (t : T) (bd : List Str), t.h ≤ f → x ∉ bd → (T.put x c t).free bd = (t.free bd).filter fun s => decide (s ≠ x)
  | 0, t, _, hf, _ => by have := t.h_pos; omega
  | f + 1, t, bd, hf, hx => by
    cases hl : t.leaf with
    | true =>
      cases t <;> first | (exfalso; simp [T.leaf] at hl; done) | skip
      case num i => rfl
      case make s => rfl
      case name s =>
        rw [T.put]
        by_cases hs : s = x
        · subst hs
          rw [if_pos rfl, free_cl hc]
          simp [T.free, hx]
        · rw [if_neg hs]
          simp only [T.free]
          split <;> simp [hs]
    | false =>
      obtain ⟨l1, l2, l3, l4⟩ := parts_put x c hl
      rw [free_eq, free_eq t, own_in hl, own_in l1, List.nil_append, List.nil_append, l4]
      simp only [restN, List.filter_flatten, List.map_map]
      congr 1
      refine List.map_congr_left fun q hq => ?_
      have := parts_h hq
      simp only [Function.comp_apply, putQ]
      by_cases hxq : x ∈ q.2
      · rw [if_pos hxq, filter_id fun z => free_not f q.1 _ (by omega) x z (List.mem_append_right _ hxq)]
      · rw [if_neg hxq]
        exact free_put hc f q.1 _ (by omega) fun z => (List.mem_append.mp z).elim hx hxq
mutual
theorem put_id {x : Str} {c : T} : ∀ {t : T} {bd : List Str}, x ∉ bd → x ∉ t.free bd → T.put x c t = t
  | .num i, _, _, _ => rfl
  | .make s, _, _, _ => rfl
  | .name s, bd, hb, h => by
    rw [T.put, if_neg]
    intro z
    subst z
    simp [T.free, hb] at h
  | .app a b, bd, hb, h => by
    simp only [T.free, List.mem_append, not_or] at h
    rw [T.put, put_id hb h.1, put_id hb h.2]
  | .op o a b, bd, hb, h => by
    simp only [T.free, List.mem_append, not_or] at h
    rw [T.put, put_id hb h.1, put_id hb h.2]
  | .fn y b, bd, hb, h => by
    rw [T.put]
    split
    · rfl
    · rename_i hy
      rw [T.free] at h
      rw [put_id (bd := bd ++ [y]) (by simp [hb, Ne.symm hy]) h]
  | .lt ps b, bd, hb, h => by
    rw [T.put]
    split
    · rfl
    · rename_i hy
      simp only [T.free, List.mem_append, not_or] at h
      rw [PL.put_id (bd := bd ++ ps.names) (by simp [hb, hy]) h.1, put_id (bd := bd ++ ps.names) (by simp [hb, hy]) h.2]
  | .cs a ws, bd, hb, h => by
    simp only [T.free, List.mem_append, not_or] at h
    rw [T.put, put_id hb h.1, WL.put_id hb h.2]
theorem PL.put_id {x : Str} {c : T} : ∀ {t : PL} {bd : List Str}, x ∉ bd → x ∉ t.free bd → PL.put x c t = t
  | .nil, _, _, _ => rfl
  | .cons y t r, bd, hb, h => by
    simp only [PL.free, List.mem_append, not_or] at h
    rw [PL.put, put_id hb h.1, PL.put_id hb h.2]
theorem WL.put_id {x : Str} {c : T} : ∀ {t : WL} {bd : List Str}, x ∉ bd → x ∉ t.free bd → WL.put x c t = t
  | .nil, _, _, _ => rfl
  | .cons k xs t r, bd, hb, h => by
    simp only [WL.free, List.mem_append, not_or] at h
    rw [WL.put, WL.put_id hb h.2]
    split
    · rfl
    · rename_i hx
      rw [put_id (bd := bd ++ xs) (by simp [hb, hx]) h.1]
end
mutual
theorem put_comm {x y : Str} {c d : T} (hxy : x ≠ y) (hc : c.free [] = []) (hd : d.free [] = []) : ∀ t : T, T.put y d (T.put x c t) = T.put x c (T.put y d t)
  | .num i => rfl
  | .make s => rfl
  | .name s => by
    rw [T.put, T.put]
    by_cases h1 : s = x
    · subst h1
      have : ¬ s = y := hxy
      simp only [if_true, this, if_false, T.put]
      exact put_id (bd := []) List.not_mem_nil (by rw [hc]; exact List.not_mem_nil)
    · by_cases h2 : s = y
      · subst h2
        simp only [h1, if_false, if_true, T.put]
        exact (put_id (bd := []) List.not_mem_nil (by rw [hd]; exact List.not_mem_nil)).symm
      · simp only [h1, h2, if_false, T.put]
  | .app a b => by simp only [T.put, put_comm hxy hc hd a, put_comm hxy hc hd b]
  | .op o a b => by simp only [T.put, put_comm hxy hc hd a, put_comm hxy hc hd b]
  | .fn z b => by
    have ih := put_comm hxy hc hd b
    simp only [T.put]
    by_cases h1 : z = x
    · subst h1
      have : ¬ z = y := hxy
      simp only [if_true, this, if_false, T.put]
    · by_cases h2 : z = y
      · subst h2
        simp only [h1, if_false, if_true, T.put]
      · simp only [h1, h2, if_false, T.put, ih]
  | .lt ps b => by
    have ih := put_comm hxy hc hd b
    have ip := PL.put_comm hxy hc hd ps
    simp only [T.put]
    by_cases h1 : x ∈ ps.names <;> by_cases h2 : y ∈ ps.names <;> simp only [h1, h2, if_true, if_false, T.put, put_names, ih, ip]
  | .cs a ws => by simp only [T.put, put_comm hxy hc hd a, WL.put_comm hxy hc hd ws]
theorem PL.put_comm {x y : Str} {c d : T} (hxy : x ≠ y) (hc : c.free [] = []) (hd : d.free [] = []) : ∀ t : PL, PL.put y d (PL.put x c t) = PL.put x c (PL.put y d t)
  | .nil => rfl
  | .cons z t r => by simp only [PL.put, M.put_comm hxy hc hd t, PL.put_comm hxy hc hd r]
theorem WL.put_comm {x y : Str} {c d : T} (hxy : x ≠ y) (hc : c.free [] = []) (hd : d.free [] = []) : ∀ t : WL, WL.put y d (WL.put x c t) = WL.put x c (WL.put y d t)
  | .nil => rfl
  | .cons k xs t r => by
    have ih := M.put_comm hxy hc hd t
    simp only [WL.put, WL.put_comm hxy hc hd r]
    by_cases h1 : x ∈ xs <;> by_cases h2 : y ∈ xs <;> simp only [h1, h2, if_true, if_false, ih]
end
mutual
theorem put_z (x : Str) (c : T) : ∀ t : T, (T.put x c t).z ≤ t.z * c.z
  | .num i => by have := c.z_pos; simp only [T.put, T.z]; omega
  | .make s => by have := c.z_pos; simp only [T.put, T.z]; omega
  | .name s => by have := c.z_pos; rw [T.put]; split <;> simp only [T.z] <;> omega
  | .app a b => by
    have := c.z_pos; have h1 := put_z x c a; have h2 := put_z x c b
    simp only [T.put, T.z, Nat.add_mul]; omega
  | .op o a b => by
    have := c.z_pos; have h1 := put_z x c a; have h2 := put_z x c b
    simp only [T.put, T.z, Nat.add_mul]; omega
  | .fn y b => by
    have := c.z_pos; have h2 := put_z x c b
    have := Nat.le_mul_of_pos_right b.z c.z_pos
    rw [T.put]; split <;> simp only [T.z, Nat.add_mul] <;> omega
  | .lt ps b => by
    have := c.z_pos; have h1 := PL.put_z x c ps; have h2 := put_z x c b
    have := Nat.le_mul_of_pos_right b.z c.z_pos
    have := Nat.le_mul_of_pos_right ps.z c.z_pos
    rw [T.put]; split <;> simp only [T.z, Nat.add_mul] <;> omega
  | .cs a ws => by
    have := c.z_pos; have h1 := put_z x c a; have h2 := WL.put_z x c ws
    simp only [T.put, T.z, Nat.add_mul]; omega
theorem PL.put_z (x : Str) (c : T) : ∀ t : PL, (PL.put x c t).z ≤ t.z * c.z
  | .nil => by simp [PL.put, PL.z]
  | .cons y t r => by
    have h1 := M.put_z x c t; have h2 := PL.put_z x c r
    simp only [PL.put, PL.z, Nat.add_mul]; omega
theorem WL.put_z (x : Str) (c : T) : ∀ t : WL, (WL.put x c t).z ≤ t.z * c.z
  | .nil => by simp [WL.put, WL.z]
  | .cons k xs t r => by
    have h1 := M.put_z x c t; have h2 := WL.put_z x c r
    have := Nat.le_mul_of_pos_right t.z c.z_pos
    simp only [WL.put, WL.z, Nat.add_mul]; split <;> omega
end
mutual
theorem put_wk {N : Nat} {x : Str} {c : T} (hc : c.Wk N) : ∀ {t : T}, t.Wk N → (T.put x c t).Wk N
  | .num i, ok => ok
  | .make s, ok => ok
  | .name s, ok => by rw [T.put]; split; exact hc; exact ok
  | .app a b, ok => ⟨put_wk hc ok.1, put_wk hc ok.2⟩
  | .op o a b, ok => ⟨ok.1, put_wk hc ok.2.1, put_wk hc ok.2.2⟩
  | .fn y b, ok => by rw [T.put]; split; exact ok; exact ⟨ok.1, put_wk hc ok.2⟩
  | .lt ps b, ok => by
    rw [T.put]
    split
    · exact ok
    · exact ⟨by rw [plI_put, List.length_map]; exact ok.1, PL.put_wk hc ok.2.1, put_wk hc ok.2.2⟩
  | .cs a ws, ok => ⟨put_wk hc ok.1, by rw [wlI_put, List.length_map]; exact ok.2.1, WL.put_wk hc ok.2.2⟩
theorem PL.put_wk {N : Nat} {x : Str} {c : T} (hc : c.Wk N) : ∀ {t : PL}, t.Wk N → (PL.put x c t).Wk N
  | .nil, _ => trivial
  | .cons y t r, ok => ⟨ok.1, M.put_wk hc ok.2.1, PL.put_wk hc ok.2.2⟩
theorem WL.put_wk {N : Nat} {x : Str} {c : T} (hc : c.Wk N) : ∀ {t : WL}, t.Wk N → (WL.put x c t).Wk N
  | .nil, _ => trivial
  | .cons k xs t r, ok => by
    rw [WL.put]
    refine ⟨ok.1, ok.2.1, ok.2.2.1, ?_, WL.put_wk hc ok.2.2.2.2⟩
    split
    · exact ok.2.2.2.1
    · exact M.put_wk hc ok.2.2.2.1
end
/-! nl -/
theorem nl_fuel : ∀ (f g : Nat) (t : T) (bd : List Str), t.h ≤ f → t.h ≤ g → nl f t bd = nl g t bd
  | 0, _, t, _, h, _ => by have := t.h_pos; omega
  | f + 1, 0, t, _, _, h => by have := t.h_pos; omega
  | f + 1, g + 1, t, bd, h1, h2 => by
    rw [nl, nl]
    cases hl : t.leaf with
    | true => cases t <;> first | rfl | (exfalso; simp [T.leaf] at hl; done)
    | false =>
      rw [nlC_in hl, nlC_in hl]
      have : t.parts.map (fun p => nl f p.1 (bd ++ p.2)) = t.parts.map fun p => nl g p.1 (bd ++ p.2) := List.map_congr_left fun q hq => by
        have := parts_h hq
        exact nl_fuel f g q.1 _ (by omega) (by omega)
      rw [this]
theorem nl_pre (bs : List Str) : ∀ (f : Nat) (t : T) (bd : List Str), t.free bd = [] → nl f t (bs ++ bd) = nl f t bd
  | 0, _, _, _ => rfl
  | f + 1, t, bd, h => by
    rw [nl, nl]
    cases hl : t.leaf with
    | true =>
      cases t <;> first | rfl | (exfalso; simp [T.leaf] at hl; done) | skip
      case name s =>
        have hs : s ∈ bd := by
          rw [T.free] at h
          split at h
          · assumption
          · cases h
        have hk : ∃ k, lix bd s = some k := by
          clear h
          induction bd with
          | nil => cases hs
          | cons b bd ih =>
            rw [lix]
            cases e : lix bd s with
            | some k => exact ⟨_, rfl⟩
            | none =>
              rcases List.mem_cons.mp hs with rfl | hs
              · simp
              · obtain ⟨k, hk⟩ := ih hs; rw [e] at hk; cases hk
        obtain ⟨k, hk⟩ := hk
        have lt := lix_lt hk
        simp only [nlC, nlN, lix_append, hk, List.length_append]
        congr 4
        omega
    | false =>
      rw [nlC_in hl, nlC_in hl]
      rw [free_eq, own_in hl, List.nil_append] at h
      have : t.parts.map (fun p => nl f p.1 (bs ++ bd ++ p.2)) = t.parts.map fun p => nl f p.1 (bd ++ p.2) := List.map_congr_left fun q hq => by
        rw [List.append_assoc]
        refine nl_pre bs f q.1 _ ?_
        simp only [restN, List.flatten_eq_nil_iff] at h
        exact h _ (List.mem_map.mpr ⟨q, hq, rfl⟩)
      rw [this]
theorem lix_none {bd : List Str} {s : Str} (h : s ∉ bd) : lix bd s = none := by
  induction bd with
  | nil => rfl
  | cons b bd ih =>
    rw [List.mem_cons, not_or] at h
    rw [lix, ih h.2]
    simp [Ne.symm h.1]
mutual
def sbD (x : Str) (C : D) : D → D
  | .tup [.str a, .str s] => if a = "name" ∧ s = x then C else .tup [.str a, .str s]
  | .tup [.str a, .int n, .lst xs] => .tup [.str a, .int n, .lst (sbDs x C xs)]
  | d => d
def sbDs (x : Str) (C : D) : List D → List D
  | [] => []
  | d :: ds => sbD x C d :: sbDs x C ds
end
mutual
def frD : D → List Str
  | .tup [.str a, .str s] => if a = "name" then [s] else []
  | .tup [.str a, .int n, .lst xs] => frDs xs
  | _ => []
def frDs : List D → List Str
  | [] => []
  | d :: ds => frD d ++ frDs ds
end
theorem sbDs_app (x : Str) (C : D) : ∀ a b : List D, sbDs x C (a ++ b) = sbDs x C a ++ sbDs x C b
  | [], _ => by simp [sbDs]
  | d :: a, b => by simp only [List.cons_append, sbDs, sbDs_app x C a b]
theorem frDs_app : ∀ a b : List D, frDs (a ++ b) = frDs a ++ frDs b
  | [], _ => by simp [frDs]
  | d :: a, b => by simp only [List.cons_append, frDs, frDs_app a b, List.append_assoc]
theorem sbDs_map {α : Type} (x : Str) (C : D) (F : α → D) : ∀ l : List α, sbDs x C (l.map F) = l.map fun q => sbD x C (F q)
  | [] => by simp [sbDs]
  | d :: a => by simp only [List.map_cons, sbDs, sbDs_map x C F a]
theorem frDs_map {α : Type} (F : α → D) : ∀ l : List α, frDs (l.map F) = (l.map fun q => frD (F q)).flatten
  | [] => by simp [frDs]
  | d :: a => by simp only [List.map_cons, frDs, frDs_map F a, List.flatten_cons]
theorem sub_ext (x : Str) (C : D) (t : T) : sbDs x C (extD t) = extD t := by
  cases t <;> simp only [extD, sbDs, sbD]
  rw [sbDs_map]
  exact List.map_congr_left fun q _ => by simp only [sbD]
theorem fr_ext (t : T) : frDs (extD t) = [] := by
  cases t <;> simp only [extD, frDs, frD, List.append_nil]
  rw [frDs_map]
  simp only [frD]
  simp
theorem fr_nl : ∀ (f : Nat) (t : T) (bd : List Str), t.h ≤ f → frD (nl f t bd) = t.free bd
  | 0, t, _, h => by have := t.h_pos; omega
  | f + 1, t, bd, h => by
    rw [nl]
    cases hl : t.leaf with
    | true =>
      cases t <;> first | (exfalso; simp [T.leaf] at hl; done) | skip
      case num i => simp [nlC, frD, T.free]
      case make i => simp only [nlC, frD, T.free, lit_eq, String.reduceEq, if_false]
      case name s =>
        simp only [nlC, nlN, T.free]
        by_cases hs : s ∈ bd
        · have : lix bd s ≠ none := by
            intro e
            clear h
            induction bd with
            | nil => cases hs
            | cons b bd ih =>
              rw [lix] at e
              cases e2 : lix bd s with
              | some k => rw [e2] at e; cases e
              | none =>
                rw [e2] at e
                rcases List.mem_cons.mp hs with rfl | hs
                · simp at e
                · exact ih hs e2
          cases e : lix bd s with
          | none => exact absurd e this
          | some k => simp [frD, hs]
        · rw [lix_none hs]
          simp [frD, hs]
    | false =>
      rw [nlC_in hl, frD, frDs_app, fr_ext, List.append_nil, frDs_map, free_eq, own_in hl, List.nil_append, restN]
      congr 1
      exact List.map_congr_left fun q hq => by
        have := parts_h hq
        exact fr_nl f q.1 _ (by omega)
theorem sub_id (x : Str) (C : D) : ∀ (f : Nat) (t : T) (bd : List Str), x ∉ t.free bd → sbD x C (nl f t bd) = nl f t bd
  | 0, _, _, _ => by simp [nl, sbD]
  | f + 1, t, bd, h => by
    rw [nl]
    cases hl : t.leaf with
    | true =>
      cases t <;> first | (exfalso; simp [T.leaf] at hl; done) | skip
      case num i => simp [nlC, sbD]
      case make i => simp only [nlC, sbD, lit_eq, String.reduceEq, false_and, if_false]
      case name s =>
        simp only [nlC, nlN]
        cases e : lix bd s with
        | some k => simp [sbD]
        | none =>
          have hs : s ≠ x := by
            rintro rfl
            rw [T.free] at h
            split at h
            · rename_i hm
              clear h
              induction bd with
              | nil => cases hm
              | cons b bd ih =>
                rw [lix] at e
                cases e2 : lix bd s with
                | some k => rw [e2] at e; cases e
                | none =>
                  rw [e2] at e
                  rcases List.mem_cons.mp hm with rfl | hm
                  · simp at e
                  · exact ih e2 hm
            · exact h (List.mem_singleton.mpr rfl)
          simp [sbD, hs]
    | false =>
      rw [free_eq, own_in hl, List.nil_append] at h
      rw [nlC_in hl, sbD, sbDs_app, sub_ext, sbDs_map]
      have : t.parts.map (fun q => sbD x C (nl f q.1 (bd ++ q.2))) = t.parts.map fun q => nl f q.1 (bd ++ q.2) := List.map_congr_left fun q hq => by
        refine sub_id x C f q.1 _ fun z => h ?_
        simp only [restN, List.mem_flatten, List.mem_map]
        exact ⟨_, ⟨q, hq, rfl⟩, z⟩
      rw [this]
theorem nl_put {x : Str} {c : T} (hc : c.free [] = []) : ∀ (f : Nat) (t : T) (bd : List Str), t.h + c.h ≤ f → x ∉ bd → nl f (T.put x c t) bd = sbD x (nl c.h c []) (nl f t bd)
  | 0, t, _, h, _ => by have := t.h_pos; omega
  | f + 1, t, bd, h, hx => by
    have cp := c.h_pos
    cases hl : t.leaf with
    | true =>
      cases t <;> first | (exfalso; simp [T.leaf] at hl; done) | skip
      case num i => simp [T.put, nl, nlC, sbD]
      case make i => simp only [T.put, nl, nlC, sbD, lit_eq, String.reduceEq, false_and, if_false]
      case name s =>
        rw [T.put]
        by_cases hs : s = x
        · subst hs
          rw [if_pos rfl]
          have e : nl (f + 1) (.name s) bd = .tup [.str "name", .str s] := by simp only [nl, nlC, nlN, lix_none hx]
          rw [e]
          have := nl_pre bd (f + 1) c [] hc
          rw [List.append_nil] at this
          rw [this, nl_fuel (f + 1) c.h c [] (by simp only [T.h] at h; omega) (Nat.le_refl _)]
          simp [sbD]
        · rw [if_neg hs, sub_id]
          simp only [T.free]
          split
          · exact List.not_mem_nil
          · simp [Ne.symm hs]
    | false =>
      obtain ⟨l1, l2, l3, l4⟩ := parts_put x c hl
      rw [nl, nl, nlC_in hl, nlC_in l1, l2, l3, l4, sbD, sbDs_app, sub_ext, sbDs_map, List.map_map]
      have : t.parts.map ((fun p => nl f p.1 (bd ++ p.2)) ∘ fun q => (putQ x c q, q.2)) = t.parts.map fun q => sbD x (nl c.h c []) (nl f q.1 (bd ++ q.2)) := List.map_congr_left fun q hq => by
        have hq2 := parts_h hq
        simp only [Function.comp_apply, putQ]
        by_cases hxq : x ∈ q.2
        · rw [if_pos hxq, sub_id]
          exact fun z => free_not q.1.h q.1 _ (Nat.le_refl _) x z (List.mem_append_right _ hxq)
        · rw [if_neg hxq]
          exact nl_put hc f q.1 _ (by omega) fun z => (List.mem_append.mp z).elim hx hxq
      rw [this]
      simp only [List.length_append, List.length_map]
theorem put_eqv {x : Str} {a b : T} (ha : a.free [] = []) (hb : b.free [] = []) : ∀ (f : Nat) (t : T) (bd : List Str), t.h + a.h ≤ f → t.h + b.h ≤ f → x ∉ bd →
    PyData.eqv (nl f (T.put x a t) bd).py (nl f (T.put x b t) bd).py = (decide (x ∉ t.free bd) || PyData.eqv (nl a.h a []).py (nl b.h b []).py)
  | 0, t, _, h, _, _ => by have := t.h_pos; omega
  | f + 1, t, bd, h1, h2, hx => by
    cases hl : t.leaf with
    | true =>
      cases t <;> first | (exfalso; simp [T.leaf] at hl; done) | skip
      case num i => simp only [T.put, T.free, List.not_mem_nil, not_false_eq_true, decide_true, Bool.true_or]; exact eqv_refl _ (nl_plain ..)
      case make i => simp only [T.put, T.free, List.not_mem_nil, not_false_eq_true, decide_true, Bool.true_or]; exact eqv_refl _ (nl_plain ..)
      case name s =>
        rw [T.put, T.put]
        by_cases hs : s = x
        · subst hs
          rw [if_pos rfl, if_pos rfl]
          have e1 := nl_pre bd (f + 1) a [] ha
          have e2 := nl_pre bd (f + 1) b [] hb
          rw [List.append_nil] at e1 e2
          rw [e1, e2, nl_fuel (f + 1) a.h a [] (by simp only [T.h] at h1; omega) (Nat.le_refl _), nl_fuel (f + 1) b.h b [] (by simp only [T.h] at h2; omega) (Nat.le_refl _)]
          simp [T.free, hx]
        · rw [if_neg hs, if_neg hs]
          have : x ∉ T.free bd (.name s) := by
            rw [T.free]; split
            · exact List.not_mem_nil
            · simp [Ne.symm hs]
          rw [decide_eq_true this, Bool.true_or]
          exact eqv_refl _ (nl_plain ..)
    | false =>
      obtain ⟨l1, l2, l3, l4⟩ := parts_put x a hl
      obtain ⟨m1, m2, m3, m4⟩ := parts_put x b hl
      rw [nl, nl, nlC_in l1, nlC_in m1, l2, l3, l4, m2, m3, m4, List.map_map, List.map_map]
      simp only [D.py, D.pys, PyData.eqv, PyData.eqvAll, beq_self_eq_true, Bool.true_and, Bool.and_true, List.length_append, List.length_map, pys_app]
      rw [eqvAll_app (by rw [pys_len, pys_len, List.length_map, List.length_map]), eqvs_refl _ (ext_plain t), Bool.and_true, free_eq, own_in hl, List.nil_append]
      have key : ∀ P : List (T × List Str), (∀ q ∈ P, q ∈ t.parts) → PyData.eqvAll (D.pys (P.map ((fun p => nl f p.1 (bd ++ p.2)) ∘ fun q => (putQ x a q, q.2)))) (D.pys (P.map ((fun p => nl f p.1 (bd ++ p.2)) ∘ fun q => (putQ x b q, q.2)))) = (decide (x ∉ restN bd P) || PyData.eqv (nl a.h a []).py (nl b.h b []).py) := by
        intro P
        induction P with
        | nil => intro _; simp [D.pys, PyData.eqvAll, restN]
        | cons q P ih =>
          intro hP
          have hq := parts_h (hP q (List.mem_cons_self ..))
          have ih := ih fun q hq => hP q (List.mem_cons_of_mem _ hq)
          have e : PyData.eqv (nl f (putQ x a q) (bd ++ q.2)).py (nl f (putQ x b q) (bd ++ q.2)).py = (decide (x ∉ q.1.free (bd ++ q.2)) || PyData.eqv (nl a.h a []).py (nl b.h b []).py) := by
            unfold putQ
            by_cases hxq : x ∈ q.2
            · rw [if_pos hxq, if_pos hxq, decide_eq_true (p := x ∉ q.1.free (bd ++ q.2)) fun z => free_not q.1.h q.1 _ (Nat.le_refl _) x z (List.mem_append_right _ hxq), Bool.true_or]
              exact eqv_refl _ (nl_plain ..)
            · rw [if_neg hxq, if_neg hxq]
              exact put_eqv ha hb f q.1 _ (by omega) (by omega) fun z => (List.mem_append.mp z).elim hx hxq
          simp only [List.map_cons, D.pys, PyData.eqvAll, Function.comp_apply, ih, restN_cons, List.mem_append, not_or, e]
          by_cases h1 : x ∈ q.1.free (bd ++ q.2) <;> by_cases h2 : x ∈ restN bd P <;> simp [h1, h2]
      exact key _ fun _ h => h
end M

namespace M
open PySem PySem.Spec PyProof.Rows L2
/-! ### == of terms is being the same -/
mutual
def D.nb : D → Bool
  | .int _ => true
  | .str _ => true
  | .lst xs => D.nbs xs
  | .tup xs => D.nbs xs
  | _ => false
def D.nbs : List D → Bool
  | [] => true
  | x :: xs => x.nb && D.nbs xs
end
mutual
theorem eqv_inj : ∀ a b : D, a.nb = true → b.nb = true → PyData.eqv a.py b.py = true → a = b
  | .int i, b, _, hb, h => by
    cases b <;> first | (simp [D.nb] at hb; done) | (simp [D.py, PyData.eqv] at h; done) | skip
    simp only [D.py, PyData.eqv, beq_iff_eq] at h
    rw [h]
  | .str i, b, _, hb, h => by
    cases b <;> first | (simp [D.nb] at hb; done) | (simp [D.py, PyData.eqv] at h; done) | skip
    simp only [D.py, PyData.eqv, beq_iff_eq] at h
    rw [h]
  | .lst xs, b, ha, hb, h => by
    cases b <;> first | (simp [D.nb] at hb; done) | (simp [D.py, PyData.eqv] at h; done) | skip
    simp only [D.py, PyData.eqv] at h
    rw [eqvs_inj xs _ ha hb h]
  | .tup xs, b, ha, hb, h => by
    cases b <;> first | (simp [D.nb] at hb; done) | (simp [D.py, PyData.eqv] at h; done) | skip
    simp only [D.py, PyData.eqv] at h
    rw [eqvs_inj xs _ ha hb h]
  | .non, _, ha, _, _ => by cases ha
  | .bl _, _, ha, _, _ => by cases ha
  | .dic _, _, ha, _, _ => by cases ha
  | .ty _, _, ha, _, _ => by cases ha
  | .fn _, _, ha, _, _ => by cases ha
theorem eqvs_inj : ∀ xs ys : List D, D.nbs xs = true → D.nbs ys = true → PyData.eqvAll (D.pys xs) (D.pys ys) = true → xs = ys
  | [], [], _, _, _ => rfl
  | x :: xs, y :: ys, ha, hb, h => by
    simp only [D.nbs, Bool.and_eq_true] at ha hb
    simp only [D.pys, PyData.eqvAll, Bool.and_eq_true] at h
    rw [eqv_inj x y ha.1 hb.1 h.1, eqvs_inj xs ys ha.2 hb.2 h.2]
  | [], _ :: _, _, _, h => by simp [D.pys, PyData.eqvAll] at h
  | _ :: _, [], _, _, h => by simp [D.pys, PyData.eqvAll] at h
end
theorem nbs_strs : ∀ ss : List Str, D.nbs (ss.map .str) = true
  | [] => rfl
  | s :: ss => by simp only [List.map_cons, D.nbs, D.nb, nbs_strs ss, Bool.and_self]
mutual
theorem T.nb : ∀ t : T, t.d.nb = true
  | .num _ => rfl
  | .name _ => rfl
  | .make _ => rfl
  | .app a b => by simp only [T.d, D.nb, D.nbs, a.nb, b.nb, Bool.and_self]
  | .op _ a b => by simp only [T.d, D.nb, D.nbs, a.nb, b.nb, Bool.and_self]
  | .fn _ b => by simp only [T.d, D.nb, D.nbs, b.nb, Bool.and_self]
  | .lt ps b => by simp only [T.d, D.nb, D.nbs, ps.nb, b.nb, Bool.and_self]
  | .cs a ws => by simp only [T.d, D.nb, D.nbs, a.nb, ws.nb, Bool.and_self]
theorem PL.nb : ∀ t : PL, D.nbs t.d = true
  | .nil => rfl
  | .cons x t r => by simp only [PL.d, D.nb, D.nbs, t.nb, r.nb, Bool.and_self]
theorem WL.nb : ∀ t : WL, D.nbs t.d = true
  | .nil => rfl
  | .cons c xs t r => by simp only [WL.d, D.nb, D.nbs, t.nb, r.nb, nbs_strs, Bool.and_self]
end
theorem strs_inj : ∀ {a b : List Str}, a.map D.str = b.map D.str → a = b
  | [], [], _ => rfl
  | x :: a, y :: b, h => by
    simp only [List.map_cons, List.cons.injEq, D.str.injEq] at h
    rw [h.1, strs_inj h.2]
  | [], _ :: _, h => by simp at h
  | _ :: _, [], h => by simp at h
mutual
theorem T.d_inj : ∀ t u : T, t.d = u.d → t = u
  | .num i, u, h => by cases u <;> simp only [T.d, D.tup.injEq, List.cons.injEq, D.str.injEq, D.int.injEq, lit_eq, String.reduceEq, false_and, true_and, and_true, reduceCtorEq] at h; rw [h]
  | .name i, u, h => by cases u <;> simp only [T.d, D.tup.injEq, List.cons.injEq, D.str.injEq, D.int.injEq, lit_eq, String.reduceEq, false_and, true_and, and_true, reduceCtorEq] at h; rw [h]
  | .make i, u, h => by cases u <;> simp only [T.d, D.tup.injEq, List.cons.injEq, D.str.injEq, D.int.injEq, lit_eq, String.reduceEq, false_and, true_and, and_true, reduceCtorEq] at h; rw [h]
  | .app a b, u, h => by
    cases u <;> simp only [T.d, D.tup.injEq, List.cons.injEq, D.str.injEq, D.int.injEq, lit_eq, String.reduceEq, false_and, true_and, and_true, reduceCtorEq] at h
    rw [T.d_inj a _ h.1, T.d_inj b _ h.2]
  | .op o a b, u, h => by
    cases u <;> simp only [T.d, D.tup.injEq, List.cons.injEq, D.str.injEq, D.int.injEq, lit_eq, String.reduceEq, false_and, true_and, and_true, reduceCtorEq] at h
    rw [h.1, T.d_inj a _ h.2.1, T.d_inj b _ h.2.2]
  | .fn x b, u, h => by
    cases u <;> simp only [T.d, D.tup.injEq, List.cons.injEq, D.str.injEq, D.int.injEq, lit_eq, String.reduceEq, false_and, true_and, and_true, reduceCtorEq] at h
    rw [h.1, T.d_inj b _ h.2]
  | .lt ps b, u, h => by
    cases u <;> simp only [T.d, D.tup.injEq, List.cons.injEq, D.str.injEq, D.int.injEq, lit_eq, String.reduceEq, false_and, true_and, and_true, reduceCtorEq] at h
    rw [PL.d_inj ps _ h.1, T.d_inj b _ h.2]
  | .cs a ws, u, h => by
    cases u <;> simp only [T.d, D.tup.injEq, List.cons.injEq, D.str.injEq, D.int.injEq, lit_eq, String.reduceEq, false_and, true_and, and_true, reduceCtorEq] at h
    rw [T.d_inj a _ h.1, WL.d_inj ws _ h.2]
theorem PL.d_inj : ∀ t u : PL, t.d = u.d → t = u
  | .nil, u, h => by cases u <;> simp [PL.d] at h ⊢
  | .cons x t r, u, h => by
    cases u <;> simp only [PL.d, List.cons.injEq, D.tup.injEq, D.str.injEq, and_true, reduceCtorEq] at h
    rw [h.1.1, T.d_inj t _ h.1.2, PL.d_inj r _ h.2]
theorem WL.d_inj : ∀ t u : WL, t.d = u.d → t = u
  | .nil, u, h => by cases u <;> simp [WL.d] at h ⊢
  | .cons x xs t r, u, h => by
    cases u <;> simp only [WL.d, List.cons.injEq, D.tup.injEq, D.str.injEq, and_true, reduceCtorEq] at h
    rw [h.1.1, strs_inj h.1.2.1, T.d_inj t _ h.1.2.2, WL.d_inj r _ h.2]
end
theorem eqv_T (t u : T) [Decidable (t = u)] : PyData.eqv t.d.py u.d.py = decide (t = u) := by
  by_cases h : t = u
  · rw [decide_eq_true h, h, eqv_refl _ u.plain]
  · rw [decide_eq_false h]
    exact Bool.eq_false_iff.mpr fun e => h (T.d_inj t u (eqv_inj _ _ t.nb u.nb e))
theorem eqGw_T (t u : T) [Decidable (t = u)] (ht : t.h ≤ 300) : eqGw t.d u.d = some (decide (t = u)) := by
  unfold eqGw
  rw [if_pos ⟨t.plain, u.plain, by have := t.depth; omega⟩, eqv_T]
theorem eqW_T (t u : T) [Decidable (t = u)] (ht : t.h ≤ 300) : eqW t.d u.d = some (.bl (decide (t = u))) := by
  have g := eqGw_T t u ht
  obtain ⟨r1, e1⟩ := tag_d t
  obtain ⟨r2, e2⟩ := tag_d u
  rw [e1, e2] at g ⊢
  simp only [eqW, eqQw, g, Option.map_some]
theorem neW_T (t u : T) [Decidable (t = u)] (ht : t.h ≤ 300) : neW t.d u.d = some (.bl (!decide (t = u))) := by
  have g := eqGw_T t u ht
  obtain ⟨r1, e1⟩ := tag_d t
  obtain ⟨r2, e2⟩ := tag_d u
  rw [e1, e2] at g ⊢
  simp only [neW, neQw, g, Option.map_some]
theorem ne_strsLW (xs ys : List Str) : neW (.lst (xs.map .str)) (.lst (ys.map .str)) = some (.bl (!decide (xs = ys))) := by
  have g : (D.lst (xs.map .str)).plain = true ∧ (D.lst (ys.map .str)).plain = true ∧ min (D.lst (xs.map .str)).py.depth (D.lst (ys.map .str)).py.depth ≤ 1000 := by
    refine ⟨plains_strs xs, plains_strs ys, ?_⟩
    have := depth_strs xs
    simp only [D.py, pys_strs, PyData.depth]
    omega
  simp only [neW, neQw, eqGw]
  rw [if_pos g]
  simp only [D.py, pys_strs, PyData.eqv, eqvAll_strs, Option.map_some]
theorem free_asc {N : Nat} (hN : 1 ≤ N) : ∀ (f : Nat) (t : T) (bd : List Str), t.h ≤ f → t.Wk N → ∀ s ∈ t.free bd, Asc s 40
  | 0, t, _, h, _, _, _ => by have := t.h_pos; omega
  | f + 1, t, bd, h, ok, s, hs => by
    rw [free_eq] at hs
    rcases List.mem_append.mp hs with hs | hs
    · cases t with
      | name y =>
        simp only [ownN] at hs
        split at hs
        · cases hs
        · rw [List.mem_singleton.mp hs]; exact ok
      | _ => cases hs
    · simp only [restN, List.mem_flatten, List.mem_map] at hs
      obtain ⟨l, ⟨q, hq, rfl⟩, hs⟩ := hs
      obtain ⟨a, b, c⟩ := (T.parts_wk hN ok).2 q hq
      exact free_asc hN f q.1 _ (by omega) b s hs
theorem asc_sOk {s : Str} {n : Nat} (h : Asc s n) : sOk s := fun c hc => by have := h.1 c hc; omega
/-! free names, sorted, each once -/
def frN (t : T) : List Str := sortS ((t.free []).foldl ddK [])
theorem frN_mem (t : T) (s : Str) : s ∈ frN t ↔ s ∈ t.free [] := by
  rw [frN, (sortS_perm _).mem_iff, dd_mem]
  simp
theorem frN_nodup (t : T) : (frN t).Nodup := (sortS_perm _).nodup_iff.mpr (dd_nodup _ _ List.nodup_nil)
theorem frN_len (t : T) : (frN t).length ≤ t.z := by
  have h1 := dd_len (t.free []) []
  have h2 := t.free_len []
  rw [frN, (sortS_perm _).length_eq]
  simp only [List.length_nil] at h1
  omega
theorem frN_put {x : Str} {c : T} (hc : c.free [] = []) (t : T) : frN (T.put x c t) = (frN t).filter fun s => decide (s ≠ x) := by
  refine sorted_unique ?_ (sortS_sorted _) ((sortS_sorted _).sublist (List.filter_sublist ..))
  refine (List.perm_ext_iff_of_nodup (frN_nodup _) ((frN_nodup t).sublist (List.filter_sublist ..))).mpr fun s => ?_
  rw [frN_mem, free_put hc t.h t [] (Nat.le_refl _) List.not_mem_nil, List.mem_filter, List.mem_filter, frN_mem]
theorem frN_tw {t u : T} (h : Tw [] [] t u) : frN u = frN t := by
  have e1 := fr_nl u.h u [] (Nat.le_refl _)
  have e2 := fr_nl u.h t [] (by rw [h.h]; exact Nat.le_refl _)
  rw [h.nl u.h, e2] at e1
  rw [frN, frN, e1]
theorem tw_put {x : Str} {c t u : T} (hc : c.free [] = []) (h : Tw [] [] t u) (g : Nat) (hg : t.h + c.h ≤ g) : nl g (T.put x c u) [] = nl g (T.put x c t) [] := by
  rw [nl_put hc g u [] (by rw [h.h]; exact hg) List.not_mem_nil, nl_put hc g t [] hg List.not_mem_nil, h.nl g]
end M

namespace M
open PySem PySem.Spec PyProof.Rows L2
/-! ### what is never come to -/
def fNever : FE := fun _ => none
def sNever : FS := fun _ => none
section
variable {X : Cx} {np : Nat}
theorem je_never {e : Expr} : JE X np e (fun _ _ _ => False) fNever := ⟨⟨fun _ _ _ _ _ _ h => h.elim⟩, fun _ _ _ _ _ _ _ _ _ _ h => by cases h⟩
theorem js_never {s : Stmt} : JS X np s (fun _ _ _ => False) sNever := ⟨⟨fun _ _ _ _ _ _ h => h.elim⟩, fun _ _ _ _ _ _ _ _ _ _ h => by cases h⟩
end
/-! ### objects that stay: attributes -/
abbrev inrs (kvs : List (Str × V)) : List (Key × V) := kvs.map fun p => ((.inr p.1 : Key), p.2)
theorem look_fld {K : PySem.W.Frag} {F : Hp} {f : Str} : ∀ {kvs : List (Str × V)} {es : List (Key × D)}, Rpk K F (inrs kvs) es → (lookK (.inr f) es = none ∧ kvs.lookup f = none) ∨ ∃ v d, lookK (.inr f) es = some d ∧ kvs.lookup f = some v ∧ Rp K F v d
  | [], [], _ => .inl ⟨rfl, rfl⟩
  | (g, v) :: kvs, (k, d) :: es, h => by
    rw [inrs, List.map_cons] at h
    cases h with
    | cons r t =>
      rw [List.lookup_cons, lookK]
      by_cases z : f = g
      · subst z
        simp only [beq_self_eq_true, if_true]
        exact .inr ⟨v, d, rfl, rfl, r⟩
      · have z1 : (f == g) = false := beq_eq_false_iff_ne.mpr z
        have z2 : ¬ (Sum.inr g : Key) = .inr f := fun e => z (by cases e; rfl)
        simp only [z1, z2, if_false]
        exact look_fld t
  | [], _ :: _, h => nomatch h
  | _ :: _, [], h => nomatch h
/-- what is asked of the class c for its attribute f -/
def ClsF (K : PySem.W.Frag) (c f : Str) : Prop := ∀ C, PySem.W.nsIn K mainGlobals c = some (some (.ref C)) → Cls K C ∧ NoAttr K C f
def fFld (c f : Str) (ka : FK) : FE := fun e => (ka e).bind fun p => (p.2 p.1).bind fun d => match d with
  | .ob c' es => if c' = c then (lookK (.inr f) es).bind fun d' => some (p.1, d') else none
  | _ => none
theorem ob_at {K : PySem.W.Frag} {F H : Hp} {v : V} {c : Str} {es : List (Key × D)} (sf : Same F H) (r : RpO K F H v (.ob c es)) : ∃ a C dx kvs, v = .ref a ∧ PySem.W.nsIn K mainGlobals c = some (some (.ref C)) ∧ H a = some (.ins C dx kvs) ∧ Rpk K F (inrs kvs) es := by
  cases r with
  | rp r =>
    cases r with
    | ob n s r => exact ⟨_, _, _, _, rfl, n, sf _ _ s, r⟩
section
variable {X : Cx} {np : Nat}
theorem je_fld {K : PySem.W.Frag} {c f : Str} {o : Expr} {pos : Pos} {ta : TE} {ka : FK} (hc : ClsF K c f) (h : JK X np o ta ka) (hb : attributeBase o f X.env (eval o X.env) = eval o X.env := by rfl) (hK : X.K = K := by rfl) :
    JE X np (.Attribute o f pos) (tFld K ta f) (fFld c f ka) := by
  subst hK
  refine ⟨pe_fld h.pe hb, fun B F e σ H Q hn I e' d hf q => ?_⟩
  obtain ⟨⟨e1, ra⟩, h1, hf⟩ := bnd hf
  obtain ⟨x, h3, hf⟩ := bnd hf
  refine h.de B F e σ H _ hn I e1 ra h1 fun F1 v1 H1 s1 I1 l1 => ?_
  have r1 := l1 F1 e1 H1 x (Same.refl _) I1 h3
  obtain ⟨c', es, rfl⟩ : ∃ c' es, x = D.ob c' es := by cases x <;> first | exact ⟨_, _, rfl⟩ | cases hf
  have hg : (if c' = c then (lookK (.inr f) es).bind fun d' => some (e1, d') else none) = some (e', d) := hf
  clear hf
  by_cases ec : c' = c
  · rw [if_pos ec] at hg
    subst ec
    obtain ⟨d', h4, hg⟩ := bnd hg
    cases hg
    obtain ⟨a, C, dx, kvs, rfl, n, ea, rk⟩ := ob_at I1.sf r1
    obtain ⟨k1, k2⟩ := hc C n
    rcases look_fld (f := f) rk with ⟨z, _⟩ | ⟨v, d2, z1, z2, z3⟩
    · rw [z] at h4; cases h4
    · rw [z1] at h4; cases h4
      exact ⟨a, C, dx, kvs, v, rfl, ea, k1, k2, z2, q F1 v H1 s1 I1 z3⟩
  · rw [if_neg ec] at hg; cases hg
/-! ### methods -/
theorem pe_methT {k : Nat} {C f : Addr} {fd : FuncData} {ps : List Str} {sp : Sp} {E : XK} {m : Str} {pos apos : Pos} {e o : Expr} {es : List Expr} {ta : TE} {t : TA} {pl : Sem Bool} (he : PE X o ta) (c : Cls X.K C) (hm : Meth X.K C m f) (F : FnT X.prog X.w X.K X.mg X.base k f fd ps sp) (hr : RoomT k X.A) (hb : Binds X.K fd ps []) (hx : Passes CX0 X E) (ha : PA X (e :: es) t)
    (hst : starEach (e :: es) X.env = (false, eval e X.env) :: starEach es X.env := by rfl) (hpl : (backTo pos (starEach es X.env)).any (·.1) = false := by rfl)
    (ht : eval (.Call (.Attribute o m apos) (e :: es) [] pos) X.env = (do
      let ov ← eval o X.env
      standAt apos.atName
      let (f, first) ← holding [ov] (getMethod ov m pl)
      callWith pos f first (backTo pos (starEach (e :: es) X.env)) (backToKw pos (keywordEach [] X.env))) := by rfl) :
    PE X (.Call (.Attribute o m apos) (e :: es) [] pos) (tMeth C m sp [] E ta t) := by
  refine ⟨fun pins s σ H Q I h => ?_⟩
  refine PySem.W.methodCall_KW (pl := pl) (thn (he.run pins s σ H _ I h) fun u s1 ⟨x, H1, I1, rx, a, dx, fs, ex, ea, l, q⟩ => ?_) ht
  subst ex
  obtain rfl : u = Value.ref a := rx
  refine getmeth_ok I1 ea c hm l ?_
  refine PySem.W.callWith_K (first := [.ref a]) (h₀ := X.base) I.ok.mod.kin hm.kp (thn (ha.run pos pins s1 σ H1 _ I1 q) fun us s2 ⟨vs, H2, I2, r, q2⟩ => ⟨I2.kIn, ?_⟩) hst hpl
  exact run_fnT (us := .ref a :: us) (vs := .ref a :: vs) F hr hb .nil hx I2 (.cons rfl r) q2
theorem pe_methT0 {k : Nat} {C f : Addr} {fd : FuncData} {ps : List Str} {sp : Sp} {E : XK} {m : Str} {pos apos : Pos} {o : Expr} {ta : TE} {pl : Sem Bool} (he : PE X o ta) (c : Cls X.K C) (hm : Meth X.K C m f) (F : FnT X.prog X.w X.K X.mg X.base k f fd ps sp) (hr : RoomT k X.A) (hb : Binds X.K fd ps []) (hx : Passes CX0 X E)
    (ht : eval (.Call (.Attribute o m apos) [] [] pos) X.env = (do
      let ov ← eval o X.env
      standAt apos.atName
      let (f, first) ← holding [ov] (getMethod ov m pl)
      callWith pos f first (backTo pos (starEach [] X.env)) (backToKw pos (keywordEach [] X.env))) := by rfl) :
    PE X (.Call (.Attribute o m apos) [] [] pos) (tMeth C m sp [] E ta tNil) := by
  refine ⟨fun pins s σ H Q I h => ?_⟩
  refine PySem.W.methodCall_KW (pl := pl) (thn (he.run pins s σ H _ I h) fun u s1 ⟨x, H1, I1, rx, a, dx, fs, ex, ea, l, q⟩ => ?_) ht
  subst ex
  obtain rfl : u = Value.ref a := rx
  refine getmeth_ok I1 ea c hm l ?_
  exact PySem.W.callWith_K0 (first := [.ref a]) I1.kIn hm.kp (run_fnT (us := [.ref a]) (vs := [.ref a]) F hr hb .nil hx I1 (.cons rfl .nil) q)
/-- the method m of the class c, the parameter self among the n -/
def MethOk (P : Program) (w : World) (K : PySem.W.Frag) (mg : Str → Option Value) (base : Heap) (c m : Str) (ps : List Str) (k n : Nat) (mir : FC) : Prop :=
  ∃ (C f : Addr) (fd : FuncData), PySem.W.nsIn K mainGlobals c = some (some (.ref C)) ∧ Cls K C ∧ Meth K C m f ∧ FnT P w K mg base k f fd ps (spM K n mir) ∧ BindsA fd ps ∧ (∀ es r, mir es = some r → es.length = n)
theorem MethOk.level {P : Program} {w : World} {K : PySem.W.Frag} {mg : Str → Option Value} {base : Heap} {c m : Str} {ps : List Str} {k k' n : Nat} {mir : FC} (h : MethOk P w K mg base c m ps k n mir) (hk : k ≤ k') : MethOk P w K mg base c m ps k' n mir := by
  obtain ⟨C, f, fd, h1, h2, h3, h4, h5, h6⟩ := h
  exact ⟨C, f, fd, h1, h2, h3, h4.mono hk, h5, h6⟩
def fMeth (c m : Str) (mir : FC) (ko : FK) (k : FA) : FE := fun e => (ko e).bind fun p => (p.2 p.1).bind fun d => match d with
  | .ob c' es => if c' = c ∧ lookK (.inr m) es = none then (k p.1).bind fun q => (fCall2 mir q.1 (.im d :: q.2)).bind fun r => r.2.see.bind fun d' => some (r.1, d') else none
  | _ => none
theorem de_meth {K : PySem.W.Frag} {np n : Nat} {c m : Str} {C : Addr} {mir : FC} {ta : TE} {ko : FK} {t : TA} {fa : FA} {E : XK} (hC : PySem.W.nsIn K mainGlobals c = some (some (.ref C))) (ho : DK K np ta ko) (h : DA K np t fa) (hlen : ∀ es r, mir es = some r → es.length = n) :
    DE K np (tMeth C m (spM K n mir) [] E ta t) (fMeth c m mir ko fa) := by
  intro B F e σ H Q hn I e' d hf q
  obtain ⟨⟨e1, ra⟩, h1, hf⟩ := bnd hf
  obtain ⟨x, h3, hf⟩ := bnd hf
  refine ho B F e σ H _ hn I e1 ra h1 fun F1 v1 H1 s1 I1 l1 => ?_
  have r1 := l1 F1 e1 H1 x (Same.refl _) I1 h3
  obtain ⟨c', es, rfl⟩ : ∃ c' es, x = D.ob c' es := by cases x <;> first | exact ⟨_, _, rfl⟩ | cases hf
  have hk : (if c' = c ∧ lookK (.inr m) es = none then (fa e1).bind fun q => (fCall2 mir q.1 (.im (.ob c' es) :: q.2)).bind fun r => r.2.see.bind fun d' => some (r.1, d') else none) = some (e', d) := hf
  by_cases ec : c' = c ∧ lookK (.inr m) es = none
  · rw [if_pos ec] at hk
    obtain ⟨ec, el⟩ := ec
    subst ec
    obtain ⟨⟨e2, as⟩, h4, hk2⟩ := bnd hk
    obtain ⟨⟨e3, s3⟩, h5, hk3⟩ := bnd hk2
    obtain ⟨d', h6, hk4⟩ := bnd hk3
    cases hk4
    obtain ⟨a, C', dx, kvs, rfl, n', ea, rk⟩ := ob_at I1.sf r1
    rw [hC] at n'; cases n'
    have ro : Rp K F1 (.ref a) (.ob c' es) := by cases r1 with | rp r => exact r
    refine ⟨a, dx, kvs, rfl, ea, ?_, h B F1 e1 σ H1 _ hn I1 e2 as h4 fun F2 vs H2 s2 I2 r2 => ?_⟩
    · rcases look_fld (f := m) rk with ⟨_, z⟩ | ⟨v, d2, z1, _⟩
      · exact z
      · rw [z1] at el; cases el
    rw [List.append_nil]
    unfold fCall2 at h5
    split at h5
    · rename_i hnd
      obtain ⟨es2, h7, h5⟩ := bnd h5
      obtain ⟨⟨es', d2⟩, h8, h5⟩ := bnd h5
      cases h5
      refine call_core2 (fun {es r} h => hlen es r h) I2 (.cons (.im (ro.mono s2)) r2) hnd h7 h8 fun F' v H' sm I' rv ne => ?_
      cases rv with
      | im r => cases h6; exact q F' v H' ((s1.trans s2).trans sm) I' r
      | ow o f g b =>
        obtain ⟨F3, s3, I3, r3⟩ := I'.freezeNew o f g b h6 (ne _ rfl o.own)
        exact q F3 _ H' (((s1.trans s2).trans sm).trans s3) I3 r3
    · cases h5
  · rw [if_neg ec] at hk; cases hk
def tMethX (K : PySem.W.Frag) (c m : Str) (sp : Sp) (ta : TE) (t : TA) : TE := fun σ H Q => ∃ C, PySem.W.nsIn K mainGlobals c = some (some (.ref C)) ∧ tMeth C m sp [] E0 ta t σ H Q
theorem jmeth {K : PySem.W.Frag} {n k : Nat} {c m : Str} {ps : List Str} {mir : FC} {pos apos : Pos} {e o : Expr} {es : List Expr} {ta : TE} {ko : FK} {t : TA} {fa : FA} {pl : Sem Bool} (G : MethOk X.prog X.w K X.mg X.base c m ps k n mir)
    (hr : RoomT k X.A) (ho : JK X np o ta ko) (ha : JA X np (e :: es) t fa)
    (hst : starEach (e :: es) X.env = (false, eval e X.env) :: starEach es X.env := by rfl) (hpl : (backTo pos (starEach es X.env)).any (·.1) = false := by rfl)
    (ht : eval (.Call (.Attribute o m apos) (e :: es) [] pos) X.env = (do
      let ov ← eval o X.env
      standAt apos.atName
      let (f, first) ← holding [ov] (getMethod ov m pl)
      callWith pos f first (backTo pos (starEach (e :: es) X.env)) (backToKw pos (keywordEach [] X.env))) := by rfl) (hK : X.K = K := by rfl) :
    JE X np (.Call (.Attribute o m apos) (e :: es) [] pos) (tMethX K c m (spM K n mir) ta t) (fMeth c m mir ko fa) := by
  subst hK
  obtain ⟨C, f, fd, h1, h2, h3, h4, h5, h6⟩ := G
  have p := pe_methT (pl := pl) (E := E0) ho.pe h2 h3 h4 hr h5.b pass0 ha.pa hst hpl ht
  refine ⟨⟨fun pins s σ H Q I h => ?_⟩, fun B F e σ H Q hn I e' d hf q => ?_⟩
  · obtain ⟨C', n', h⟩ := h
    rw [h1] at n'; cases n'
    exact p.run pins s σ H Q I h
  · exact ⟨C, h1, de_meth h1 ho.de ha.de h6 B F e σ H Q hn I e' d hf q⟩
theorem jmeth0 {K : PySem.W.Frag} {n k : Nat} {c m : Str} {ps : List Str} {mir : FC} {pos apos : Pos} {o : Expr} {ta : TE} {ko : FK} {pl : Sem Bool} (G : MethOk X.prog X.w K X.mg X.base c m ps k n mir)
    (hr : RoomT k X.A) (ho : JK X np o ta ko)
    (ht : eval (.Call (.Attribute o m apos) [] [] pos) X.env = (do
      let ov ← eval o X.env
      standAt apos.atName
      let (f, first) ← holding [ov] (getMethod ov m pl)
      callWith pos f first (backTo pos (starEach [] X.env)) (backToKw pos (keywordEach [] X.env))) := by rfl) (hK : X.K = K := by rfl) :
    JE X np (.Call (.Attribute o m apos) [] [] pos) (tMethX K c m (spM K n mir) ta tNil) (fMeth c m mir ko aNil) := by
  subst hK
  obtain ⟨C, f, fd, h1, h2, h3, h4, h5, h6⟩ := G
  have p := pe_methT0 (pl := pl) (E := E0) ho.pe h2 h3 h4 hr h5.b pass0 ht
  refine ⟨⟨fun pins s σ H Q I h => ?_⟩, fun B F e σ H Q hn I e' d hf q => ?_⟩
  · obtain ⟨C', n', h⟩ := h
    rw [h1] at n'; cases n'
    exact p.run pins s σ H Q I h
  · exact ⟨C, h1, de_meth h1 ho.de (ja_nil (X := X)).de h6 B F e σ H Q hn I e' d hf q⟩
end
/-! ### where a method stands -/
def MSrc (K : PySem.W.Frag) (c m : Str) (st : Stmt) (ps : List Str) : Prop := ∃ (C f : Addr) (fd : FuncData) (q : Str), PySem.W.nsIn K mainGlobals c = some (some (.ref C)) ∧ Cls K C ∧ Meth K C m f ∧ Fun K m q st f fd ∧ BindsA fd ps
section
variable {P : Program} {w : World} {K : PySem.W.Frag} {mg : Str → Option Value} {base : Heap}
theorem msrc_mk {c m q : Str} {st : Stmt} {ps : List Str} {C f : Addr} {oc : Value} {od an : Option Addr} {osl : Array (Option Value)} {kV doc pm cdv ct : Value} (a : PySem.W.nsIn K mainGlobals c = some (some (.ref C))) (cl : Cls K C)
    (at_ : PySem.W.findIn K (.ref C) m = some (some (.ref f))) (i : PySem.W.isFn K (.ref f) = true)
    (l : K.lookup f = some ⟨oc, od, .func (PySem.W.fnOf m q (defArgs st) (defBody st) (defScope st) .none kV doc pm an cdv ct), osl⟩) (cd : PySem.W.codeIn K cdv q = true) (k : PySem.W.keepIn K (.ref f) = true)
    (hb : ∀ (kV doc pm : Value) (an : Option Addr) (cdv ct : Value) (us : List Value), us.length = ps.length → bindArgs (PySem.W.fnOf m q (defArgs st) (defBody st) (defScope st) .none kV doc pm an cdv ct) ⟨us, []⟩ = pure (ps.zip us)) : MSrc K c m st ps :=
  ⟨C, f, _, q, a, cl, ⟨at_, i, k⟩, fun_mk (st := st) l cd k, fun s us hl => .of_eq (hb _ _ _ _ _ _ us hl)⟩
theorem msrc_ok {c m : Str} {st : Stmt} {ps N : List Str} {k n np : Nat} {t : TS} {fb : FS} {mir : FC} (S : MSrc K c m st ps) (sc : FnScope N ps (defScope st)) (hn : ps.length = n) (hN : n ≤ N.length)
    (hb : ∀ (q : Str) (f : Addr) (cdv : Value) (A : Around) (outer : List PySem.Env) (s : Shared) (H : Hp) (E : XK), RoomT k (A.deeper (envOfC q (defScope st) s.heap.objs.size f cdv)) → JSs (cxOf CX0 P w K mg base N q (defScope st) f cdv A outer s H E).nox np (defBody st) t fb)
    (hm : mir = callF N.length n np fb) : MethOk P w K mg base c m ps (k + 1) n mir := by
  subst hm
  obtain ⟨C, f, fd, q, h1, h2, h3, F, b⟩ := S
  exact ⟨C, f, fd, h1, h2, h3, okM F sc hn hN (hb q f), b, fun es r h => callF_len h⟩
theorem msrc_none {c m : Str} {st : Stmt} {ps : List Str} {n : Nat} {mir : FC} (S : MSrc K c m st ps) (hm : ∀ es, mir es = none) : MethOk P w K mg base c m ps 0 n mir := by
  obtain ⟨C, f, fd, q, h1, h2, h3, F, b⟩ := S
  exact ⟨C, f, fd, h1, h2, h3, fnOk_none hm, b, fun es r h => by rw [hm es] at h; exact nomatch h⟩
end
end M

namespace M
open PySem PySem.Spec PyProof.Rows L2
/-! ### objects that stay: made -/
def pE (k : Key) (v : D) : List (Key × D) → List (Key × D)
  | [] => [(k, v)]
  | (g, x) :: r => if g = k then (g, v) :: r else (g, x) :: pE k v r
theorem put_rpn {K : PySem.W.Frag} {F : Hp} {f : Str} {v : V} {d : D} (r : Rp K F v d) : ∀ {kvs : List (Str × V)} {es : List (Key × D)}, Rpk K F (inrs kvs) es → Rpk K F (inrs (L2.putF f v kvs)) (pE (.inr f) d es)
  | [], [], _ => .cons r .nil
  | (g, x) :: kvs, (k, y) :: es, h => by
    rw [inrs, List.map_cons] at h
    cases h with
    | cons r0 t =>
      rw [L2.putF, pE]
      by_cases z : g = f
      · subst z
        rw [if_pos rfl, if_pos rfl]
        exact .cons r t
      · have z2 : ¬ (Sum.inr g : Key) = .inr f := fun e => z (by cases e; rfl)
        rw [if_neg z, if_neg z2]
        exact .cons r0 (put_rpn r t)
  | [], _ :: _, h => nomatch h
  | _ :: _, [], h => nomatch h
theorem IV.guardX {K : PySem.W.Frag} {B : Bs} {F : Hp} {e : Sls} {σ : L2.St} {H : Hp} (I : IV K B F e σ H) {p : Addr} {o : HO} (hp : H p = some o) (hf : F p = none) (ho : ∀ (j : Nat) (s : Sl), e[j]? = some s → s.own = false) : IV K { B with G := upd B.G p o } F e σ H := by
  refine ⟨I.sf, fun b u q => ?_, I.g1, fun b => ?_, I.g3, I.len, fun i s v h1 h2 => ?_, I.ap, I.an⟩
  · by_cases z : b = p
    · subst z
      have q : upd B.G b o b = some u := q
      rw [upd_same] at q; rw [hp]; exact q
    · have q : upd B.G p o b = some u := q
      rw [upd_ne z] at q; exact I.sg b u q
  · by_cases z : b = p
    · subst z; exact .inl (hf.trans (I.g1.free hf).symm)
    · rcases I.g2 b with h | ⟨h1, h2, h3⟩
      · exact .inl h
      · exact .inr ⟨h1, h2, by show upd B.G p o b = none; rw [upd_ne z]; exact h3⟩
  · have r := I.sl i s v h1 h2
    cases r with
    | un => exact .un
    | im r => exact .im r
    | ow r g1 g2 g3 => have := ho i s h1; rw [r.own] at this; cases this
def fIn : List (Str × FE) → Sls → List (Key × D) → Option (Sls × List (Key × D))
  | [], e, es => some (e, es)
  | (f, fe) :: r, e, es => (fe e).bind fun p => fIn r p.1 (pE (.inr f) p.2 es)
structure JIn (X : Cx) (c : Str) (ss : List Stmt) (t : TS) (fs : List (Str × FE)) : Prop where
  ps : PSs X ss t
  de : ∀ (C a dx : Addr) (B : Bs) (F : Hp) (e : Sls) (σ : L2.St) (H : Hp) (E : Ends) (kvs : List (Str × V)) (es : List (Key × D)), PySem.W.nsIn X.K mainGlobals c = some (some (.ref C)) → B.np = 0 → IV X.K { B with G := upd B.G a (.ins C dx kvs) } F e σ H → σ[0]? = some (some (.ref a)) → B.F a = none → Rpk X.K F (inrs kvs) es →
    kvs.length + fs.length < 1000 → ∀ (e' : Sls) (es' : List (Key × D)), fIn fs e es = some (e', es') → (∀ (F' H' : Hp) (kvs' : List (Str × V)), Same F F' → IV X.K { B with G := upd B.G a (.ins C dx kvs') } F' e' σ H' → Rpk X.K F' (inrs kvs') es' → E.nx σ H') → t E σ H
theorem length_putF (f : Str) (v : V) : ∀ kvs : List (Str × V), (L2.putF f v kvs).length ≤ kvs.length + 1
  | [] => by simp [L2.putF]
  | (g, x) :: r => by
    have := length_putF f v r
    rw [L2.putF]; split <;> simp only [List.length_cons] <;> omega
section
variable {X : Cx} {c : Str}
theorem ji_fld {f x : Str} {p tpos pos : Pos} {ex : Expr} {te : TE} {fe : FE} (hc : ClsF X.K c f) (hv : PE X (.Name x p) (tVar 0)) (h : JE X 0 ex te fe) (hs : swapsWith ex (some (.Attribute (.Name x p) f tpos)) pos.line X.env = pure false := by rfl) :
    PS X (.Assign [.Attribute (.Name x p) f tpos] ex pos) (sFld X.K (tVar 0) te f) ∧
    ∀ (C a dx : Addr) (B : Bs) (F : Hp) (e : Sls) (σ : L2.St) (H : Hp) (E : Ends) (kvs : List (Str × V)) (es : List (Key × D)), PySem.W.nsIn X.K mainGlobals c = some (some (.ref C)) → B.np = 0 → IV X.K { B with G := upd B.G a (.ins C dx kvs) } F e σ H → σ[0]? = some (some (.ref a)) → B.F a = none → Rpk X.K F (inrs kvs) es →
      kvs.length < 1000 → ∀ (e' : Sls) (d : D), fe e = some (e', d) → (∀ (F' H' : Hp) (v : V), Same F F' → IV X.K { B with G := upd B.G a (.ins C dx (L2.putF f v kvs)) } F' e' σ H' → Rpk X.K F' (inrs (L2.putF f v kvs)) (pE (.inr f) d es) → E.nx σ H') → sFld X.K (tVar 0) te f E σ H := by
  refine ⟨ps_fld hv h.pe hs, fun C a dx B F e σ H E kvs es n hn I ha hB rk hl e' d hf q => ?_⟩
  obtain ⟨k1, k2⟩ := hc C n
  refine h.de { B with G := upd B.G a (.ins C dx kvs) } F e σ H _ hn I e' d hf fun F1 v1 H1 s1 I1 r1 => ?_
  have ea : H1 a = some (.ins C dx kvs) := I1.sg a _ (show upd B.G a _ a = some _ from upd_same)
  exact ⟨.ref a, ha, a, C, dx, kvs, rfl, ea, k1, k2, hl, q F1 _ v1 s1 (IV.grow hB I1) (put_rpn r1 (rk.mono s1))⟩
theorem ji_one {f x : Str} {p tpos pos : Pos} {ex : Expr} {te : TE} {fe : FE} (hc : ClsF X.K c f) (hv : PE X (.Name x p) (tVar 0)) (h : JE X 0 ex te fe) (hs : swapsWith ex (some (.Attribute (.Name x p) f tpos)) pos.line X.env = pure false := by rfl) :
    JIn X c [.Assign [.Attribute (.Name x p) f tpos] ex pos] (sFld X.K (tVar 0) te f) [(f, fe)] := by
  obtain ⟨p1, p2⟩ := ji_fld hc hv h hs
  refine ⟨pss_one p1, fun C a dx B F e σ H E kvs es n hn I ha hB rk hl e' es' hf q => ?_⟩
  obtain ⟨⟨e1, d⟩, h1, hf⟩ := bnd hf
  cases hf
  refine p2 C a dx B F e σ H E kvs es n hn I ha hB rk (by simp only [List.length_cons, List.length_nil] at hl; omega) e1 d h1 fun F' H' v s I' r => q F' H' _ s I' r
theorem ji_cons {f x : Str} {p tpos pos : Pos} {ex : Expr} {te : TE} {fe : FE} {ss : List Stmt} {t : TS} {fs : List (Str × FE)} (hc : ClsF X.K c f) (hv : PE X (.Name x p) (tVar 0)) (h : JE X 0 ex te fe) (h2 : JIn X c ss t fs) (hs : swapsWith ex (some (.Attribute (.Name x p) f tpos)) pos.line X.env = pure false := by rfl) :
    JIn X c (.Assign [.Attribute (.Name x p) f tpos] ex pos :: ss) (tSeq (sFld X.K (tVar 0) te f) t) ((f, fe) :: fs) := by
  obtain ⟨p1, p2⟩ := ji_fld hc hv h hs
  refine ⟨pss_cons p1 h2.ps, fun C a dx B F e σ H E kvs es n hn I ha hB rk hl e' es' hf q => ?_⟩
  obtain ⟨⟨e1, d⟩, h1, hf⟩ := bnd hf
  rw [List.length_cons] at hl
  refine p2 C a dx B F e σ H { E with nx := t E } kvs es n hn I ha hB rk (by omega) e1 d h1 fun F' H' v s I' r => ?_
  have := length_putF f v kvs
  exact h2.de C a dx B F' e1 σ H' E _ _ n hn I' ha hB r (by omega) e' es' hf fun F2 H2 kvs2 s2 I2 r2 => q F2 H2 kvs2 (s.trans s2) I2 r2
end
def unIms (ds : List D) : Sls := .un :: ds.map .im
def gIn (NL n : Nat) (fs : List (Str × FE)) (ds : List D) : Option (List (Key × D)) := if ds.length + 1 = n then (fIn fs (startS NL n 0 (unIms ds)) []).bind fun p => if n ≤ p.1.length then some p.2 else none else none
def spI (K : PySem.W.Frag) (c : Str) (n : Nat) (g : List D → Option (List (Key × D))) : Sp := fun vs H Q _ => ∃ (a C dx : Addr) (us : List V) (F G : Hp) (ds : List D) (es : List (Key × D)), vs = .ref a :: us ∧ vs.length = n ∧ PySem.W.nsIn K mainGlobals c = some (some (.ref C)) ∧ H a = some (.ins C dx []) ∧ F a = none ∧ G a = none ∧
  g ds = some es ∧ IV K ⟨F, H, G, vs, vs.length⟩ F (unIms ds) (vs.map some) H ∧ ∀ (F' H' : Hp) (kvs : List (Str × V)), IV K ⟨F, H, G, vs, vs.length⟩ F' (unIms ds) (vs.map some) H' → H' a = some (.ins C dx kvs) → F' a = none → Rpk K F' (inrs kvs) es → Q .non H'
theorem own_start {ds : List D} {NL n : Nat} : ∀ (j : Nat) (s : Sl), (startS NL n 0 (unIms ds))[j]? = some s → s.own = false := fun j s h => by
  unfold startS at h
  rw [List.take_zero, List.nil_append, List.drop_zero] at h
  have hm := List.mem_of_getElem? h
  rcases List.mem_append.mp hm with hm | hm
  · obtain ⟨x, hx, rfl⟩ := List.mem_map.mp hm
    exact demote_own x
  · rw [List.eq_of_mem_replicate hm]; rfl
theorem dem_unIms (ds : List D) : (unIms ds).map demote = unIms ds := by
  rw [unIms, List.map_cons, List.map_map]
  rfl
section
variable {P : Program} {w : World} {K : PySem.W.Frag} {mg : Str → Option Value} {base : Heap}
theorem initT {c qual m : Str} {st : Stmt} {f : Addr} {fd : FuncData} {N ps : List Str} {k n : Nat} {t : TS} {fs : List (Str × FE)} (F : Fun K m qual st f fd) (S : FnScope N ps (defScope st)) (hn : ps.length = n) (hN : n ≤ N.length) (hfs : fs.length < 1000)
    (hb : ∀ (cdv : Value) (A : Around) (outer : List PySem.Env) (s : Shared) (H : Hp) (E : XK), RoomT k (A.deeper (envOfC qual (defScope st) s.heap.objs.size f cdv)) → JIn (cxOf CX0 P w K mg base N qual (defScope st) f cdv A outer s H E).nox c (defBody st) t fs) :
    FnT P w K mg base (k + 1) f fd ps (spI K c n (gIn N.length n fs)) := by
  refine funT_ok F S (fun vs H Q E h => by obtain ⟨a, C, dx, us, F, G, ds, es, h1, h2, _⟩ := h; rw [h2, hn]) fun cdv A outer s H vs Q E hr h => ?_
  obtain ⟨a, C, dx, us, F0, G, ds, es, h1, h2, h3, h4, h5, h6, h7, I, q⟩ := h
  have J := hb cdv A outer s H E hr
  refine ⟨t, J.ps, ?_⟩
  unfold gIn at h7
  split at h7
  · rename_i hl
    obtain ⟨⟨e', es'⟩, h8, h7⟩ := bnd h7
    split at h7
    · rename_i hle
      cases h7
      have hl2 : (unIms ds).length = n := by rw [unIms, List.length_cons, List.length_map]; exact hl
      have I0 := iv_start (N := N) (np := 0) I hl2 (Nat.zero_le _)
      have I1 := I0.guardX h4 h5 own_start
      have hσ : (L2.start N vs)[0]? = some (some (.ref a)) := by rw [h1]; rfl
      refine J.de C a dx ⟨F0, H, G, vs, 0⟩ F0 _ _ H _ [] [] h3 rfl I1 hσ h5 .nil (by simp only [List.length_nil]; omega) e' _ h8 fun F' H' kvs' sm I' r => ?_
      obtain ⟨I2, g1, g2, g3⟩ := I'.unguard2 (B := ⟨F0, H, G, vs, 0⟩) h6 h5
      have I3 := iv_back (N := N) I hl2 (Nat.zero_le _) hle I2
      rw [backS, List.take_zero, List.nil_append, List.drop_zero, dem_unIms] at I3
      exact q F' H' kvs' I3 g1 g2 r
    · cases h7
  · cases h7
end
theorem RoomT.make {k : Nat} {A : Around} (r : RoomT (k + 1) A) (C : Addr) (us : List Value) (kw : List (Str × Value)) : RoomT k (A.under (.builtin "type.__call__" ⟨.ref C :: us, kw⟩)) :=
  ⟨r.hd, by have := r.dp; rw [make_depth]; omega, by have := r.un; rw [make_units]; omega⟩
/-- C(..) -/
def MkOk (P : Program) (w : World) (K : PySem.W.Frag) (mg : Str → Option Value) (base : Heap) (c : Str) (ps : List Str) (k n : Nat) (g : List D → Option (List (Key × D))) : Prop :=
  ∃ (C f : Addr) (fd : FuncData), PySem.W.nsIn K mainGlobals c = some (some (.ref C)) ∧ mg c = some (.ref C) ∧ Mk K C f ∧ FnT P w K mg base k f fd ps (spI K c n g) ∧ BindsA fd ps
section
variable {X : Cx}
theorem run_makeT {k : Nat} {C f : Addr} {fd : FuncData} {ps : List Str} {sp : Sp} {E : XK} {pins : List (Addr × Obj)} {s : Shared} {σ : L2.St} {H : Hp} {Q : VK} {us : List Value} {vs : List V} (M : Mk X.K C f) (F : FnT X.prog X.w X.K X.mg X.base k f fd ps sp) (hr : RoomT (k + 1) X.A) (hb : BindsA fd ps)
    (hx : Passes CX0 X E) (I : Inv X pins σ H s) (r : Vals vs us)
    (h : ∀ x dx, H x = none → H dx = none → dx ≠ x → sp (.ref x :: (vs ++ [])) (upd (upd H dx (.own x)) x (.ins C dx [])) (fun v H2 => v = .non ∧ Q (.ref x) H2) E) :
    wpAny (model X.prog X.w) X.A (call (.ref C) us) (EP X pins σ Q) X.xe s := by
  have hq := h (s.heap.objs.size + 1) s.heap.objs.size (I.hok.fresh (Nat.le_succ _)) (I.hok.fresh (Nat.le_refl _)) (Nat.ne_of_lt (Nat.lt_succ_self _))
  rw [List.append_nil] at hq
  have I2 := Inv.made (C := C) I
  have r2 : Vals (V.ref (s.heap.objs.size + 1) :: vs) (Value.ref (s.heap.objs.size + 1) :: us) := .cons rfl r
  have hl : (Value.ref (s.heap.objs.size + 1) :: us).length = ps.length := by
    have e := r2.length
    rw [F.len _ _ _ _ hq] at e
    exact e.symm
  refine wpAny_call (make_map (f := f) I.kIn M.makes M.init (beq_iff_eq.mp M.fn) (codeAny_mono (F.run _ X.stack _ _ ⟨Value.ref (s.heap.objs.size + 1) :: us, []⟩ (Value.ref (s.heap.objs.size + 1) :: us) _ _ E (hr.make C us [])
    (I2.env0.make C us []) (hb _ (Value.ref (s.heap.objs.size + 1) :: us) hl) r2 hq) fun r s' hq' => ?_))
  cases r with
  | error e => exact hx pins σ _ _ e s' I2 hq'
  | ok fl =>
    cases fl with
    | ret u =>
      obtain ⟨v, H', I3, rv, ev, q3⟩ := I2.after hq'
      subst ev
      exact ⟨rv, ⟨V.ref (s.heap.objs.size + 1), H', I3, rfl, q3⟩⟩
    | next => exact False.elim hq'
    | brk => exact False.elim hq'
    | cont => exact False.elim hq'
def tMakeX (K : PySem.W.Frag) (c : Str) (sp : Sp) (t : TA) : TE := fun σ H Q => ∃ C, PySem.W.nsIn K mainGlobals c = some (some (.ref C)) ∧ tMake C sp [] E0 t σ H Q
def fMake (c : Str) (g : List D → Option (List (Key × D))) (fs : FEs) : FE := fun e => (fs e).bind fun p => (g p.2).bind fun es => some (p.1, .ob c es)
theorem de_make {K : PySem.W.Frag} {np n m : Nat} {c : Str} {g : List D → Option (List (Key × D))} {t : TA} {fs : FEs} {C : Addr} {E : XK} (hC : PySem.W.nsIn K mainGlobals c = some (some (.ref C))) (hm : m = n + 1) (h : DEs K np n t fs) : DE K np (tMake C (spI K c m g) [] E t) (fMake c g fs) := by
  intro B F e σ H Q hn I e' d hf q
  obtain ⟨⟨e1, ds⟩, h1, hf⟩ := bnd hf
  obtain ⟨es, h2, hf⟩ := bnd hf
  cases hf
  refine h B F e σ H _ hn I e1 ds h1 fun F1 vs H1 s1 I1 r1 l1 => fun x dx hx hdx hne => ?_
  obtain ⟨x1, x2, x3, x4⟩ := I1.free hx
  obtain ⟨d1, d2, d3, d4⟩ := I1.free hdx
  rw [List.append_nil]
  have hH : ∀ b u, H1 b = some u → (upd (upd H1 dx (.own x)) x (.ins C dx [])) b = some u := fun b u z => by
    rw [upd_ne (ne_of_none z hx), upd_ne (ne_of_none z hdx)]; exact z
  have hHx : (upd (upd H1 dx (.own x)) x (.ins C dx [])) x = some (.ins C dx []) := upd_same
  have hH0 : ∀ b, (upd (upd H1 dx (.own x)) x (.ins C dx [])) b = none → H1 b = none := fun b z => by
    cases e0 : H1 b with
    | none => rfl
    | some u => rw [hH b u e0] at z; cases z
  generalize upd (upd H1 dx (.own x)) x (.ins C dx []) = H' at hH hHx hH0
  refine ⟨x, C, dx, vs, F1, (fun b => if b = x then none else H' b), ds, es, rfl, by rw [List.length_cons, l1, hm], hC, hHx, x1, by simp, h2, ?_, fun F' H2 kvs I' e2 f2 rk => ⟨rfl, ?_⟩⟩
  · refine ⟨fun b u z => hH b u (I1.sf b u z), fun b u z => ?_, Same.refl _, fun b => .inl rfl, fun b z => z, ?_, fun i s v z1 z2 => ?_, fun i j s s' hij z1 z2 o1 o2 => ?_, fun i v hi hv => len_some hv⟩
    · have z : (if b = x then none else H' b) = some u := z
      split at z
      · cases z
      · exact z
    · rw [unIms, List.length_cons, List.length_map, List.length_map, List.length_cons, r1.length]
    · cases i with
      | zero => simp [unIms] at z1; subst z1; exact .un
      | succ i =>
        rw [unIms, List.getElem?_cons_succ, List.getElem?_map] at z1
        rw [List.map_cons, List.getElem?_cons_succ, List.getElem?_map] at z2
        cases e3 : ds[i]? with
        | none => rw [e3] at z1; cases z1
        | some dd =>
          rw [e3] at z1; cases z1
          obtain ⟨y, y1, y2⟩ := r1.getD e3
          rw [y1] at z2; cases z2
          exact .im y2
    · cases i with
      | zero => simp [unIms] at z1; subst z1; cases o1
      | succ i =>
        rw [unIms, List.getElem?_cons_succ, List.getElem?_map] at z1
        cases e3 : ds[i]? with
        | none => rw [e3] at z1; cases z1
        | some dd => rw [e3] at z1; cases z1; cases o1
  · have keep : ∀ b u, H1 b = some u → H2 b = some u := fun b u z => I'.sg b u (show (if b = x then none else H' b) = some u by rw [if_neg (ne_of_none z hx)]; exact hH b u z)
    have sm : Same F1 F' := I'.g1
    have sm2 : Same F' (upd F' x (.ins C dx kvs)) := same_upd f2
    refine q (upd F' x (.ins C dx kvs)) (.ref x) H2 (s1.trans (sm.trans sm2)) ⟨fun b u z => ?_, fun b u z => keep b u (I1.sg b u z), I1.g1.trans (sm.trans sm2), fun b => ?_, fun b z => I1.g3 b (hH0 b (I'.g3 b z)), I1.len, fun i s v z1 z2 => ?_, I1.ap, I1.an⟩ (.ob hC upd_same (rk.mono sm2))
    · by_cases y : b = x
      · subst y; rw [upd_same] at z; rw [e2]; exact z
      · rw [upd_ne y] at z; exact I'.sf b u z
    · by_cases y : b = x
      · subst y; exact .inr ⟨x3, x4, x2⟩
      · rw [upd_ne y]
        rcases I'.g2 b with z | ⟨z1, z2, z3⟩
        · rw [z]; exact I1.g2 b
        · obtain ⟨y1, y2, y3, y4⟩ := I1.free (hH0 b z2)
          exact .inr ⟨y3, y4, y2⟩
    · have r := I1.sl i s v z1 z2
      cases r with
      | un => exact .un
      | im r => exact .im (r.mono (sm.trans sm2))
      | ow r g1 g2 g3 =>
        rename_i a
        have ax : a ≠ x := fun y => by rw [y] at r; exact r.some hx
        have ha : H2 a = H1 a := by
          cases e3 : H1 a with
          | none => exact absurd e3 r.some
          | some u => exact keep a u e3
        refine .ow (r.mono (sm.trans sm2) ha) ?_ g2 g3
        rw [upd_ne ax]
        rcases I'.g2 a with z | ⟨_, z, _⟩
        · exact z.trans g1
        · exact absurd (hH0 a z) r.some
theorem jmake {K : PySem.W.Frag} {np n m k : Nat} {c : Str} {ps : List Str} {g : List D → Option (List (Key × D))} {p pos : Pos} {e : Expr} {es : List Expr} {t : TA} {fs : FEs} (G : MkOk X.prog X.w K X.mg X.base c ps k m g)
    (hr : RoomT (k + 1) X.A) (hg : Gl X c) (ha : JEs X np (e :: es) n t fs) (hm : m = n + 1 := by rfl) (hdb : (c == ("__debug__" : Str)) = false := by decide) (he : starEach (e :: es) X.env = (false, eval e X.env) :: starEach es X.env := by rfl) (hpl : (backTo pos (starEach es X.env)).any (·.1) = false := by rfl) (hK : X.K = K := by rfl) :
    JE X np (.Call (.Name c p) (e :: es) [] pos) (tMakeX K c (spI K c m g) t) (fMake c g fs) := by
  subst hK
  obtain ⟨C, f, fd, h1, h2, h3, h4, h5⟩ := G
  refine ⟨⟨fun pins s σ H Q I h => ?_⟩, fun B F e σ H Q hn I e' d hf q => ?_⟩
  · obtain ⟨C', n', h⟩ := h
    rw [h1] at n'; cases n'
    refine wpAny_Call_Name_kw (ld_glob I hg h2 ?_ hdb)
    refine PySem.W.callWith_K (h₀ := X.base) I.ok.mod.kin h3.kp (thn (ha.pa.run pos pins s σ H _ I h) fun us s1 ⟨vs, H1, I1, r, q⟩ => ⟨I1.kIn, ?_⟩) he hpl
    exact run_makeT h3 h4 hr h5 pass0 I1 r q
  · exact ⟨C, h1, de_make h1 hm ha.de B F e σ H Q hn I e' d hf q⟩
theorem MkOk.level {P : Program} {w : World} {K : PySem.W.Frag} {mg : Str → Option Value} {base : Heap} {c : Str} {ps : List Str} {k k' n : Nat} {g : List D → Option (List (Key × D))} (h : MkOk P w K mg base c ps k n g) (hk : k ≤ k') : MkOk P w K mg base c ps k' n g := by
  obtain ⟨C, f, fd, h1, h2, h3, h4, h5⟩ := h
  exact ⟨C, f, fd, h1, h2, h3, h4.mono hk, h5⟩
end
def ISrc (K : PySem.W.Frag) (mg : Str → Option Value) (c : Str) (st : Stmt) (ps : List Str) : Prop := ∃ (C f : Addr) (fd : FuncData) (m q : Str), PySem.W.nsIn K mainGlobals c = some (some (.ref C)) ∧ mg c = some (.ref C) ∧ Mk K C f ∧ Fun K m q st f fd ∧ BindsA fd ps
theorem isrc_mk {h : Heap} {K : PySem.W.Frag} {mg : Str → Option Value} {c q : Str} {st : Stmt} {ps : List Str} {C f : Addr} {oc : Value} {od an : Option Addr} {osl : Array (Option Value)} {kV doc pm cdv ct : Value} (X : K.In h) (G : h.Ns mainGlobals mg) (a : PySem.W.nsIn K mainGlobals c = some (some (.ref C)))
    (mk : PySem.W.makesIn K C = true) (at_ : PySem.W.findIn K (.ref C) "__init__" = some (some (.ref f))) (i : PySem.W.isFn K (.ref f) = true) (kc : PySem.W.keepIn K (.ref C) = true)
    (l : K.lookup f = some ⟨oc, od, .func (PySem.W.fnOf "__init__" q (defArgs st) (defBody st) (defScope st) .none kV doc pm an cdv ct), osl⟩) (cd : PySem.W.codeIn K cdv q = true) (k : PySem.W.keepIn K (.ref f) = true)
    (hb : ∀ (kV doc pm : Value) (an : Option Addr) (cdv ct : Value) (us : List Value), us.length = ps.length → bindArgs (PySem.W.fnOf "__init__" q (defArgs st) (defBody st) (defScope st) .none kV doc pm an cdv ct) ⟨us, []⟩ = pure (ps.zip us)) : ISrc K mg c st ps :=
  ⟨C, f, _, "__init__", q, a, PySem.W.mg_of X G a, ⟨mk, at_, i, kc⟩, fun_mk (st := st) l cd k, fun s us hl => .of_eq (hb _ _ _ _ _ _ us hl)⟩
theorem isrc_ok {P : Program} {w : World} {K : PySem.W.Frag} {mg : Str → Option Value} {base : Heap} {c : Str} {st : Stmt} {ps N : List Str} {k n : Nat} {t : TS} {fs : List (Str × FE)} {g : List D → Option (List (Key × D))} (S : ISrc K mg c st ps) (sc : FnScope N ps (defScope st)) (hn : ps.length = n) (hN : n ≤ N.length) (hfs : fs.length < 1000)
    (hb : ∀ (q : Str) (f : Addr) (cdv : Value) (A : Around) (outer : List PySem.Env) (s : Shared) (H : Hp) (E : XK), RoomT k (A.deeper (envOfC q (defScope st) s.heap.objs.size f cdv)) → JIn (cxOf CX0 P w K mg base N q (defScope st) f cdv A outer s H E).nox c (defBody st) t fs)
    (hg : g = gIn N.length n fs) : MkOk P w K mg base c ps (k + 1) n g := by
  subst hg
  obtain ⟨C, f, fd, m, q, h1, h2, h3, F, b⟩ := S
  exact ⟨C, f, fd, h1, h2, h3, initT F sc hn hN hfs (hb q f), b⟩
end M

namespace M
open PySem PySem.Spec PyProof.Rows L2
/-! ### xs.extend(ys), ys any list -/
open PySem.AutoSeq1 in
theorem meets_extend (l : Addr) (items : Array Value) (n : Nat) (b : Addr) (items2 : Array Value) (n2 : Nat) (sl2 : Array (Option Value)) (hc0 : ¬(!items.isEmpty && Builtin.List.listTooLong (items.size + items2.size)) = true) (hc1 : items.size ≤ sizeLine) (hs2 : items.size + items2.size ≤ sizeLine + 1) :
    Meets (Builtin.«list.extend» ⟨[.ref l, .ref b], []⟩) (fun _ R s => s.heap.get? l = some { cls := .type "list", dict := none, data := .seq items n, slots := #[] } ∧ s.heap.get? b = some { cls := .type "list", dict := none, data := .seq items2 n2, slots := sl2 } ∧ R (.ok (.ret Value.none)) { s with heap := s.heap.update l (Obj.mapSeq fun x => x ++ items2), toks := s.toks }) :=
  .of_wp fun prog w A R s h => by
    obtain ⟨hp, g, d, tk, os⟩ := s; obtain ⟨hl, hb, h⟩ := h; have f1 := AutoSeq1.idx_int; have f2 := AutoSeq1.sub_tuple_tuple; have f3 := AutoSeq1.sub_list_list; have f4 := AutoSeq1.sub_tuple_list; have f5 := AutoSeq1.sub_list_tuple;
    have hz' : (items ++ items2).size ≤ sizeLine + 1 := by rw [Array.size_append]; exact hs2
    wp_walk using (wpAny_updateSeq hl rfl (hz := hc1) (_hz' := hz')), wpAny_loadPart' hl, wpAny_loadPart' hb; exact ⟨_, rfl, h⟩
def rExtendL (K : PySem.W.Frag) : V → List V → Hp → VK → Prop := fun x vs H Q => ∃ l b xs zs, x = .ref l ∧ vs = [.ref b] ∧ H l = some (.lst xs) ∧ SqL K H b zs ∧ xs.length + zs.length ≤ sizeLine ∧ Q .non (upd H l (.lst (xs ++ zs)))
section
variable {X : Cx} {np : Nat}
theorem mt_extendL : MtR X "list.extend" (rExtendL X.K) := by
  intro pins s σ H x vs v us Q I rx rv h
  obtain ⟨l, b, xs, zs, rfl, rfl, hH, hB, hz, q⟩ := h
  cases rx
  obtain ⟨u, rfl, ru⟩ := rv.one
  cases ru
  obtain ⟨z, its, n, r, hl, e⟩ := I.lstM hH
  obtain ⟨its2, r2, pl, hz2⟩ := I.list hB
  obtain ⟨o2, n2, e2, c2, d2, k2⟩ := pl
  obtain ⟨cl, di, da, sl⟩ := o2
  simp only at c2 d2 k2
  subst c2 d2 k2
  have hl2 := r2.length
  have hsz : its.toArray.size + its2.toArray.size ≤ sizeLine := by rw [List.size_toArray, List.size_toArray]; omega
  have hlong : ¬ (!its.toArray.isEmpty && Builtin.List.listTooLong (its.toArray.size + its2.toArray.size)) = true := by
    rw [notLongL hsz, Bool.and_false]
    exact Bool.false_ne_true
  refine call_meets PySem.F.slot_list_extend ⟨_, e, rfl⟩ PySem.F.entry_list_extend (PySem.F.args_list_extend_2 _ _)
    (meets_extend l its.toArray n b its2.toArray n2 sl hlong (by rw [List.size_toArray]; omega) (by omega)) ⟨e, e2, ?_⟩
  refine ⟨.non, _, I.lset (its' := its ++ its2) hH e (by simp) (r.append r2) ?_, rfl, q⟩
  rw [List.length_append]
  omega
def gExtend : Sl → List D → Option (Sl × D)
  | .lst ds, [.lst es] => if ds.length + es.length ≤ sizeLine then some (.lst (ds ++ es), .non) else none
  | _, _ => none
theorem ow_extend {K : PySem.W.Frag} : OwM K (rExtendL K) gExtend := by
  intro F H a s s' xs ds d Q sf o r hf q
  unfold gExtend at hf
  split at hf
  · split at hf
    · rename_i hz
      cases hf
      obtain ⟨x, rfl, rx⟩ : ∃ x, xs = [x] ∧ Rp K F x (.lst _) := by cases r with | cons r t => cases t; exact ⟨_, rfl, r⟩
      cases o with
      | lst h1 h2 =>
        cases rx with
        | @lst b ys _ rd rk =>
          refine ⟨a, b, _, ys, rfl, rfl, h1, sf.seq rd, by rw [h2.length, rk.length]; exact hz, ?_⟩
          exact q _ _ (.lst upd_same (h2.append rk)) .non
    · cases hf
  · cases hf
theorem jextend {K : PySem.W.Frag} {i : Nat} {x : Str} {p apos cpos : Pos} {ex : Expr} {te : TE} {fe : FE} (hv : PE X (.Name x p) (tVar i)) (h : JE X np ex te fe)
    (hs : starEach [ex] X.env = (false, eval ex X.env) :: starEach [] X.env := by rfl) (hbase : attributeBase (.Name x p) "extend" X.env (eval (.Name x p) X.env) = eval (.Name x p) X.env := by rfl)
    (hfew : ((backTo cpos (starEach (ex :: []) X.env)).all (fun x => !x.1) && (backToKw cpos (keywordEach [] X.env)).all (fun x => x.1.isSome)
      && decide ((ex :: []).length + ([] : List Keyword).length + (if ([] : List Keyword).isEmpty then 0 else 1) < 30)) = true := by rfl)
    (hline : (apos.endLine == cpos.line) = true := by rfl) (hplain : (backTo cpos (starEach [] X.env)).any (·.1) = false := by rfl) (hK : X.K = K := by rfl) :
    JE X np (.Call (.Attribute (.Name x p) "extend" apos) [ex] [] cpos) (tBM K "list" (rExtendL K) (tVar i) (tCons te tNil)) (fBm "list" i gExtend (fCons fe fNil)) := by
  subst hK
  exact ⟨pe_bm PySem.F.plainAttrs_list PySem.F.slot_list_extend PySem.F.type_list_extend mt_extendL hv (pa_cons h.pe pa_nil hs) hbase hfew hline hs hplain, de_bm ow_extend (jes_cons h jes_nil hs).de⟩
end
end M

namespace M
open PySem PySem.Spec PyProof.Rows L2
/-! ### list(text), tuple(text) -/
def chV (z : Str) : List V := z.cps.toList.map fun c => V.str ⟨#[c]⟩
theorem vals_get : ∀ {xs : List V} {us : List Value}, xs.length = us.length → (∀ (j : Nat) (x : V) (u : Value), xs[j]? = some x → us[j]? = some u → RelV x u) → Vals xs us
  | [], [], _, _ => .nil
  | x :: xs, u :: us, hl, h => .cons (h 0 x u rfl rfl) (vals_get (by simpa using hl) fun j x u h1 h2 => h (j + 1) x u (by simpa using h1) (by simpa using h2))
  | [], _ :: _, hl, _ => by simp at hl
  | _ :: _, [], hl, _ => by simp at hl
theorem ch_vals {z : Str} {acc : Array Value} (h : ItemsOf (SignAt z) acc z.cps.size) : Vals (chV z) acc.toList := by
  refine vals_get ?_ fun j x u h1 h2 => ?_
  · rw [chV, List.length_map, Array.length_toList, Array.length_toList, h.1]
  · obtain ⟨c, t, h3, rfl⟩ := h.2 j u (by rw [← Array.getElem?_toList]; exact h2)
    rw [chV, List.getElem?_map, Array.getElem?_toList, h3] at h1
    cases h1
    exact ⟨t, rfl⟩
theorem ch_rps {K : PySem.W.Frag} {F : Hp} {z : Str} (h : sOk z) : Rps K F (chV z) (chars z) := by
  have : ∀ cs : List Nat, (∀ c ∈ cs, c < 1114112) → Rps K F (cs.map fun c => V.str ⟨#[c]⟩) (cs.map fun c => D.str ⟨#[c]⟩) := by
    intro cs
    induction cs with
    | nil => intro _; exact .nil
    | cons c cs ih =>
      intro hc
      exact .cons (.str _ (fun x hx => by simp at hx; subst hx; exact hc x (List.mem_cons_self ..))) (ih fun x hx => hc x (List.mem_cons_of_mem _ hx))
  exact this _ h
def rListS : List V → Hp → VK → Prop := fun xs H Q => ∃ z, xs = [.str z] ∧ z.length ≤ sizeLine ∧ ∀ l, H l = none → Q (.ref l) (upd H l (.lst (chV z)))
def rTupS : List V → Hp → VK → Prop := fun xs H Q => ∃ z, xs = [.str z] ∧ z.length ≤ sizeLine ∧ ∀ l, H l = none → Q (.ref l) (upd H l (.tup (chV z)))
section
variable {X : Cx} {K : PySem.W.Frag}
theorem chV_len (z : Str) : (chV z).length = z.length := by rw [chV, List.length_map, Array.length_toList]; rfl
theorem call_listS (hh : X.A.handled = none) : CallR X (.type "list") rListS := by
  intro pins s σ H xs us Q I r h
  obtain ⟨z, rfl, hz, q⟩ := h
  obtain ⟨u, rfl, t, rfl⟩ := vals1 r
  refine call_list_str hh z t (fun h' tk acc' c' kp e it => ?_) hz
  exact ⟨.ref s.heap.objs.size, _, I.laid (t' := tk) kp (Nat.le_refl _) (show ObjOk X.prog X.w _ h' _ (.lst (chV z)) from ⟨by rw [chV_len]; exact hz, acc'.toList, c', ch_vals it, by rw [Array.toArray_toList]; exact e⟩), rfl, q _ (I.hok.fresh (Nat.le_refl _))⟩
theorem call_tupS (hh : X.A.handled = none) : CallR X (.type "tuple") rTupS := by
  intro pins s σ H xs us Q I r h
  obtain ⟨z, rfl, hz, q⟩ := h
  obtain ⟨u, rfl, t, rfl⟩ := vals1 r
  refine call_tuple_str hh z t (fun h' tk acc kp it => ?_) hz
  have I1 : Inv X pins σ H { s with heap := h', toks := tk } := I.kept (t' := tk) kp
  have I2 : Inv X pins σ (upd H h'.objs.size (.tup (chV z))) { s with heap := h'.push { cls := .type "tuple", data := .seq acc }, toks := tk } :=
    I1.laid (t' := tk) (fun b o e => Heap.get?_push_of_some _ e) (Nat.le_refl _) (show ObjOk X.prog X.w _ _ _ (.tup (chV z)) from ⟨by rw [chV_len]; exact hz, acc.toList, ch_vals it, by rw [Array.toArray_toList]; exact IsTup.new _ _⟩)
  exact ⟨.ref h'.objs.size, _, I2, rfl, q _ (I1.hok.fresh (Nat.le_refl _))⟩
def tupX : List D → Option D
  | [.str z] => if z.length ≤ sizeLine then some (.tup (chars z)) else none
  | ds => tupD ds
def lstX : List D → Option D
  | [.str z] => if z.length ≤ sizeLine then some (.lst (chars z)) else none
  | ds => lstD ds
def rTupX (K : PySem.W.Frag) : List V → Hp → VK → Prop := fun xs H Q => rTupS xs H Q ∨ ∃ p ys, xs = [.ref p] ∧ ((SqL K H p ys ∧ ∀ l, H l = none → Q (.ref l) (upd H l (.tup ys))) ∨ (SqT K H p ys ∧ Q (.ref p) H))
def rLstX (K : PySem.W.Frag) : List V → Hp → VK → Prop := fun xs H Q => rListS xs H Q ∨ ∃ p ys, xs = [.ref p] ∧ (SqL K H p ys ∨ SqT K H p ys) ∧ ∀ l, H l = none → Q (.ref l) (upd H l (.lst ys))
theorem otupX (hh : X.A.handled = none) (hK : X.K = K := by rfl) : CallR X (.type "tuple") (rTupX K) := by subst hK; exact CallR.or (call_tupS hh) call_tuple_of
theorem olstX (hh : X.A.handled = none) (hK : X.K = K := by rfl) : CallR X (.type "list") (rLstX K) := by subst hK; exact CallR.or (call_listS hh) call_list_of
theorem cm_tupX : CallM K (rTupX K) tupX := by
  intro B F e σ H xs ds d Q I r hf q
  unfold tupX at hf
  split at hf
  · rename_i z
    split at hf
    · rename_i hz
      cases hf
      obtain ⟨x, rfl, rx⟩ := r.one
      obtain ⟨ex, ok⟩ := rx.str
      subst ex
      refine .inl ⟨z, rfl, hz, fun p hp => ?_⟩
      have sm := same_upd (o := .tup (chV z)) (I.free hp).1
      exact q _ _ _ sm (I.laid hp) (.tup (.inl (.inl upd_same)) ((ch_rps ok).mono sm))
    · cases hf
  · exact .inr (cm_tup B F e σ H xs ds d Q I r hf q)
theorem cm_lstX : CallM K (rLstX K) lstX := by
  intro B F e σ H xs ds d Q I r hf q
  unfold lstX at hf
  split at hf
  · rename_i z
    split at hf
    · rename_i hz
      cases hf
      obtain ⟨x, rfl, rx⟩ := r.one
      obtain ⟨ex, ok⟩ := rx.str
      subst ex
      refine .inl ⟨z, rfl, hz, fun p hp => ?_⟩
      have sm := same_upd (o := .lst (chV z)) (I.free hp).1
      exact q _ _ _ sm (I.laid hp) (.lst (.inl (.inl upd_same)) ((ch_rps ok).mono sm))
    · cases hf
  · exact .inr (cm_lst B F e σ H xs ds d Q I r hf q)
theorem d_tupXL (xs : List D) : tupX [.lst xs] = some (.tup xs) := rfl
theorem d_tupXT (xs : List D) : tupX [.tup xs] = some (.tup xs) := rfl
theorem d_tupXS (z : Str) : tupX [.str z] = if z.length ≤ sizeLine then some (.tup (chars z)) else none := rfl
theorem d_lstXL (xs : List D) : lstX [.lst xs] = some (.lst xs) := rfl
theorem d_lstXT (xs : List D) : lstX [.tup xs] = some (.lst xs) := rfl
theorem d_lstXS (z : Str) : lstX [.str z] = if z.length ≤ sizeLine then some (.lst (chars z)) else none := rfl
theorem g_extend (ds es : List D) : gExtend (.lst ds) [.lst es] = if ds.length + es.length ≤ sizeLine then some (.lst (ds ++ es), .non) else none := rfl
theorem c_fFld (c f : Str) (ka : FK) (s : Sl) (e : Sls) : fFld c f ka (s :: e) = (ka (s :: e)).bind fun p => (p.2 p.1).bind fun d => match d with
  | .ob c' es => if c' = c then (lookK (.inr f) es).bind fun d' => some (p.1, d') else none
  | _ => none := rfl
theorem c_fMeth (c m : Str) (mir : FC) (ko : FK) (k : FA) (s : Sl) (e : Sls) : fMeth c m mir ko k (s :: e) = (ko (s :: e)).bind fun p => (p.2 p.1).bind fun d => match d with
  | .ob c' es => if c' = c ∧ lookK (.inr m) es = none then (k p.1).bind fun q => (fCall2 mir q.1 (.im d :: q.2)).bind fun r => r.2.see.bind fun d' => some (r.1, d') else none
  | _ => none := rfl
theorem c_fMake (c : Str) (g : List D → Option (List (Key × D))) (fs : FEs) (s : Sl) (e : Sls) : fMake c g fs (s :: e) = (fs (s :: e)).bind fun p => (g p.2).bind fun es => some (p.1, .ob c es) := rfl
end
end M

namespace M
open PySem PySem.Spec PyProof.Rows L2
section
variable {X : Cx} {c : Str}
theorem jin_one {K : PySem.W.Frag} {f x : Str} {p tpos pos : Pos} {ex : Expr} {te : TE} {fe : FE} (hc : ClsF K c f) (hv : PE X (.Name x p) (tVar 0)) (h : JE X 0 ex te fe) (hs : swapsWith ex (some (.Attribute (.Name x p) f tpos)) pos.line X.env = pure false := by rfl) (hK : X.K = K := by rfl) :
    JIn X c [.Assign [.Attribute (.Name x p) f tpos] ex pos] (sFld K (tVar 0) te f) [(f, fe)] := by
  subst hK
  exact ji_one hc hv h hs
theorem jin_cons {K : PySem.W.Frag} {f x : Str} {p tpos pos : Pos} {ex : Expr} {te : TE} {fe : FE} {ss : List Stmt} {t : TS} {fs : List (Str × FE)} (hc : ClsF K c f) (hv : PE X (.Name x p) (tVar 0)) (h : JE X 0 ex te fe) (h2 : JIn X c ss t fs) (hs : swapsWith ex (some (.Attribute (.Name x p) f tpos)) pos.line X.env = pure false := by rfl) (hK : X.K = K := by rfl) :
    JIn X c (.Assign [.Attribute (.Name x p) f tpos] ex pos :: ss) (tSeq (sFld K (tVar 0) te f) t) ((f, fe) :: fs) := by
  subst hK
  exact ji_cons hc hv h h2 hs
end
end M

namespace M
open PySem PySem.Spec PyProof.Rows L2
mutual
def T.Nf : T → Prop
  | .num _ => True
  | .name _ => True
  | .make _ => True
  | .app a b => a.Nf ∧ b.Nf
  | .op _ a b => a.Nf ∧ b.Nf
  | .fn _ _ => False
  | .lt ps b => (plI ps).length ≤ 9 ∧ ps.Nf ∧ b.Nf
  | .cs a ws => a.Nf ∧ (wlI ws).length ≤ 9 ∧ ws.Nf
def PL.Nf : PL → Prop
  | .nil => True
  | .cons _ t r => t.Nf ∧ r.Nf
def WL.Nf : WL → Prop
  | .nil => True
  | .cons _ _ t r => t.Nf ∧ r.Nf
end
theorem pl_nf : ∀ {ps : PL}, ps.Nf → ∀ p ∈ plI ps, p.2.Nf ∧ p.2.h ≤ ps.h
  | .nil, _, p, h => nomatch h
  | .cons x t r, ok, p, h => by
    rcases List.mem_cons.mp h with rfl | h
    · exact ⟨ok.1, by rw [PL.h]; exact Nat.le_max_left _ _⟩
    · obtain ⟨a, b⟩ := pl_nf ok.2 p h
      exact ⟨a, by rw [PL.h]; omega⟩
theorem wl_nf : ∀ {ps : WL}, ps.Nf → ∀ p ∈ wlI ps, p.2.2.Nf ∧ p.2.2.h ≤ ps.h
  | .nil, _, p, h => nomatch h
  | .cons x xs t r, ok, p, h => by
    rcases List.mem_cons.mp h with rfl | h
    · exact ⟨ok.1, by rw [WL.h]; exact Nat.le_max_left _ _⟩
    · obtain ⟨a, b⟩ := wl_nf ok.2 p h
      exact ⟨a, by rw [WL.h]; omega⟩
end M

namespace K52
open PySem PySem.Spec PyProof.Rows L2 M
def b_Lifter_init : List (Str × FE) := [("head", fV 0 1), ("tops", fV 0 2), ("given", fC (.int 0)), ("made_rows", fO (oDic []))]
def m_Lifter_init : List D → Option (List (Key × D)) := gIn 3 3 b_Lifter_init
abbrev b_Lifter_lifted (m_Lifter_lifted : FC) : FS := sSeq (sIf (fTest (fOp eqD (kE (fOp ixD (kVar 1) (kE (fC (.int 0))))) (kE (fC (.str "fun"))))) (sRet fNever) sNil) (sSeq (sIf (fTest (fOp eqD (kE (fOp ixD (kVar 1) (kE (fC (.int 0))))) (kE (fC (.str "app"))))) (sRet (fTup (fCons (fC (.str "app")) (fCons (fMeth "Lifter" "lifted" m_Lifter_lifted (kVar 0) (aIm (fOp ixD (kVar 1) (kE (fC (.int 1)))) aNil)) (fCons (fMeth "Lifter" "lifted" m_Lifter_lifted (kVar 0) (aIm (fOp ixD (kVar 1) (kE (fC (.int 2)))) aNil)) fNil))))) sNil) (sSeq (sIf (fTest (fOp eqD (kE (fOp ixD (kVar 1) (kE (fC (.int 0))))) (kE (fC (.str "op"))))) (sRet (fTup (fCons (fC (.str "op")) (fCons (fOp ixD (kVar 1) (kE (fC (.int 1)))) (fCons (fMeth "Lifter" "lifted" m_Lifter_lifted (kVar 0) (aIm (fOp ixD (kVar 1) (kE (fC (.int 2)))) aNil)) (fCons (fMeth "Lifter" "lifted" m_Lifter_lifted (kVar 0) (aIm (fOp ixD (kVar 1) (kE (fC (.int 3)))) aNil)) fNil)))))) sNil) (sSeq (sIf (fTest (fOp eqD (kE (fOp ixD (kVar 1) (kE (fC (.int 0))))) (kE (fC (.str "let"))))) (sSeq (sSet (fLc (fIt (fOp ixD (kVar 1) (kE (fC (.int 1))))) [5, 6] (bTup 2 (bCons (bName 5) (bCons (bName 6) bNil))) fYes (fTup (fCons (fV 0 5) (fCons (fMeth "Lifter" "lifted" m_Lifter_lifted (kVar 0) (aIm (fV 0 6) aNil)) fNil)))) (bName 2)) (sRet (fTup (fCons (fC (.str "let")) (fCons (fCB tupX (kCons (kVar 2) kNil)) (fCons (fMeth "Lifter" "lifted" m_Lifter_lifted (kVar 0) (aIm (fOp ixD (kVar 1) (kE (fC (.int 2)))) aNil)) fNil)))))) sNil) (sSeq (sIf (fTest (fOp eqD (kE (fOp ixD (kVar 1) (kE (fC (.int 0))))) (kE (fC (.str "case"))))) (sSeq (sSet (fMeth "Lifter" "lifted" m_Lifter_lifted (kVar 0) (aIm (fOp ixD (kVar 1) (kE (fC (.int 1)))) aNil)) (bName 3)) (sSeq (sSet (fLc (fIt (fOp ixD (kVar 1) (kE (fC (.int 2))))) [7, 8, 9] (bTup 3 (bCons (bName 7) (bCons (bName 8) (bCons (bName 9) bNil)))) fYes (fTup (fCons (fV 0 7) (fCons (fV 0 8) (fCons (fMeth "Lifter" "lifted" m_Lifter_lifted (kVar 0) (aIm (fV 0 9) aNil)) fNil))))) (bName 4)) (sRet (fTup (fCons (fC (.str "case")) (fCons (fV 0 3) (fCons (fCB tupX (kCons (kVar 4) kNil)) fNil))))))) sNil) (sRet (fV 0 1))))))
def m_Lifter_lifted : Nat → FC
  | 0 => fun _ => none
  | n + 1 => callF 10 2 0 (b_Lifter_lifted (m_Lifter_lifted n))
abbrev b_rows_of_def : FS := sSeq (sSet (fMake "Lifter" m_Lifter_init (fCons (fV 0 0) (fCons (fV 0 3) fNil))) (bName 4)) (sSeq (sSet (fTup (fCons (fV 0 0) (fCons (fV 0 1) (fCons (fMeth "Lifter" "lifted" (m_Lifter_lifted 20) (kVar 4) (aIm (fV 0 2) aNil)) fNil)))) (bName 5)) (sRet (fOp addD (kE (fLst (fCons (fV 0 5) fNil))) (kE (fLc (fIt (fCB sortedD (kCons (kE (fFld "Lifter" "made_rows" (kVar 4))) kNil))) [6] (bName 6) fYes (fOp ixD (kE (fFld "Lifter" "made_rows" (kVar 4))) (kVar 6)))))))
def m_rows_of_def : FC := callF 7 4 0 b_rows_of_def
abbrev b_rows_of : FS := sSeq (sSet (fLc (fIt (fOp ixD (kVar 0) (kE (fC (.int 1))))) [3, 4, 5] (bTup 3 (bCons (bName 3) (bCons (bName 4) (bCons (bName 5) bNil)))) fYes (fV 0 3)) (bName 1)) (sSeq (sSetO 2 (oLst fNil)) (sSeq (sFor (fIt (fOp ixD (kVar 0) (kE (fC (.int 1))))) (bTup 3 (bCons (bName 3) (bCons (bName 4) (bCons (bName 5) bNil)))) (sDrop (fBm "list" 2 gExtend (fCons (fCall m_rows_of_def (aIm (fV 0 3) (aIm (fV 0 4) (aIm (fV 0 5) (aIm (fV 0 1) aNil))))) fNil)))) (sRet (fCB tupX (kCons (kVar 2) kNil)))))
def m_rows_of : FC := callF 6 1 0 b_rows_of
abbrev b__law_bag : FS := sRetO (oLst (fCons (fCB maxD (kCons (kE (fC (.int 0))) (kCons (kE (fOp subD (kVar 0) (kE (fOp powD (kE (fC (.int 10))) (kE (fC (.int 18))))))) kNil))) (fCons (fOp modD (kE (fOp addD (kE (fOp mulD (kVar 0) (kE (fC (.int 7919))))) (kE (fOp mulD (kE (fC (.int 104729))) (kE (fOp addD (kVar 1) (kE (fC (.int 1))))))))) (kE (fC (.int 2147483647)))) (fCons (fV 0 1) fNil))))
def m__law_bag : FC := callF 2 2 0 b__law_bag
abbrev b__law_draw : FS := sSeq (sIf (fTest (fOp gtD (kE (fOp ixD (kVar 0) (kE (fC (.int 0))))) (kE (fC (.int 0))))) (sSeq (sSet (fOp modD (kE (fOp ixD (kVar 0) (kE (fC (.int 0))))) (kVar 1)) (bName 2)) (sSeq (sSetIx 0 (fOp fdivD (kE (fOp ixD (kVar 0) (kE (fC (.int 0))))) (kVar 1)) (fC (.int 0))) (sRet (fV 1 2)))) sNil) (sSeq (sAugC 0 2 1) (sSeq (sSetIx 0 (fOp modD (kE (fOp addD (kE (fOp addD (kE (fOp mulD (kE (fOp ixD (kVar 0) (kE (fC (.int 1))))) (kE (fOp ixD (kVar 0) (kE (fC (.int 1))))))) (kE (fOp mulD (kE (fC (.int 2654435))) (kE (fOp ixD (kVar 0) (kE (fC (.int 2))))))))) (kE (fC (.int 12345))))) (kE (fC (.int 2147483629)))) (fC (.int 1))) (sRet (fOp modD (kE (fOp fdivD (kE (fOp ixD (kVar 0) (kE (fC (.int 1))))) (kE (fC (.int 64))))) (kVar 1)))))
def m__law_draw : FC := callF 3 2 1 b__law_draw
abbrev b__law_term (m__law_term : FC) : FS := sSeq (sSet (fCall m__law_draw (aOw 0 (aIm (fC (.int 8)) aNil))) (bName 3)) (sSeq (sIf (fOr (fTest (fOp eqD (kVar 2) (kE (fC (.int 0))))) (fTest (fOp ltD (kVar 3) (kE (fC (.int 2)))))) (sSeq (sSet (fLst (fCons (fTup (fCons (fC (.str "num")) (fCons (fCall m__law_draw (aOw 0 (aIm (fC (.int 9)) aNil))) fNil))) (fCons (fTup (fCons (fC (.str "make")) (fCons (fOp ixD (kE (fLst (fCons (fC (.str "Nil")) (fCons (fC (.str "True")) (fCons (fC (.str "Cons")) fNil))))) (kE (fCall m__law_draw (aOw 0 (aIm (fC (.int 3)) aNil))))) fNil))) fNil))) (bName 4)) (sRet (fOp ixD (kE (fOp addD (kVar 4) (kE (fLc (fIt (fV 1 1)) [6] (bName 6) fYes (fTup (fCons (fC (.str "name")) (fCons (fV 1 6) fNil))))))) (kE (fCall m__law_draw (aOw 0 (aIm (fOp addD (kE (fC (.int 2))) (kE (fCB lenD (kCons (kVar 1) kNil)))) aNil))))))) sNil) (sSeq (sIf (fTest (fOp ltD (kVar 3) (kE (fC (.int 4))))) (sSeq (sSet (fCall m__law_term (aOw 0 (aIm (fV 1 1) (aIm (fOp subD (kVar 2) (kE (fC (.int 1)))) aNil)))) (bName 5)) (sRet (fTup (fCons (fC (.str "app")) (fCons (fV 1 5) (fCons (fCall m__law_term (aOw 0 (aIm (fV 1 1) (aIm (fOp subD (kVar 2) (kE (fC (.int 1)))) aNil)))) fNil)))))) sNil) (sSeq (sIf (fTest (fOp eqD (kVar 3) (kE (fC (.int 4))))) (sSeq (sSet (fCall m__law_term (aOw 0 (aIm (fV 1 1) (aIm (fOp subD (kVar 2) (kE (fC (.int 1)))) aNil)))) (bName 5)) (sRet (fTup (fCons (fC (.str "op")) (fCons (fOp ixD (kE (fLst (fCons (fC (.str "+")) (fCons (fC (.str "<")) (fCons (fC (.str "==")) fNil))))) (kE (fCall m__law_draw (aOw 0 (aIm (fC (.int 3)) aNil))))) (fCons (fV 1 5) (fCons (fCall m__law_term (aOw 0 (aIm (fV 1 1) (aIm (fOp subD (kVar 2) (kE (fC (.int 1)))) aNil)))) fNil))))))) sNil) (sSeq (sSet (fOp ixD (kE (fC (.str "pqrst"))) (kE (fOp subD (kVar 2) (kE (fC (.int 1)))))) (bName 6)) (sSeq (sIf (fTest (fOp eqD (kVar 3) (kE (fC (.int 5))))) (sSeq (sSet (fCall m__law_term (aOw 0 (aIm (fOp addD (kVar 1) (kE (fLst (fCons (fV 1 6) fNil)))) (aIm (fOp subD (kVar 2) (kE (fC (.int 1)))) aNil)))) (bName 7)) (sRet (fTup (fCons (fC (.str "let")) (fCons (fTup (fCons (fTup (fCons (fV 1 6) (fCons (fV 1 7) fNil))) fNil)) (fCons (fCall m__law_term (aOw 0 (aIm (fOp addD (kVar 1) (kE (fLst (fCons (fV 1 6) fNil)))) (aIm (fOp subD (kVar 2) (kE (fC (.int 1)))) aNil)))) fNil)))))) sNil) (sSeq (sSet (fCall m__law_term (aOw 0 (aIm (fV 1 1) (aIm (fOp subD (kVar 2) (kE (fC (.int 1)))) aNil)))) (bName 5)) (sSeq (sSet (fTup (fCons (fC (.str "Nil")) (fCons (fTup fNil) (fCons (fCall m__law_term (aOw 0 (aIm (fV 1 1) (aIm (fOp subD (kVar 2) (kE (fC (.int 1)))) aNil)))) fNil)))) (bName 8)) (sRet (fTup (fCons (fC (.str "case")) (fCons (fV 1 5) (fCons (fTup (fCons (fV 1 8) (fCons (fTup (fCons (fC (.str "Cons")) (fCons (fTup (fCons (fV 1 6) (fCons (fOp addD (kVar 6) (kE (fC (.str "x")))) fNil))) (fCons (fCall m__law_term (aOw 0 (aIm (fOp addD (kVar 1) (kE (fLst (fCons (fV 1 6) fNil)))) (aIm (fOp subD (kVar 2) (kE (fC (.int 1)))) aNil)))) fNil)))) fNil))) fNil))))))))))))
def m__law_term : Nat → FC
  | 0 => fun _ => none
  | n + 1 => callF 9 3 1 (b__law_term (m__law_term n))
abbrev b_law : FS := sSeq (sSet (fTup (fCons (fTup (fCons (fC (.str "List")) (fCons (fTup (fCons (fC (.str "a")) fNil)) (fCons (fTup (fCons (fTup (fCons (fC (.str "Nil")) (fCons (fTup fNil) fNil))) (fCons (fTup (fCons (fC (.str "Cons")) (fCons (fTup (fCons (fTup (fCons (fC (.str "var")) (fCons (fC (.str "a")) fNil))) (fCons (fTup (fCons (fC (.str "data")) (fCons (fC (.str "List")) (fCons (fTup (fCons (fTup (fCons (fC (.str "var")) (fCons (fC (.str "a")) fNil))) fNil)) fNil)))) fNil))) fNil))) fNil))) fNil)))) fNil)) (bName 1)) (sSeq (sFor (fEnumX (fCons (fOp addD (kE (fLst (fCons (fCB lenD (kCons (kVar 0) kNil)) fNil))) (kE (fSl (kVar 0) fNoPart (fPart (fC (.int 20)))))) fNil)) (bTup 2 (bCons (bName 2) (bCons (bName 3) bNil))) (sSeq (sSetO 4 (oCall m__law_bag (aIm (fV 0 3) (aIm (fV 0 2) aNil)))) (sSeq (sSet (fSl (kE (fLst (fCons (fC (.str "first")) (fCons (fC (.str "second")) (fCons (fC (.str "third")) (fCons (fC (.str "own")) (fCons (fC (.str "abcdefgh")) (fCons (fC (.str "z")) fNil)))))))) fNoPart (fPart (fOp addD (kE (fC (.int 1))) (kE (fCall m__law_draw (aOw 4 (aIm (fC (.int 6)) aNil))))))) (bName 5)) (sSeq (sSetO 6 (oLst fNil)) (sSeq (sFor (fIt (fV 0 5)) (bName 7) (sSeq (sSet (fSl (kE (fC (.str "abc"))) fNoPart (fPart (fCall m__law_draw (aOw 4 (aIm (fC (.int 4)) aNil))))) (bName 8)) (sDrop (fAppend 6 (fTup (fCons (fV 0 7) (fCons (fCB tupX (kCons (kVar 8) kNil)) (fCons (fCall (m__law_term 10) (aOw 4 (aIm (fOp addD (kVar 5) (kE (fCB lstX (kCons (kVar 8) kNil)))) (aIm (fCall m__law_draw (aOw 4 (aIm (fC (.int 6)) aNil))) aNil)))) fNil)))))))) (sIf (fTest (fOp neD (kE (fCall m_rows_of (aIm (fTup (fCons (fV 0 1) (fCons (fCB tupX (kCons (kVar 6) kNil)) fNil))) aNil))) (kE (fCB tupX (kCons (kVar 6) kNil))))) (sRet (fC (.bl false))) sNil)))))) (sRet (fC (.bl true))))
def m_law : FC := callF 9 1 0 b_law
end K52

namespace K52
open PySem PySem.Spec PyProof.Rows L2 M
def topS (i : Nat) : Stmt := PySem.Challenge.pw_lateloom_k52_rows_without_functions.main.body.getD i (.Pass ⟨0, 0, 0, 0⟩)
section
variable {P : Program} {w : World} {K : PySem.W.Frag} {mg : Str → Option Value} {base : Heap}
abbrev ns_Lifter_init : List Str := ["self", "name", "defs"]
theorem sc_Lifter_init : FnScope ns_Lifter_init ["self", "name", "defs"] (defScope (inClass (topS 6) 0)) := ⟨rfl, rfl, rfl, by decide +kernel, rfl, by decide +kernel, by decide +kernel⟩
set_option maxHeartbeats 4000000 in
theorem w_Lifter_init (S : ISrc K mg "Lifter" (inClass (topS 6) 0) ["self", "name", "defs"]) (cf_Lifter_made_rows : ClsF K "Lifter" "made_rows") (cf_Lifter_given : ClsF K "Lifter" "given") (cf_Lifter_tops : ClsF K "Lifter" "tops") (cf_Lifter_head : ClsF K "Lifter" "head") : MkOk P w K mg base "Lifter" ["self", "name", "defs"] 1 3 m_Lifter_init := by
  exact isrc_ok (fs := b_Lifter_init) S sc_Lifter_init rfl (by decide) (by decide) (fun q f cdv A outer s H E hr =>
    have hu := hu200 hr
    jin_cons (K := K) cf_Lifter_head (pv 0) (je_var 1 (pv 1)) (jin_cons (K := K) cf_Lifter_tops (pv 0) (je_var 2 (pv 2)) (jin_cons (K := K) cf_Lifter_given (pv 0) je_int (jin_one (K := K) cf_Lifter_made_rows (pv 0) (je_o jow_dic0))))) rfl
abbrev ns_Lifter_lifted : List Str := ["self", "term", "parts", "looked_at", "ways", "name", "part", "maker", "names", "body"]
theorem sc_Lifter_lifted : FnScope ns_Lifter_lifted ["self", "term"] (defScope (inClass (topS 6) 3)) := ⟨rfl, rfl, rfl, by decide +kernel, rfl, by decide +kernel, by decide +kernel⟩
set_option maxHeartbeats 4000000 in
theorem t_Lifter_lifted (n : Nat) (S : MSrc K "Lifter" "lifted" (inClass (topS 6) 3) ["self", "term"]) (h_tuple : mg "tuple" = none) (c_Lifter_lifted : MethOk P w K mg base "Lifter" "lifted" ["self", "term"] (n + 1) 2 (m_Lifter_lifted n)) : MethOk P w K mg base "Lifter" "lifted" ["self", "term"] (n + 1 + 1) 2 (m_Lifter_lifted (n + 1)) := by
  exact MethOk.level (msrc_ok (k := n + 1) (np := 0) (fb := b_Lifter_lifted (m_Lifter_lifted n)) S sc_Lifter_lifted rfl (by decide) (fun q f cdv A outer s H E hr =>
    have hu := hu200 hr
    jss_cons (js_if (jt_cmp (oeq (K := K) hu) (om_eq (K := K)) (JE.k (je_ix (oix (K := K) hu) (om_ix (K := K)) (jk_var 1 (pv 1)) (JE.k je_int) (fun _ _ => rfl))) (JE.k je_str) (nomark _)) (jss_one (js_ret je_never)) jss_nil) (jss_cons (js_if (jt_cmp (oeq (K := K) hu) (om_eq (K := K)) (JE.k (je_ix (oix (K := K) hu) (om_ix (K := K)) (jk_var 1 (pv 1)) (JE.k je_int) (fun _ _ => rfl))) (JE.k je_str) (nomark _)) (jss_one (js_ret (je_tup (jes_cons je_str (jes_cons (jmeth (K := K) c_Lifter_lifted (hr.mono (by omega)) (jk_var 0 (pv 0)) (ja_im (je_ix (oix (K := K) hu) (om_ix (K := K)) (jk_var 1 (pv 1)) (JE.k je_int) (fun _ _ => rfl)) ja_nil)) (jes_cons (jmeth (K := K) c_Lifter_lifted (hr.mono (by omega)) (jk_var 0 (pv 0)) (ja_im (je_ix (oix (K := K) hu) (om_ix (K := K)) (jk_var 1 (pv 1)) (JE.k je_int) (fun _ _ => rfl)) ja_nil)) jes_nil)))))) jss_nil) (jss_cons (js_if (jt_cmp (oeq (K := K) hu) (om_eq (K := K)) (JE.k (je_ix (oix (K := K) hu) (om_ix (K := K)) (jk_var 1 (pv 1)) (JE.k je_int) (fun _ _ => rfl))) (JE.k je_str) (nomark _)) (jss_one (js_ret (je_tup (jes_cons je_str (jes_cons (je_ix (oix (K := K) hu) (om_ix (K := K)) (jk_var 1 (pv 1)) (JE.k je_int) (fun _ _ => rfl)) (jes_cons (jmeth (K := K) c_Lifter_lifted (hr.mono (by omega)) (jk_var 0 (pv 0)) (ja_im (je_ix (oix (K := K) hu) (om_ix (K := K)) (jk_var 1 (pv 1)) (JE.k je_int) (fun _ _ => rfl)) ja_nil)) (jes_cons (jmeth (K := K) c_Lifter_lifted (hr.mono (by omega)) (jk_var 0 (pv 0)) (ja_im (je_ix (oix (K := K) hu) (om_ix (K := K)) (jk_var 1 (pv 1)) (JE.k je_int) (fun _ _ => rfl)) ja_nil)) jes_nil))))))) jss_nil) (jss_cons (js_if (jt_cmp (oeq (K := K) hu) (om_eq (K := K)) (JE.k (je_ix (oix (K := K) hu) (om_ix (K := K)) (jk_var 1 (pv 1)) (JE.k je_int) (fun _ _ => rfl))) (JE.k je_str) (nomark _)) (jss_cons (js_setLc (i := 2) (own := [("name", 5), ("part", 6)]) (by rfl) sc_Lifter_lifted.nd (jseq (K := K) (je_ix (oix (K := K) hu) (om_ix (K := K)) (jk_var 1 (pv 1)) (JE.k je_int) (fun _ _ => rfl))) (blkOk_by (N := ns_Lifter_lifted) (sc := defScope (inClass (topS 6) 3)) (by decide +kernel)) (fun _ _ _ _ _ => jtup (K := K) (by rfl) (jgs_cons (jname (i := 5) sc_Lifter_lifted.nd) (jgs_cons (jname (i := 6) sc_Lifter_lifted.nd) jgs_nil))) (fun _ _ _ _ _ => jts_nil) (fun _ _ _ _ _ => je_tup (jes_cons (je_var 5 (pv 5)) (jes_cons (jmeth (K := K) c_Lifter_lifted (hr.mono (by omega)) (jk_var 0 (pv 0)) (ja_im (je_var 6 (pv 6)) ja_nil)) jes_nil)))) (jss_one (js_ret (je_tup (jes_cons je_str (jes_cons (je_callTy (otupX (K := K) hr.hd) (cm_tupX (K := K)) (by rfl) h_tuple (by decide +kernel) (jks_cons (jk_var 2 (pv 2)) jks_nil)) (jes_cons (jmeth (K := K) c_Lifter_lifted (hr.mono (by omega)) (jk_var 0 (pv 0)) (ja_im (je_ix (oix (K := K) hu) (om_ix (K := K)) (jk_var 1 (pv 1)) (JE.k je_int) (fun _ _ => rfl)) ja_nil)) jes_nil))))))) jss_nil) (jss_cons (js_if (jt_cmp (oeq (K := K) hu) (om_eq (K := K)) (JE.k (je_ix (oix (K := K) hu) (om_ix (K := K)) (jk_var 1 (pv 1)) (JE.k je_int) (fun _ _ => rfl))) (JE.k je_str) (nomark _)) (jss_cons (js_set (i := 3) sc_Lifter_lifted.nd (jmeth (K := K) c_Lifter_lifted (hr.mono (by omega)) (jk_var 0 (pv 0)) (ja_im (je_ix (oix (K := K) hu) (om_ix (K := K)) (jk_var 1 (pv 1)) (JE.k je_int) (fun _ _ => rfl)) ja_nil))) (jss_cons (js_setLc (i := 4) (own := [("maker", 7), ("names", 8), ("body", 9)]) (by rfl) sc_Lifter_lifted.nd (jseq (K := K) (je_ix (oix (K := K) hu) (om_ix (K := K)) (jk_var 1 (pv 1)) (JE.k je_int) (fun _ _ => rfl))) (blkOk_by (N := ns_Lifter_lifted) (sc := defScope (inClass (topS 6) 3)) (by decide +kernel)) (fun _ _ _ _ _ => jtup (K := K) (by rfl) (jgs_cons (jname (i := 7) sc_Lifter_lifted.nd) (jgs_cons (jname (i := 8) sc_Lifter_lifted.nd) (jgs_cons (jname (i := 9) sc_Lifter_lifted.nd) jgs_nil)))) (fun _ _ _ _ _ => jts_nil) (fun _ _ _ _ _ => je_tup (jes_cons (je_var 7 (pv 7)) (jes_cons (je_var 8 (pv 8)) (jes_cons (jmeth (K := K) c_Lifter_lifted (hr.mono (by omega)) (jk_var 0 (pv 0)) (ja_im (je_var 9 (pv 9)) ja_nil)) jes_nil))))) (jss_one (js_ret (je_tup (jes_cons je_str (jes_cons (je_var 3 (pv 3)) (jes_cons (je_callTy (otupX (K := K) hr.hd) (cm_tupX (K := K)) (by rfl) h_tuple (by decide +kernel) (jks_cons (jk_var 4 (pv 4)) jks_nil)) jes_nil)))))))) jss_nil) (jss_one (js_ret (je_var 1 (pv 1))))))))) (by rw [m_Lifter_lifted] <;> rfl)) (by omega)
theorem w_Lifter_lifted (S_Lifter_lifted : MSrc K "Lifter" "lifted" (inClass (topS 6) 3) ["self", "term"]) (h_tuple : mg "tuple" = none) : ∀ n : Nat, MethOk P w K mg base "Lifter" "lifted" ["self", "term"] (n + 1) 2 (m_Lifter_lifted n)
  | 0 => (msrc_none S_Lifter_lifted (fun _ => by rw [m_Lifter_lifted] <;> rfl)).level (Nat.zero_le _)
  | n + 1 => by
    have ih := w_Lifter_lifted S_Lifter_lifted h_tuple n
    exact t_Lifter_lifted n S_Lifter_lifted h_tuple ih
abbrev ns_rows_of_def : List Str := ["name", "params", "body", "tops", "lifter", "first", "number"]
theorem sc_rows_of_def : FnScope ns_rows_of_def ["name", "params", "body", "tops"] (defScope (topS 7)) := ⟨rfl, rfl, rfl, by decide +kernel, rfl, by decide +kernel, by decide +kernel⟩
set_option maxHeartbeats 4000000 in
theorem w_rows_of_def (S : Src K mg "rows_of_def" (topS 7) ["name", "params", "body", "tops"]) (h_sorted : mg "sorted" = none) (c_Lifter_lifted : MethOk P w K mg base "Lifter" "lifted" ["self", "term"] 21 2 (m_Lifter_lifted 20)) (c_Lifter_init : MkOk P w K mg base "Lifter" ["self", "name", "defs"] 1 3 m_Lifter_init) (cf_Lifter_made_rows : ClsF K "Lifter" "made_rows") : DefOk P w K mg base "rows_of_def" ["name", "params", "body", "tops"] 22 4 m_rows_of_def := by
  exact src_ok (np := 0) (fb := b_rows_of_def) S sc_rows_of_def rfl (by decide) (fun f cdv A outer s H E hr =>
    have hu := hu200 hr
    jss_cons (js_set (i := 4) sc_rows_of_def.nd (jmake (K := K) c_Lifter_init (hr.mono (by decide)) (by rfl) (jes_cons (je_var 0 (pv 0)) (jes_cons (je_var 3 (pv 3)) jes_nil)))) (jss_cons (js_set (i := 5) sc_rows_of_def.nd (je_tup (jes_cons (je_var 0 (pv 0)) (jes_cons (je_var 1 (pv 1)) (jes_cons (jmeth (K := K) c_Lifter_lifted (hr.mono (by decide)) (jk_var 4 (pv 4)) (ja_im (je_var 2 (pv 2)) ja_nil)) jes_nil))))) (jss_one (js_ret (je_op (oadd (K := K)) (om_add (K := K)) (JE.k (je_lst (jes_cons (je_var 5 (pv 5)) jes_nil))) (JE.k (je_lc (own := [("number", 6)]) (by rfl) sc_rows_of_def.nd (jseq (K := K) (je_callB (osorted (K := K)) cm_sorted (by rfl) h_sorted (by decide +kernel) (jks_cons (JE.k (je_fld (K := K) cf_Lifter_made_rows (jk_var 4 (pv 4)))) jks_nil))) (blkOk_by (N := ns_rows_of_def) (sc := defScope (topS 7)) (by decide +kernel)) (fun _ _ _ _ _ => jname (i := 6) sc_rows_of_def.nd) (fun _ _ _ _ _ => jts_nil) (fun _ _ _ _ _ => je_ix (oix (K := K) hu) (om_ix (K := K)) (JE.k (je_fld (K := K) cf_Lifter_made_rows (jk_var 4 (pv 4)))) (jk_var 6 (pv 6)) (fun _ _ => rfl))))))))) rfl
abbrev ns_rows_of : List Str := ["program", "tops", "rows", "name", "params", "body"]
theorem sc_rows_of : FnScope ns_rows_of ["program"] (defScope (topS 8)) := ⟨rfl, rfl, rfl, by decide +kernel, rfl, by decide +kernel, by decide +kernel⟩
set_option maxHeartbeats 4000000 in
theorem w_rows_of (S : Src K mg "rows_of" (topS 8) ["program"]) (h_tuple : mg "tuple" = none) (c_rows_of_def : DefOk P w K mg base "rows_of_def" ["name", "params", "body", "tops"] 22 4 m_rows_of_def) : DefOk P w K mg base "rows_of" ["program"] 23 1 m_rows_of := by
  exact src_ok (np := 0) (fb := b_rows_of) S sc_rows_of rfl (by decide) (fun f cdv A outer s H E hr =>
    have hu := hu200 hr
    jss_cons (js_setLc (i := 1) (own := [("name", 3), ("params", 4), ("body", 5)]) (by rfl) sc_rows_of.nd (jseq (K := K) (je_ix (oix (K := K) hu) (om_ix (K := K)) (jk_var 0 (pv 0)) (JE.k je_int) (fun _ _ => rfl))) (blkOk_by (N := ns_rows_of) (sc := defScope (topS 8)) (by decide +kernel)) (fun _ _ _ _ _ => jtup (K := K) (by rfl) (jgs_cons (jname (i := 3) sc_rows_of.nd) (jgs_cons (jname (i := 4) sc_rows_of.nd) (jgs_cons (jname (i := 5) sc_rows_of.nd) jgs_nil)))) (fun _ _ _ _ _ => jts_nil) (fun _ _ _ _ _ => je_var 3 (pv 3))) (jss_cons (js_new (i := 2) sc_rows_of.nd (jow_lst jes_nil)) (jss_cons (js_for PassesOwn.never (by rfl) (jseq (K := K) (je_ix (oix (K := K) hu) (om_ix (K := K)) (jk_var 0 (pv 0)) (JE.k je_int) (fun _ _ => rfl))) (jtup (K := K) (by rfl) (jgs_cons (jname (i := 3) sc_rows_of.nd) (jgs_cons (jname (i := 4) sc_rows_of.nd) (jgs_cons (jname (i := 5) sc_rows_of.nd) jgs_nil)))) (jss_one (js_expr (jextend (K := K) (pv 2) (jcall (K := K) c_rows_of_def (hr.mono (by decide)) (by rfl) (ja_im (je_var 3 (pv 3)) (ja_im (je_var 4 (pv 4)) (ja_im (je_var 5 (pv 5)) (ja_im (je_var 1 (pv 1)) ja_nil))))))))) (jss_one (js_ret (je_callTy (otupX (K := K) hr.hd) (cm_tupX (K := K)) (by rfl) h_tuple (by decide +kernel) (jks_cons (jk_var 2 (pv 2)) jks_nil))))))) rfl
abbrev ns__law_bag : List Str := ["_law_cell", "_law_place"]
theorem sc__law_bag : FnScope ns__law_bag ["_law_cell", "_law_place"] (defScope (topS 10)) := ⟨rfl, rfl, rfl, by decide +kernel, rfl, by decide +kernel, by decide +kernel⟩
set_option maxHeartbeats 4000000 in
theorem w__law_bag (S : Src K mg "_law_bag" (topS 10) ["_law_cell", "_law_place"]) (h_max : mg "max" = none) : DefOk P w K mg base "_law_bag" ["_law_cell", "_law_place"] 1 2 m__law_bag := by
  exact src_ok (np := 0) (fb := b__law_bag) S sc__law_bag rfl (by decide) (fun f cdv A outer s H E hr =>
    have hu := hu200 hr
    jss_one (js_retO (jow_lst (jes_cons (je_callB (call_max2 (by rfl)) cm_max (by rfl) h_max (by decide +kernel) (jks_cons (JE.k je_int) (jks_cons (JE.k (je_op op_sub om_sub (jk_var 0 (pv 0)) (JE.k (je_op op_pow om_pow (JE.k je_int) (JE.k je_int))))) jks_nil))) (jes_cons (je_op op_modN om_mod (JE.k (je_op (oadd (K := K)) (om_add (K := K)) (JE.k (je_op op_mulB om_mul (jk_var 0 (pv 0)) (JE.k je_int))) (JE.k (je_op op_mulB om_mul (JE.k je_int) (JE.k (je_op (oadd (K := K)) (om_add (K := K)) (jk_var 1 (pv 1)) (JE.k je_int))))))) (JE.k je_int)) (jes_cons (je_var 1 (pv 1)) jes_nil)))))) rfl
abbrev ns__law_draw : List Str := ["_law_bag_here", "_law_many", "_law_found"]
theorem sc__law_draw : FnScope ns__law_draw ["_law_bag_here", "_law_many"] (defScope (topS 11)) := ⟨rfl, rfl, rfl, by decide +kernel, rfl, by decide +kernel, by decide +kernel⟩
set_option maxHeartbeats 4000000 in
theorem w__law_draw (S : Src K mg "_law_draw" (topS 11) ["_law_bag_here", "_law_many"])  : DefOk P w K mg base "_law_draw" ["_law_bag_here", "_law_many"] 1 2 m__law_draw := by
  exact src_ok (np := 1) (fb := b__law_draw) S sc__law_draw rfl (by decide) (fun f cdv A outer s H E hr =>
    have hu := hu200 hr
    jss_cons (js_if (jt_cmp op_gtD om_gt (JE.k (je_ix (oix (K := K) hu) (om_ix (K := K)) (jk_var 0 (pv 0)) (JE.k je_int) (fun _ _ => rfl))) (JE.k je_int) (nomark _)) (jss_cons (js_set (i := 2) sc__law_draw.nd (je_op op_modN om_mod (JE.k (je_ix (oix (K := K) hu) (om_ix (K := K)) (jk_var 0 (pv 0)) (JE.k je_int) (fun _ _ => rfl))) (jk_var 1 (pv 1)))) (jss_cons (js_put (je_op op_fdivW om_fdiv (JE.k (je_ix (oix (K := K) hu) (om_ix (K := K)) (jk_var 0 (pv 0)) (JE.k je_int) (fun _ _ => rfl))) (jk_var 1 (pv 1))) (pv 0) je_int) (jss_one (js_ret (je_var 2 (pv 2)))))) jss_nil) (jss_cons (jaug (i := 0) (pv 0)) (jss_cons (js_put (je_op op_modN om_mod (JE.k (je_op (oadd (K := K)) (om_add (K := K)) (JE.k (je_op (oadd (K := K)) (om_add (K := K)) (JE.k (je_op op_mulB om_mul (JE.k (je_ix (oix (K := K) hu) (om_ix (K := K)) (jk_var 0 (pv 0)) (JE.k je_int) (fun _ _ => rfl))) (JE.k (je_ix (oix (K := K) hu) (om_ix (K := K)) (jk_var 0 (pv 0)) (JE.k je_int) (fun _ _ => rfl))))) (JE.k (je_op op_mulB om_mul (JE.k je_int) (JE.k (je_ix (oix (K := K) hu) (om_ix (K := K)) (jk_var 0 (pv 0)) (JE.k je_int) (fun _ _ => rfl))))))) (JE.k je_int))) (JE.k je_int)) (pv 0) je_int) (jss_one (js_ret (je_op op_modN om_mod (JE.k (je_op op_fdivW om_fdiv (JE.k (je_ix (oix (K := K) hu) (om_ix (K := K)) (jk_var 0 (pv 0)) (JE.k je_int) (fun _ _ => rfl))) (JE.k je_int))) (jk_var 1 (pv 1)))))))) rfl
abbrev ns__law_term : List Str := ["_law_bag_here", "_law_bound", "_law_left", "_law_way", "_law_some", "_law_one", "_law_name", "_law_part", "_law_none"]
theorem sc__law_term : FnScope ns__law_term ["_law_bag_here", "_law_bound", "_law_left"] (defScope (topS 12)) := ⟨rfl, rfl, rfl, by decide +kernel, rfl, by decide +kernel, by decide +kernel⟩
set_option maxHeartbeats 4000000 in
theorem t__law_term (n : Nat) (S : Src K mg "_law_term" (topS 12) ["_law_bag_here", "_law_bound", "_law_left"]) (h_len : mg "len" = none) (c__law_draw : DefOk P w K mg base "_law_draw" ["_law_bag_here", "_law_many"] 1 2 m__law_draw) (c__law_term : DefOk P w K mg base "_law_term" ["_law_bag_here", "_law_bound", "_law_left"] (n + 2) 3 (m__law_term n)) : DefOk P w K mg base "_law_term" ["_law_bag_here", "_law_bound", "_law_left"] (n + 1 + 2) 3 (m__law_term (n + 1)) := by
  exact DefOk.level (src_ok (k := n + 2) (np := 1) (fb := b__law_term (m__law_term n)) S sc__law_term rfl (by decide) (fun f cdv A outer s H E hr =>
    have hu := hu200 hr
    jss_cons (js_set (i := 3) sc__law_term.nd (jcall (K := K) c__law_draw (hr.mono (by omega)) (by rfl) (ja_ow 0 (pv 0) (ja_im je_int ja_nil)))) (jss_cons (js_if (JW.t (jw_or (jt_cmp (oeq (K := K) hu) (om_eq (K := K)) (jk_var 2 (pv 2)) (JE.k je_int) (nomark _)) (jw_or1 (jt_cmp op_ltD om_lt (jk_var 3 (pv 3)) (JE.k je_int) (nomark _))))) (jss_cons (js_set (i := 4) sc__law_term.nd (je_lst (jes_cons (je_tup (jes_cons je_str (jes_cons (jcall (K := K) c__law_draw (hr.mono (by omega)) (by rfl) (ja_ow 0 (pv 0) (ja_im je_int ja_nil))) jes_nil))) (jes_cons (je_tup (jes_cons je_str (jes_cons (je_ix (oix (K := K) hu) (om_ix (K := K)) (JE.k (je_lst (jes_cons je_str (jes_cons je_str (jes_cons je_str jes_nil))))) (JE.k (jcall (K := K) c__law_draw (hr.mono (by omega)) (by rfl) (ja_ow 0 (pv 0) (ja_im je_int ja_nil)))) (fun _ _ => rfl)) jes_nil))) jes_nil)))) (jss_one (js_ret (je_ix (oix (K := K) hu) (om_ix (K := K)) (JE.k (je_op (oadd (K := K)) (om_add (K := K)) (jk_var 4 (pv 4)) (JE.k (je_lc (own := [("_law_name", 6)]) (by rfl) sc__law_term.nd (jseq (K := K) (je_var 1 (pv 1))) (blkOk_by (N := ns__law_term) (sc := defScope (topS 12)) (by decide +kernel)) (fun _ _ _ _ _ => jname (i := 6) sc__law_term.nd) (fun _ _ _ _ _ => jts_nil) (fun _ _ _ _ _ => je_tup (jes_cons je_str (jes_cons (je_var 6 (pv 6)) jes_nil))))))) (JE.k (jcall (K := K) c__law_draw (hr.mono (by omega)) (by rfl) (ja_ow 0 (pv 0) (ja_im (je_op (oadd (K := K)) (om_add (K := K)) (JE.k je_int) (JE.k (je_callB (olen (K := K)) (cm_len (K := K)) (by rfl) h_len (by decide +kernel) (jks_cons (jk_var 1 (pv 1)) jks_nil)))) ja_nil)))) (fun _ _ => rfl))))) jss_nil) (jss_cons (js_if (jt_cmp op_ltD om_lt (jk_var 3 (pv 3)) (JE.k je_int) (nomark _)) (jss_cons (js_set (i := 5) sc__law_term.nd (jcall (K := K) c__law_term (hr.mono (by omega)) (by rfl) (ja_ow 0 (pv 0) (ja_im (je_var 1 (pv 1)) (ja_im (je_op op_sub om_sub (jk_var 2 (pv 2)) (JE.k je_int)) ja_nil))))) (jss_one (js_ret (je_tup (jes_cons je_str (jes_cons (je_var 5 (pv 5)) (jes_cons (jcall (K := K) c__law_term (hr.mono (by omega)) (by rfl) (ja_ow 0 (pv 0) (ja_im (je_var 1 (pv 1)) (ja_im (je_op op_sub om_sub (jk_var 2 (pv 2)) (JE.k je_int)) ja_nil)))) jes_nil))))))) jss_nil) (jss_cons (js_if (jt_cmp (oeq (K := K) hu) (om_eq (K := K)) (jk_var 3 (pv 3)) (JE.k je_int) (nomark _)) (jss_cons (js_set (i := 5) sc__law_term.nd (jcall (K := K) c__law_term (hr.mono (by omega)) (by rfl) (ja_ow 0 (pv 0) (ja_im (je_var 1 (pv 1)) (ja_im (je_op op_sub om_sub (jk_var 2 (pv 2)) (JE.k je_int)) ja_nil))))) (jss_one (js_ret (je_tup (jes_cons je_str (jes_cons (je_ix (oix (K := K) hu) (om_ix (K := K)) (JE.k (je_lst (jes_cons je_str (jes_cons je_str (jes_cons je_str jes_nil))))) (JE.k (jcall (K := K) c__law_draw (hr.mono (by omega)) (by rfl) (ja_ow 0 (pv 0) (ja_im je_int ja_nil)))) (fun _ _ => rfl)) (jes_cons (je_var 5 (pv 5)) (jes_cons (jcall (K := K) c__law_term (hr.mono (by omega)) (by rfl) (ja_ow 0 (pv 0) (ja_im (je_var 1 (pv 1)) (ja_im (je_op op_sub om_sub (jk_var 2 (pv 2)) (JE.k je_int)) ja_nil)))) jes_nil)))))))) jss_nil) (jss_cons (js_set (i := 6) sc__law_term.nd (je_ix (oix (K := K) hu) (om_ix (K := K)) (JE.k je_str) (JE.k (je_op op_sub om_sub (jk_var 2 (pv 2)) (JE.k je_int))) (fun _ _ => rfl))) (jss_cons (js_if (jt_cmp (oeq (K := K) hu) (om_eq (K := K)) (jk_var 3 (pv 3)) (JE.k je_int) (nomark _)) (jss_cons (js_set (i := 7) sc__law_term.nd (jcall (K := K) c__law_term (hr.mono (by omega)) (by rfl) (ja_ow 0 (pv 0) (ja_im (je_op (oadd (K := K)) (om_add (K := K)) (jk_var 1 (pv 1)) (JE.k (je_lst (jes_cons (je_var 6 (pv 6)) jes_nil)))) (ja_im (je_op op_sub om_sub (jk_var 2 (pv 2)) (JE.k je_int)) ja_nil))))) (jss_one (js_ret (je_tup (jes_cons je_str (jes_cons (je_tup (jes_cons (je_tup (jes_cons (je_var 6 (pv 6)) (jes_cons (je_var 7 (pv 7)) jes_nil))) jes_nil)) (jes_cons (jcall (K := K) c__law_term (hr.mono (by omega)) (by rfl) (ja_ow 0 (pv 0) (ja_im (je_op (oadd (K := K)) (om_add (K := K)) (jk_var 1 (pv 1)) (JE.k (je_lst (jes_cons (je_var 6 (pv 6)) jes_nil)))) (ja_im (je_op op_sub om_sub (jk_var 2 (pv 2)) (JE.k je_int)) ja_nil)))) jes_nil))))))) jss_nil) (jss_cons (js_set (i := 5) sc__law_term.nd (jcall (K := K) c__law_term (hr.mono (by omega)) (by rfl) (ja_ow 0 (pv 0) (ja_im (je_var 1 (pv 1)) (ja_im (je_op op_sub om_sub (jk_var 2 (pv 2)) (JE.k je_int)) ja_nil))))) (jss_cons (js_set (i := 8) sc__law_term.nd (je_tup (jes_cons je_str (jes_cons (je_tup jes_nil) (jes_cons (jcall (K := K) c__law_term (hr.mono (by omega)) (by rfl) (ja_ow 0 (pv 0) (ja_im (je_var 1 (pv 1)) (ja_im (je_op op_sub om_sub (jk_var 2 (pv 2)) (JE.k je_int)) ja_nil)))) jes_nil))))) (jss_one (js_ret (je_tup (jes_cons je_str (jes_cons (je_var 5 (pv 5)) (jes_cons (je_tup (jes_cons (je_var 8 (pv 8)) (jes_cons (je_tup (jes_cons je_str (jes_cons (je_tup (jes_cons (je_var 6 (pv 6)) (jes_cons (je_op (oadd (K := K)) (om_add (K := K)) (jk_var 6 (pv 6)) (JE.k je_str)) jes_nil))) (jes_cons (jcall (K := K) c__law_term (hr.mono (by omega)) (by rfl) (ja_ow 0 (pv 0) (ja_im (je_op (oadd (K := K)) (om_add (K := K)) (jk_var 1 (pv 1)) (JE.k (je_lst (jes_cons (je_var 6 (pv 6)) jes_nil)))) (ja_im (je_op op_sub om_sub (jk_var 2 (pv 2)) (JE.k je_int)) ja_nil)))) jes_nil)))) jes_nil))) jes_nil)))))))))))))) (by rw [m__law_term] <;> rfl)) (by omega)
theorem w__law_term (S__law_term : Src K mg "_law_term" (topS 12) ["_law_bag_here", "_law_bound", "_law_left"]) (h_len : mg "len" = none) (c__law_draw : DefOk P w K mg base "_law_draw" ["_law_bag_here", "_law_many"] 1 2 m__law_draw) : ∀ n : Nat, DefOk P w K mg base "_law_term" ["_law_bag_here", "_law_bound", "_law_left"] (n + 2) 3 (m__law_term n)
  | 0 => (src_none S__law_term (fun _ => by rw [m__law_term] <;> rfl)).level (Nat.zero_le _)
  | n + 1 => by
    have ih := w__law_term S__law_term h_len c__law_draw n
    exact t__law_term n S__law_term h_len c__law_draw ih
abbrev ns_law : List Str := ["_law_script", "_law_datas", "_law_k", "_law_cell", "_law_bag_here", "_law_tops", "_law_defs", "_law_name", "_law_params"]
theorem sc_law : FnScope ns_law ["_law_script"] (defScope (topS 13)) := ⟨rfl, rfl, rfl, by decide +kernel, rfl, by decide +kernel, by decide +kernel⟩
set_option maxHeartbeats 4000000 in
theorem w_law (S : Src K mg "law" (topS 13) ["_law_script"]) (h_enumerate : mg "enumerate" = none) (h_len : mg "len" = none) (h_list : mg "list" = none) (h_tuple : mg "tuple" = none) (c_rows_of : DefOk P w K mg base "rows_of" ["program"] 23 1 m_rows_of) (c__law_draw : DefOk P w K mg base "_law_draw" ["_law_bag_here", "_law_many"] 1 2 m__law_draw) (c__law_term : DefOk P w K mg base "_law_term" ["_law_bag_here", "_law_bound", "_law_left"] 12 3 (m__law_term 10)) (c__law_bag : DefOk P w K mg base "_law_bag" ["_law_cell", "_law_place"] 1 2 m__law_bag) : DefOk P w K mg base "law" ["_law_script"] 24 1 m_law := by
  exact src_ok (np := 0) (fb := b_law) S sc_law rfl (by decide) (fun f cdv A outer s H E hr =>
    have hu := hu200 hr
    jss_cons (js_set (i := 1) sc_law.nd (je_tup (jes_cons (je_tup (jes_cons je_str (jes_cons (je_tup (jes_cons je_str jes_nil)) (jes_cons (je_tup (jes_cons (je_tup (jes_cons je_str (jes_cons (je_tup jes_nil) jes_nil))) (jes_cons (je_tup (jes_cons je_str (jes_cons (je_tup (jes_cons (je_tup (jes_cons je_str (jes_cons je_str jes_nil))) (jes_cons (je_tup (jes_cons je_str (jes_cons je_str (jes_cons (je_tup (jes_cons (je_tup (jes_cons je_str (jes_cons je_str jes_nil))) jes_nil)) jes_nil)))) jes_nil))) jes_nil))) jes_nil))) jes_nil)))) jes_nil))) (jss_cons (js_for PassesOwn.never (by rfl) (jenumX (K := K) (by rfl) h_enumerate (jes_cons (je_op (oadd (K := K)) (om_add (K := K)) (JE.k (je_lst (jes_cons (je_callB (olen (K := K)) (cm_len (K := K)) (by rfl) h_len (by decide +kernel) (jks_cons (jk_var 0 (pv 0)) jks_nil)) jes_nil))) (JE.k (jslice (K := K) (jk_var 0 (pv 0)) jo_none (jo_some je_int)))) jes_nil)) (jtup (K := K) (by rfl) (jgs_cons (jname (i := 2) sc_law.nd) (jgs_cons (jname (i := 3) sc_law.nd) jgs_nil))) (jss_cons (js_new (i := 4) sc_law.nd (jcallO (K := K) c__law_bag (hr.mono (by decide)) (by rfl) (ja_im (je_var 3 (pv 3)) (ja_im (je_var 2 (pv 2)) ja_nil)))) (jss_cons (js_set (i := 5) sc_law.nd (jslice (K := K) (JE.k (je_lst (jes_cons je_str (jes_cons je_str (jes_cons je_str (jes_cons je_str (jes_cons je_str (jes_cons je_str jes_nil)))))))) jo_none (jo_some (je_op (oadd (K := K)) (om_add (K := K)) (JE.k je_int) (JE.k (jcall (K := K) c__law_draw (hr.mono (by decide)) (by rfl) (ja_ow 4 (pv 4) (ja_im je_int ja_nil)))))))) (jss_cons (js_new (i := 6) sc_law.nd (jow_lst jes_nil)) (jss_cons (js_for PassesOwn.never (by rfl) (jseq (K := K) (je_var 5 (pv 5))) (jname (i := 7) sc_law.nd) (jss_cons (js_set (i := 8) sc_law.nd (jslice (K := K) (JE.k je_str) jo_none (jo_some (jcall (K := K) c__law_draw (hr.mono (by decide)) (by rfl) (ja_ow 4 (pv 4) (ja_im je_int ja_nil)))))) (jss_one (js_expr (jappend (K := K) (pv 6) (je_tup (jes_cons (je_var 7 (pv 7)) (jes_cons (je_callTy (otupX (K := K) hr.hd) (cm_tupX (K := K)) (by rfl) h_tuple (by decide +kernel) (jks_cons (jk_var 8 (pv 8)) jks_nil)) (jes_cons (jcall (K := K) c__law_term (hr.mono (by decide)) (by rfl) (ja_ow 4 (pv 4) (ja_im (je_op (oadd (K := K)) (om_add (K := K)) (jk_var 5 (pv 5)) (JE.k (je_callTy (olstX (K := K) hr.hd) (cm_lstX (K := K)) (by rfl) h_list (by decide +kernel) (jks_cons (jk_var 8 (pv 8)) jks_nil)))) (ja_im (jcall (K := K) c__law_draw (hr.mono (by decide)) (by rfl) (ja_ow 4 (pv 4) (ja_im je_int ja_nil))) ja_nil)))) jes_nil))))))))) (jss_one (js_if (jt_cmp (one (K := K) hu) (om_ne (K := K)) (JE.k (jcall (K := K) c_rows_of (hr.mono (by decide)) (by rfl) (ja_im (je_tup (jes_cons (je_var 1 (pv 1)) (jes_cons (je_callTy (otupX (K := K) hr.hd) (cm_tupX (K := K)) (by rfl) h_tuple (by decide +kernel) (jks_cons (jk_var 6 (pv 6)) jks_nil)) jes_nil))) ja_nil))) (JE.k (je_callTy (otupX (K := K) hr.hd) (cm_tupX (K := K)) (by rfl) h_tuple (by decide +kernel) (jks_cons (jk_var 6 (pv 6)) jks_nil))) (nomark _)) (jss_one (js_ret je_bl)) jss_nil))))))) (jss_one (js_ret je_bl)))) rfl
theorem w_all (S_rows_of_def : Src K mg "rows_of_def" (topS 7) ["name", "params", "body", "tops"]) (S_rows_of : Src K mg "rows_of" (topS 8) ["program"]) (S__law_bag : Src K mg "_law_bag" (topS 10) ["_law_cell", "_law_place"]) (S__law_draw : Src K mg "_law_draw" (topS 11) ["_law_bag_here", "_law_many"]) (S__law_term : Src K mg "_law_term" (topS 12) ["_law_bag_here", "_law_bound", "_law_left"]) (S_law : Src K mg "law" (topS 13) ["_law_script"]) (S_Lifter_init : ISrc K mg "Lifter" (inClass (topS 6) 0) ["self", "name", "defs"]) (S_Lifter_lifted : MSrc K "Lifter" "lifted" (inClass (topS 6) 3) ["self", "term"]) (h_enumerate : mg "enumerate" = none) (h_len : mg "len" = none) (h_list : mg "list" = none) (h_max : mg "max" = none) (h_sorted : mg "sorted" = none) (h_tuple : mg "tuple" = none) (cf_Lifter_made_rows : ClsF K "Lifter" "made_rows") (cf_Lifter_given : ClsF K "Lifter" "given") (cf_Lifter_tops : ClsF K "Lifter" "tops") (cf_Lifter_head : ClsF K "Lifter" "head") : DefOk P w K mg base "law" ["_law_script"] 24 1 m_law := by
  have c_Lifter_init := w_Lifter_init (P := P) (w := w) (base := base) S_Lifter_init cf_Lifter_made_rows cf_Lifter_given cf_Lifter_tops cf_Lifter_head
  have c_Lifter_lifted0 := w_Lifter_lifted (P := P) (w := w) (base := base) S_Lifter_lifted h_tuple 20
  have c_Lifter_lifted := c_Lifter_lifted0
  have c_rows_of_def := w_rows_of_def (P := P) (w := w) (base := base) S_rows_of_def h_sorted c_Lifter_lifted c_Lifter_init cf_Lifter_made_rows
  have c_rows_of := w_rows_of (P := P) (w := w) (base := base) S_rows_of h_tuple c_rows_of_def
  have c__law_bag := w__law_bag (P := P) (w := w) (base := base) S__law_bag h_max
  have c__law_draw := w__law_draw (P := P) (w := w) (base := base) S__law_draw 
  have c__law_term0 := w__law_term (P := P) (w := w) (base := base) S__law_term h_len c__law_draw 10
  have c__law_term := c__law_term0
  have c_law := w_law (P := P) (w := w) (base := base) S_law h_enumerate h_len h_list h_tuple c_rows_of c__law_draw c__law_term c__law_bag
  exact c_law
end
end K52

namespace K52
open PySem PySem.Spec PyProof.Rows L2 M
local macro_rules | `(tactic| symm_saturate) => `(tactic| simp only [d_tupXL, d_tupXT, d_tupXS, d_lstXL, d_lstXT, d_lstXS, g_extend, c_fFld, c_fMeth, c_fMake, c_fCallL, c_fCall2, c_lOne, c_lIm, c_lOw, c_sAugC, c_oDc, c_oLc, g_update, dl_one, dl_cons, c_dcStep, d_neE, d_cutS, c_fLenSet, c_fRevT, c_fCallV, tbl_cons, d_neWB, d_cutT, d_eqWS, d_neWS, d_eqWI, d_neWI, d_eqWT, c_aPick, c_oCB, c_fBm, pick_nil, pick_cons, tyn_lst, tyn_dic, g_rev, g_clear, g_pop, d_lstOL, d_lstOT, d_dicO, c_fEnumX, c_bStar, c_sPar, c_fO, c_oDic, c_fPairs0, c_fPairs1, c_fGet2, c_sWhile, key_str, key_int, merge_def, List.foldl_cons, List.foldl_nil, List.any_cons, List.any_nil, Sum.inr.injEq, Bool.or_false, Bool.or_self, Bool.false_or, lookK, d_strI, d_strS, in_threeT, in_threeL, List.map_append, eq_self, not_true_eq_false, decide_true, decide_false, lit_eq, String.reduceEq, ite_or, ite_and, ite_orB, ite_andB, Bool.or_eq_true, Bool.and_eq_true, Bool.not_eq_true', decide_eq_false_iff_not, Bool.decide_eq_true, d_addI, d_addS, d_addL, d_addT, d_sub, d_mul, d_fdiv, d_mod, d_pow, d_neg, d_ltI, d_ltS, d_gtI, d_gtS, d_leI, d_geI, d_eqS, d_eqI, d_eqT, d_neS, d_neI, d_ixL0, d_ixL1, d_ixL2, d_ixL3, d_ixT0, d_ixT1, d_ixT2, d_ixT3, d_ixTm1, d_ixTm2, d_ixTm3, d_lenS, d_lenL, d_lenT, d_intI, d_intB, d_max, d_min, d_tupL, d_tupT, d_lstL, d_lstT, d_isaS, W_guard, Int.reduceLT, Int.reduceLE, Int.reducePow, Int.reduceToNat, Int.reduceAdd, ixN30, ixN31, ixN32, Int.reduceNeg, Nat.reducePow, Int.reduceEq, c_kE, c_kVar, c_peek, c_fC, c_fV, c_fOp, c_fUn, c_fTest, c_fTru, c_fAnd, c_fOr, c_fNot, c_fAndV, c_fOrV, c_fNotV, c_fIfE, c_fNil, c_fCons, c_kNil, c_kCons, c_fTup, c_fLst, c_fCB, c_fNoPart, c_fPart, c_fSl, c_fM1, c_fM0, c_fIt, c_fRng1, c_fRng2, c_fZip, c_fEnum, c_bName, c_bNil, c_bCons, c_bTup, c_fYes, c_fLc, c_sNil, c_sSeq, c_sIf, c_sRet, c_sRetN, c_sDrop, c_sSet, c_sBreak, c_sCont, c_sFor, c_sRetO, c_sRetV, c_oLst, c_sSetO, c_fAppend, c_sSetIx, c_sDPutN, c_fCallS, c_fCall, c_oCall, c_fCall1, c_aNil, c_aIm, c_aOw, c_callF, c_startS, c_backS, c_lcStep, c_forStep, see_im, see_lst, see_dic, see_un, own_im, own_lst, own_dic, own_un, own_sd, dem_im, dem_un, dem_lst, dem_dic, pb_nil, pb_im, pb_ow, ws_nil, ws_cons, rs_nil, rs_cons, argSs, argS, owIx, W_some, W_bind, W_none, bind_guard, Option.bind_some, Option.bind_none, Option.getD_some, Option.getD_none, List.getElem?_cons_zero, List.getElem?_cons_succ, List.getElem?_nil, List.set_cons_zero, List.set_cons_succ, List.take_succ_cons, List.take_zero, List.drop_succ_cons, List.drop_zero, List.map_cons, List.map_nil, List.cons_append, List.nil_append, List.append_nil, List.length_cons, List.length_nil, List.replicate_succ, List.replicate_zero, Nat.reduceAdd, Nat.reduceSub, Nat.reduceLeDiff, Nat.reduceEqDiff, Nat.zero_le, Nat.le_refl, List.nodup_cons, List.nodup_nil, List.not_mem_nil, not_false_eq_true, true_and, and_true, and_self, if_true, if_false, ↓reduceIte, Bool.not_false, Bool.not_true, Bool.false_eq_true, List.all_cons, List.all_nil, Bool.and_true, decide_eq_true_eq, reduceCtorEq, Nat.zero_add])

theorem draw_ok {q : Sd} {n : Nat} {k : Int} {Q : Sls → Sl → Prop} (hq : q.ok (n + 1)) (hk : 0 < k) (hl : k.natAbs.log2 < 9000)
    (h : ∀ q' r, Sd.ok q' n → 0 ≤ r → r < k → Q [sdS q', .im (.int k)] (.im (.int r))) : W (m__law_draw [sdS q, .im (.int k)]) Q := by
  obtain ⟨qa, qb, qc⟩ := q
  obtain ⟨b0, b1, c0, c1⟩ := hq
  simp only at b0 b1 c0 c1
  delta m__law_draw
  symm_saturate
  simp only [sdS]
  symm_saturate
  refine w_if (fun hc => ?_) (fun hc => ?_)
  · symm_saturate
    refine ⟨hk, ⟨hk, hl⟩, ?_⟩
    exact h ⟨qa / k, qb, qc⟩ _ ⟨b0, b1, c0, by simp only; omega⟩ (Int.emod_nonneg _ (by omega)) (Int.emod_lt_of_pos _ hk)
  · symm_saturate
    have hb : qb < 2 ^ 200 := Int.lt_trans b1 (by decide)
    have e0 : (0 : Int) ≤ (qb * qb + 2654435 * (qc + 1) + 12345) % 2147483629 := Int.emod_nonneg _ (by decide)
    have e1 : (qb * qb + 2654435 * (qc + 1) + 12345) % 2147483629 < 2147483629 := Int.emod_lt_of_pos _ (by decide)
    refine ⟨bitsOk_of b0 hb b0 hb (by decide), bitsOk_of (k := 40) (m := 81) (by decide) (by decide) (by omega) (by omega) (by decide), by decide, hk, ?_⟩
    exact h ⟨qa, _, qc + 1⟩ _ ⟨e0, Int.lt_trans e1 (by decide), by simp only; omega, by simp only; omega⟩ (Int.emod_nonneg _ (by omega)) (Int.emod_lt_of_pos _ hk)
theorem bag_ok {z p : Int} {Q : Sls → Sl → Prop} (hz : Builtin.Int.intBits z ≤ 1048576) (h0 : 0 ≤ p) (h1 : p ≤ 1000)
    (h : ∀ q', Sd.ok q' (2 ^ 70) → Q [.im (.int z), .im (.int p)] (sdS q')) : W (m__law_bag [.im (.int z), .im (.int p)]) Q := by
  delta m__law_bag
  symm_saturate
  have hb : bitsOk z 7919 = true := by
    unfold bitsOk
    refine decide_eq_true ?_
    have e : (7919 : Int).natAbs.log2 < 200 := by decide
    have : z.natAbs.log2 ≤ 1048576 := by
      unfold Builtin.Int.intBits at hz
      split at hz
      · rename_i h0
        rw [show z = 0 by simpa using h0]
        exact (by decide)
      · omega
    omega
  have e0 : (0 : Int) ≤ (z * 7919 + 104729 * (p + 1)) % 2147483647 := Int.emod_nonneg _ (by decide)
  have e1 : (z * 7919 + 104729 * (p + 1)) % 2147483647 < 2147483647 := Int.emod_lt_of_pos _ (by decide)
  refine ⟨by decide, hb, bitsOk_of (k := 40) (m := 81) (by decide) (by decide) (by omega) (by omega) (by decide), ?_⟩
  exact h ⟨_, _, p⟩ ⟨e0, Int.lt_trans e1 (by decide), h0, by simp only; omega⟩
theorem init_fs (a b : D) : m_Lifter_init [a, b] = some [(.inr "head", a), (.inr "tops", b), (.inr "given", .int 0), (.inr "made_rows", .dic [])] := by
  rfl
def LfOk (f : Nat) : Prop := ∀ (t : T) (es : List (Key × D)) (Q : Sls → Sl → Prop), t.Nf → t.h ≤ f → lookK (.inr "lifted") es = none → Q [.im (.ob "Lifter" es), .im t.d] (.im t.d) → W (m_Lifter_lifted f [.im (.ob "Lifter" es), .im t.d]) Q
theorem lf_step {f : Nat} (ih : LfOk f) : LfOk (f + 1) := by
  intro t es Q ok hf he h
  simp only [m_Lifter_lifted]
  cases t with
  | num i => simp only [T.d] at h ⊢; symm_saturate; exact h
  | name i => simp only [T.d] at h ⊢; symm_saturate; exact h
  | make i => simp only [T.d] at h ⊢; symm_saturate; exact h
  | fn x b => exact ok.elim
  | app a b =>
    simp only [T.h] at hf
    simp only [T.d] at h ⊢
    symm_saturate
    simp only [he]
    symm_saturate
    refine ih a es _ ok.1 (by omega) he ?_
    symm_saturate
    simp only [he]
    symm_saturate
    refine ih b es _ ok.2 (by omega) he ?_
    symm_saturate
    exact h
  | op o a b =>
    simp only [T.h] at hf
    simp only [T.d] at h ⊢
    symm_saturate
    simp only [he]
    symm_saturate
    refine ih a es _ ok.1 (by omega) he ?_
    symm_saturate
    simp only [he]
    symm_saturate
    refine ih b es _ ok.2 (by omega) he ?_
    symm_saturate
    exact h
  | lt ps b =>
    have l : (plI ps).length ≤ 9 := ok.1
    simp only [T.h] at hf
    simp only [T.d] at h ⊢
    symm_saturate
    rw [pl_d]
    refine w_lc_map plD plD (by simp only [List.length_nil]; omega) (fun q hq acc R ha hR => ?_) ?_
    · obtain ⟨g1, g2⟩ := pl_nf ok.2.1 q hq
      simp only [plD] at hR ⊢
      symm_saturate
      simp only [he]
      symm_saturate
      refine ih q.2 es _ g1 (by omega) he ?_
      symm_saturate
      exact ⟨ha, hR⟩
    symm_saturate
    simp only [he]
    symm_saturate
    refine ih b es _ ok.2.2 (by omega) he ?_
    symm_saturate
    rw [pl_d] at h
    exact h
  | cs a ws =>
    have l : (wlI ws).length ≤ 9 := ok.2.1
    simp only [T.h] at hf
    simp only [T.d] at h ⊢
    symm_saturate
    simp only [he]
    symm_saturate
    refine ih a es _ ok.1 (by omega) he ?_
    symm_saturate
    rw [wl_d]
    refine w_lc_map wlD wlD (by simp only [List.length_nil]; omega) (fun q hq acc R ha hR => ?_) ?_
    · obtain ⟨g1, g2⟩ := wl_nf ok.2.2 q hq
      simp only [wlD] at hR ⊢
      symm_saturate
      simp only [he]
      symm_saturate
      refine ih q.2.2 es _ g1 (by omega) he ?_
      symm_saturate
      exact ⟨ha, hR⟩
    symm_saturate
    rw [wl_d] at h
    exact h
theorem lifted_ok : ∀ f : Nat, LfOk f
  | 0 => fun t _ Q _ hf _ _ => by have := t.h_pos; omega
  | f + 1 => lf_step (lifted_ok f)
theorem sorted0 : sortedD [.dic []] = some (.lst []) := by rfl
theorem rows_of_def_ok {n p tops : D} {t : T} {Q : Sls → Sl → Prop} (ok : t.Nf) (hf : t.h ≤ 20) (h : Q [.im n, .im p, .im t.d, .im tops] (.im (.lst [.tup [n, p, t.d]]))) : W (m_rows_of_def [.im n, .im p, .im t.d, .im tops]) Q := by
  delta m_rows_of_def
  symm_saturate
  rw [init_fs]
  symm_saturate
  refine lifted_ok 20 t _ _ ok hf (by rfl) ?_
  symm_saturate
  simp only [sorted0]
  symm_saturate
  simp only [lcLoop]
  symm_saturate
  exact ⟨by decide, h⟩
def RwD (p : Str × List Str × T) : D := .tup [.str p.1, .tup (p.2.1.map .str), p.2.2.d]
theorem rows_of_ok {da : D} {rs : List (Str × List Str × T)} {Q : Sls → Sl → Prop} (ok : ∀ r ∈ rs, r.2.2.Nf ∧ r.2.2.h ≤ 20) (l : rs.length ≤ 100)
    (h : Q [.im (.tup [da, .tup (rs.map RwD)])] (.im (.tup (rs.map RwD)))) : W (m_rows_of [.im (.tup [da, .tup (rs.map RwD)])]) Q := by
  delta m_rows_of
  symm_saturate
  refine w_lc_map RwD (fun r => .str r.1) (by simp only [List.length_nil]; omega) (fun q hq acc R ha hR => ?_) ?_
  · simp only [RwD] at hR ⊢
    symm_saturate
    exact ⟨ha, hR⟩
  symm_saturate
  refine w_for (fun ds e => ∃ done rest s1 s3 s4 s5, ds = List.map RwD rest ∧ rs = done ++ rest ∧ e = [.im (.tup [da, .tup (rs.map RwD)]), s1, .lst (done.map RwD), s3, s4, s5] ∧ s1 = .im (.lst (rs.map fun r => .str r.1))) ?_ ?_ ?_
  · exact ⟨[], rs, _, _, _, _, rfl, rfl, rfl, rfl⟩
  · rintro d ds e ⟨done, rest, s1, s3, s4, s5, e1, e2, rfl, rfl⟩
    obtain _ | ⟨r, rest⟩ := rest
    · cases e1
    rw [List.map_cons] at e1
    cases e1
    simp only [RwD]
    symm_saturate
    obtain ⟨g1, g2⟩ := ok r (by rw [e2]; exact List.mem_append_right _ (List.mem_cons_self ..))
    refine rows_of_def_ok g1 g2 ?_
    symm_saturate
    refine ⟨?_, done ++ [r], rest, _, _, _, _, rfl, by rw [e2, List.append_assoc]; rfl, by rw [List.map_append]; rfl, rfl⟩
    rw [List.length_map]
    have : done.length ≤ rs.length := by rw [e2, List.length_append]; omega
    exact Nat.le_trans (Nat.add_le_add_right (Nat.le_trans this l) _) (by decide)
  · rintro e ⟨done, rest, s1, s3, s4, s5, e1, e2, rfl, rfl⟩
    obtain _ | ⟨r, rest⟩ := rest
    · rw [List.append_nil] at e2
      subst e2
      symm_saturate
      exact h
    · cases e1
theorem pick_t {P : D → Prop} {xs : List D} {r : Int} (h0 : 0 ≤ r) (h : r < xs.length) (hp : ∀ d ∈ xs, P d) : ∃ d, P d ∧ ixD (.lst xs) (.int r) = some d := by
  obtain ⟨d, hd, he⟩ := ix_lst h0 h
  exact ⟨d, hp d hd, he⟩
theorem pq_ok {k : Nat} (hl : k < 5) : ∃ s : Str, ixD (.str "pqrst") (.int (k : Int)) = some (.str s) ∧ s.length + (Str.ofString "x").length ≤ sizeLine := by
  match k, hl with
  | 0, _ => exact ⟨"p", rfl, by decide +kernel⟩
  | 1, _ => exact ⟨"q", rfl, by decide +kernel⟩
  | 2, _ => exact ⟨"r", rfl, by decide +kernel⟩
  | 3, _ => exact ⟨"s", rfl, by decide +kernel⟩
  | 4, _ => exact ⟨"t", rfl, by decide +kernel⟩
theorem cast1 (k : Nat) : ((k + 1 : Nat) : Int) - 1 = k := by omega
theorem natlog {z : Int} (h : 0 ≤ z ∧ z ≤ 100) : z.natAbs.log2 ≤ 100 := by
  refine Nat.le_trans (Nat.log2_le_self _) (by omega)
def LtOk (l : Nat) : Prop := ∀ (f n : Nat) (q : Sd) (xs : List Str) (ds : List D) (Q : Sls → Sl → Prop), ds = xs.map .str → l < f → l ≤ 5 → xs.length + l ≤ 50 → q.ok (n + 4 ^ (l + 1)) →
  (∀ q' (t : T), Sd.ok q' n → t.Nf → t.h ≤ l + 1 → Q [sdS q', .im (.lst ds), .im (.int (l : Int))] (.im t.d)) →
  W (m__law_term f [sdS q, .im (.lst ds), .im (.int (l : Int))]) Q
theorem lt_step {l : Nat} (ih : l = 0 ∨ ∃ k, l = k + 1 ∧ LtOk k) : LtOk l := by
  intro f n q xs ds Q hds hf hl hx hq h
  subst hds
  obtain _ | f := f
  · omega
  simp only [m__law_term]
  symm_saturate
  have p4 : 4 ^ (l + 1) = 4 * 4 ^ l := by rw [Nat.pow_succ, Nat.mul_comm]
  have p0 : 0 < 4 ^ l := Nat.pos_of_ne_zero (by simp)
  refine draw_ok (n := n + (4 ^ (l + 1) - 1)) (hq.le (by omega)) (by decide) (by decide) fun q1 r h1 l1 u1 => ?_
  symm_saturate
  refine w_if (fun hc => ?_) (fun hc => ?_)
  · symm_saturate
    refine draw_ok (n := n + 2) (h1.le (by omega)) (by decide) (by decide) fun q2 r2 h2 l2 u2 => ?_
    symm_saturate
    refine draw_ok (n := n + 1) (h2.le (by omega)) (by decide) (by decide) fun q3 r3 h3 l3 u3 => ?_
    symm_saturate
    obtain ⟨d, ⟨s, rfl⟩, he⟩ := pick_t (P := fun d => ∃ s, d = .str s) (xs := [D.str "Nil", D.str "True", D.str "Cons"]) l3 u3 (by
      intro d hd
      simp only [List.mem_cons, List.not_mem_nil, or_false] at hd
      rcases hd with rfl | rfl | rfl <;> exact ⟨_, rfl⟩)
    rw [he]
    symm_saturate
    refine w_lc_map D.str (fun s => (T.name s).d) (by simp only [List.length_nil]; omega) (fun s hs acc R ha hR => ?_) ?_
    · simp only [T.d] at hR ⊢
      symm_saturate
      exact ⟨ha, hR⟩
    symm_saturate
    refine ⟨Nat.le_trans (show _ ≤ 60 by simp only [List.length_map]; omega) (by decide), ?_⟩
    refine draw_ok (n := n) (h3.le (by omega)) (by simp only [List.length_map]; omega) (Nat.lt_of_le_of_lt (natlog (by simp only [List.length_map]; omega)) (by decide : 100 < 9000)) fun q4 r4 h4 l4 u4 => ?_
    symm_saturate
    obtain ⟨d, ⟨t, ht, hn, hh⟩, he⟩ := pick_t (P := fun d => ∃ t : T, d = t.d ∧ t.Nf ∧ t.h ≤ 1) (xs := D.tup [D.str "num", D.int r2] :: D.tup [D.str "make", D.str s] :: xs.map fun s => (T.name s).d) l4 (by simp only [List.length_cons, List.length_map] at u4 ⊢; omega) (by
      intro d hd
      rcases List.mem_cons.mp hd with rfl | hd
      · exact ⟨.num r2, rfl, trivial, by rw [T.h]; omega⟩
      rcases List.mem_cons.mp hd with rfl | hd
      · exact ⟨.make s, rfl, trivial, by rw [T.h]; omega⟩
      obtain ⟨x, hx, rfl⟩ := List.mem_map.mp hd
      exact ⟨.name x, rfl, trivial, by rw [T.h]; omega⟩)
    rw [he]
    symm_saturate
    subst ht
    exact h q4 t h4 hn (by omega)
  · rw [not_or] at hc
    rcases ih with rfl | ⟨k, rfl, ih⟩
    · exact absurd rfl hc.1
    have pp : 4 ^ (k + 1) = 4 * 4 ^ k := by rw [Nat.pow_succ, Nat.mul_comm]
    symm_saturate
    refine w_if (fun hc2 => ?_) (fun hc2 => ?_)
    · symm_saturate
      simp only [cast1]
      refine ih f (n + 4 ^ (k + 1)) q1 xs _ _ rfl (by omega) (by omega) (by omega) (h1.le (by omega)) fun q2 t2 h2 n2 t2h => ?_
      symm_saturate
      simp only [cast1]
      refine ih f n q2 xs _ _ rfl (by omega) (by omega) (by omega) (h2.le (by omega)) fun q3 t3 h3 n3 t3h => ?_
      symm_saturate
      exact h q3 (.app t2 t3) h3 ⟨n2, n3⟩ (by rw [T.h]; omega)
    symm_saturate
    refine w_if (fun hc3 => ?_) (fun hc3 => ?_)
    · symm_saturate
      simp only [cast1]
      refine ih f (n + 1 + 4 ^ (k + 1)) q1 xs _ _ rfl (by omega) (by omega) (by omega) (h1.le (by omega)) fun q2 t2 h2 n2 t2h => ?_
      symm_saturate
      refine draw_ok (n := n + 4 ^ (k + 1)) (h2.le (by omega)) (by decide) (by decide) fun q3 r3 h3 l3 u3 => ?_
      symm_saturate
      obtain ⟨d, ⟨s, rfl⟩, he⟩ := pick_t (P := fun d => ∃ s, d = .str s) (xs := [D.str "+", D.str "<", D.str "=="]) l3 u3 (by
        intro d hd
        simp only [List.mem_cons, List.not_mem_nil, or_false] at hd
        rcases hd with rfl | rfl | rfl <;> exact ⟨_, rfl⟩)
      rw [he]
      symm_saturate
      simp only [cast1]
      refine ih f n q3 xs _ _ rfl (by omega) (by omega) (by omega) (h3.le (by omega)) fun q4 t4 h4 n4 t4h => ?_
      symm_saturate
      exact h q4 (.op s t2 t4) h4 ⟨n2, n4⟩ (by rw [T.h]; omega)
    symm_saturate
    simp only [cast1]
    obtain ⟨s, hs, hsx⟩ := pq_ok (k := k) (by omega)
    rw [hs]
    symm_saturate
    have es : xs.map D.str ++ [D.str s] = (xs ++ [s]).map D.str := by rw [List.map_append]; rfl
    have sl : (xs.map D.str).length + 1 ≤ sizeLine := Nat.le_trans (show _ ≤ 60 by simp only [List.length_map]; omega) (by decide)
    have sx : (xs ++ [s]).length = xs.length + 1 := by rw [List.length_append]; rfl
    refine w_if (fun hc4 => ?_) (fun hc4 => ?_)
    · symm_saturate
      simp only [cast1]
      refine ⟨sl, ?_⟩
      refine ih f (n + 4 ^ (k + 1)) q1 (xs ++ [s]) _ _ es (by omega) (by omega) (by omega) (h1.le (by omega)) fun q2 t2 h2 n2 t2h => ?_
      symm_saturate
      simp only [cast1]
      refine ⟨sl, ?_⟩
      refine ih f n q2 (xs ++ [s]) _ _ es (by omega) (by omega) (by omega) (h2.le (by omega)) fun q3 t3 h3 n3 t3h => ?_
      symm_saturate
      exact h q3 (.lt (.cons s t2 .nil) t3) h3 ⟨show 1 ≤ 9 by decide, ⟨n2, trivial⟩, n3⟩ (by rw [T.h, PL.h, PL.h]; omega)
    symm_saturate
    simp only [cast1]
    refine ih f (n + 2 * 4 ^ (k + 1)) q1 xs _ _ rfl (by omega) (by omega) (by omega) (h1.le (by omega)) fun q2 t2 h2 n2 t2h => ?_
    symm_saturate
    simp only [cast1]
    refine ih f (n + 4 ^ (k + 1)) q2 xs _ _ rfl (by omega) (by omega) (by omega) (h2.le (by omega)) fun q3 t3 h3 n3 t3h => ?_
    symm_saturate
    refine ⟨hsx, ?_⟩
    simp only [cast1]
    refine ⟨sl, ?_⟩
    refine ih f n q3 (xs ++ [s]) _ _ es (by omega) (by omega) (by omega) (h3.le (by omega)) fun q4 t4 h4 n4 t4h => ?_
    symm_saturate
    exact h q4 (.cs t2 (.cons "Nil" [] t3 (.cons "Cons" [s, s ++ "x"] t4 .nil))) h4 ⟨n2, show 2 ≤ 9 by decide, n3, n4, trivial⟩ (by rw [T.h, WL.h, WL.h, WL.h]; omega)
theorem lt_ok : ∀ l : Nat, LtOk l
  | 0 => lt_step (.inl rfl)
  | l + 1 => lt_step (.inr ⟨l, rfl, lt_ok l⟩)
theorem ne_self200 {xs : List D} (hp : D.plains xs = true) (hd : PyData.depthAll (D.pys xs) + 1 ≤ 200) : neD (.tup xs) (.tup xs) = some (.bl false) := by
  have hq : (D.tup xs).plain = true := hp
  have hr : (D.tup xs).py.depth ≤ 200 := by
    simp only [D.py, PyData.depth]
    exact hd
  simp only [neD, neQ, eqG]
  rw [if_pos ⟨hq, hq, by omega⟩, eqv_refl _ hq]
  rfl
theorem cutG_len {α : Type} (xs : List α) (lo hi : Option Int) : (cutG xs lo hi).length ≤ xs.length := by
  unfold cutG
  rw [List.length_take, List.length_drop]
  omega
theorem cutG_mem {α : Type} {xs : List α} {lo hi : Option Int} {x : α} (h : x ∈ cutG xs lo hi) : x ∈ xs := List.mem_of_mem_drop (List.mem_of_mem_take h)
theorem pairs_mem : ∀ {xs ys : List D} {d : D}, d ∈ pairs xs ys → ∃ x ∈ xs, ∃ y ∈ ys, d = .tup [x, y]
  | [], _, _, h => by cases h
  | _ :: _, [], _, h => by cases h
  | x :: xs, y :: ys, d, h => by
    rcases List.mem_cons.mp h with rfl | h
    · exact ⟨x, List.mem_cons_self .., y, List.mem_cons_self .., rfl⟩
    · obtain ⟨a, ha, b, hb, e⟩ := pairs_mem h
      exact ⟨a, List.mem_cons_of_mem _ ha, b, List.mem_cons_of_mem _ hb, e⟩
theorem numbered_mem {ys : List D} {d : D} (h : d ∈ numbered ys) : ∃ i : Nat, i < ys.length ∧ ∃ y ∈ ys, d = .tup [.int (i : Int), y] := by
  obtain ⟨x, hx, y, hy, rfl⟩ := pairs_mem h
  obtain ⟨i, hi, rfl⟩ := List.mem_map.mp hx
  exact ⟨i, List.mem_range.mp hi, y, hy, by rw [Int.zero_add]⟩
theorem strs_of : ∀ {ds : List D}, (∀ d ∈ ds, ∃ s, d = .str s) → ∃ ss : List Str, ds = ss.map .str ∧ ss.length = ds.length
  | [], _ => ⟨[], rfl, rfl⟩
  | d :: ds, h => by
    obtain ⟨s, rfl⟩ := h d (List.mem_cons_self ..)
    obtain ⟨ss, rfl, l⟩ := strs_of fun d hd => h d (List.mem_cons_of_mem _ hd)
    exact ⟨s :: ss, rfl, by rw [List.length_cons, List.length_cons, l]⟩
theorem abc_ok {r : Int} (h0 : 0 ≤ r) (h : r < 4) : ∃ cs : List Str, cs.length ≤ 3 ∧ chars (cutS "abc" none (some r)) = cs.map .str ∧ (cutS "abc" none (some r)).length ≤ sizeLine := by
  have : r = 0 ∨ r = 1 ∨ r = 2 ∨ r = 3 := by omega
  rcases this with rfl | rfl | rfl | rfl
  · exact ⟨[], by decide, rfl, by decide +kernel⟩
  · exact ⟨["a"], by decide, rfl, by decide +kernel⟩
  · exact ⟨["a", "b"], by decide, rfl, by decide +kernel⟩
  · exact ⟨["a", "b", "c"], by decide, rfl, by decide +kernel⟩
theorem rwd_plain : ∀ rs : List (Str × List Str × T), D.plains (rs.map RwD) = true
  | [] => rfl
  | r :: rs => by
    simp only [List.map_cons, D.plains, RwD, D.plain, plains_strs, r.2.2.plain, rwd_plain rs, Bool.and_self]
theorem pys_strs : ∀ ss : List Str, D.pys (ss.map D.str) = ss.map PyData.str
  | [] => rfl
  | s :: ss => by simp only [List.map_cons, D.pys, D.py, pys_strs ss]
theorem small_bits {n : Nat} (h : n ≤ 64) : Builtin.Int.intBits (n : Int) ≤ 1048576 := by
  unfold Builtin.Int.intBits
  have := Nat.log2_le_self (n : Int).natAbs
  split
  · decide
  · omega
theorem rwd_depth : ∀ {rs : List (Str × List Str × T)}, (∀ r ∈ rs, r.2.2.h ≤ 20) → PyData.depthAll (D.pys (rs.map RwD)) ≤ 100
  | [], _ => by decide
  | r :: rs, h => by
    have g := rwd_depth fun x hx => h x (List.mem_cons_of_mem _ hx)
    have h0 := h r (List.mem_cons_self ..)
    have h1 := r.2.2.depth
    have h2 := depth_strs r.2.1
    rw [← pys_strs] at h2
    simp only [List.map_cons, D.pys, PyData.depthAll, RwD, D.py, PyData.depth]
    omega
theorem math_law : ∀ ns : List Int, ns.length ≤ 63 → (∀ z ∈ ns, Builtin.Int.intBits z ≤ 1048576) → ∃ es', m_law [.im (scriptD ns)] = some (es', .im (.bl true)) := by
  intro ns hn hb
  suffices h : W (m_law [.im (scriptD ns)]) fun _ d => d = .im (.bl true) by
    obtain ⟨e, d, h1, rfl⟩ := h
    exact ⟨e, h1⟩
  delta m_law
  simp only [scriptD]
  symm_saturate
  simp only [M.cutD]
  symm_saturate
  have cl := cutG_len (ns.map D.int) none (some 20)
  rw [List.length_map] at cl
  refine ⟨Nat.le_trans (show _ ≤ 64 by omega) (by decide), ?_⟩
  generalize hdas : D.tup [D.tup [D.str "List", _, _]] = das
  refine w_for (fun ds e => ∃ s2 s3 s4 s5 s6 s7 s8, e = [.im (.lst (ns.map D.int)), .im das, s2, s3, s4, s5, s6, s7, s8] ∧ ∀ d ∈ ds, ∃ (i : Nat) (z : Int), d = .tup [.int (i : Int), .int z] ∧ i ≤ 64 ∧ Builtin.Int.intBits z ≤ 1048576) ?_ ?_ ?_
  · refine ⟨_, _, _, _, _, _, _, rfl, fun d hd => ?_⟩
    obtain ⟨i, hi, y, hy, rfl⟩ := numbered_mem hd
    rw [List.length_cons] at hi
    rcases List.mem_cons.mp hy with rfl | hy
    · refine ⟨i, _, rfl, by omega, ?_⟩
      rw [List.length_map]
      exact small_bits (by omega)
    · obtain ⟨z, hz, rfl⟩ := List.mem_map.mp (cutG_mem hy)
      exact ⟨i, z, rfl, by omega, hb z hz⟩
  · rintro d ds e ⟨s2, s3, s4, s5, s6, s7, s8, rfl, hd⟩
    obtain ⟨i, z, rfl, hi, hz⟩ := hd _ (List.mem_cons_self ..)
    symm_saturate
    refine bag_ok hz (by omega) (by omega) fun q hq => ?_
    symm_saturate
    refine draw_ok (n := 2 ^ 60) (hq.le (by decide)) (by decide) (by decide) fun q1 r1 h1 l1 u1 => ?_
    symm_saturate
    simp only [M.cutD]
    symm_saturate
    obtain ⟨ss, es, ls⟩ := strs_of (ds := cutG [D.str "first", D.str "second", D.str "third", D.str "own", D.str "abcdefgh", D.str "z"] none (some (1 + r1))) (by
      intro d hd
      have hd := cutG_mem hd
      simp only [List.mem_cons, List.not_mem_nil, or_false] at hd
      rcases hd with rfl | rfl | rfl | rfl | rfl | rfl <;> exact ⟨_, rfl⟩)
    have lc := cutG_len [D.str "first", D.str "second", D.str "third", D.str "own", D.str "abcdefgh", D.str "z"] none (some (1 + r1))
    rw [← ls] at lc
    simp only [List.length_cons, List.length_nil] at lc
    rw [es]
    refine w_for (fun ds e => ∃ (rest : List Str) (done : List (Str × List Str × T)) (q : Sd) (s7 s8 : Sl), ds = rest.map D.str ∧ e = [.im (.lst (ns.map D.int)), .im das, .im (.int (i : Int)), .im (.int z), sdS q, .im (.lst (ss.map D.str)), .lst (done.map RwD), s7, s8] ∧ done.length + rest.length ≤ 6 ∧ q.ok (rest.length * 5000) ∧ ∀ r ∈ done, r.2.2.Nf ∧ r.2.2.h ≤ 20) ?_ ?_ ?_
    · exact ⟨ss, [], q1, _, _, rfl, rfl, by rw [List.length_nil]; omega, h1.le (Nat.le_trans (Nat.mul_le_mul_right 5000 lc) (by decide)), fun _ h => (nomatch h)⟩
    · rintro d ds2 e ⟨rest, done, q2, t7, t8, e1, rfl, hl, h2, hn2⟩
      obtain _ | ⟨x, rest⟩ := rest
      · cases e1
      rw [List.map_cons] at e1
      cases e1
      rw [List.length_cons] at hl h2
      symm_saturate
      refine draw_ok (n := rest.length * 5000 + 4998) (h2.le (by omega)) (by decide) (by decide) fun q3 r3 h3 l3 u3 => ?_
      symm_saturate
      obtain ⟨cs, c1, c2, c3⟩ := abc_ok l3 u3
      refine ⟨by decide +kernel, ?_⟩
      simp only [c2]
      refine ⟨c3, c3, ?_, ?_⟩
      · exact Nat.le_trans (show _ ≤ 60 by simp only [List.length_map]; omega) (by decide)
      refine draw_ok (n := rest.length * 5000 + 4997) (h3.le (by omega)) (by decide) (by decide) fun q4 r4 h4 l4 u4 => ?_
      symm_saturate
      obtain ⟨lv, rfl⟩ := Int.eq_ofNat_of_zero_le l4
      have hlv : lv ≤ 5 := by omega
      have hp : 4 ^ (lv + 1) ≤ 4 ^ 6 := Nat.pow_le_pow_right (by decide) (by omega)
      have hp2 : (4 : Nat) ^ 6 = 4096 := by decide
      refine lt_ok lv 10 (rest.length * 5000) q4 (ss ++ cs) _ _ (by rw [List.map_append]) (by omega) hlv (by rw [List.length_append]; omega) (h4.le (by omega)) fun q5 t h5 n5 t5h => ?_
      symm_saturate
      refine ⟨Nat.lt_of_lt_of_le (show _ < 100 by simp only [List.length_map]; omega) (by decide), rest, done ++ [(x, cs, t)], q5, _, _, rfl, by rw [List.map_append]; rfl, by rw [List.length_append]; simp only [List.length_cons, List.length_nil]; omega, h5, fun r hr => ?_⟩
      rcases List.mem_append.mp hr with hr | hr
      · exact hn2 r hr
      · rw [List.mem_singleton.mp hr]
        exact ⟨n5, by simp only; omega⟩
    · rintro e ⟨rest, done, q2, t7, t8, e1, rfl, hl, h2, hn2⟩
      symm_saturate
      have hr : rest = [] := by
        cases rest with
        | nil => rfl
        | cons x r => cases e1
      refine rows_of_ok hn2 (by omega) ?_
      symm_saturate
      rw [ne_self200 (rwd_plain done) (Nat.le_trans (Nat.succ_le_succ (rwd_depth fun r hr => (hn2 r hr).2)) (by decide))]
      symm_saturate
      exact ⟨_, _, _, _, _, _, _, rfl, fun d hd2 => hd d (List.mem_cons_of_mem _ hd2)⟩
  · rintro e ⟨s2, s3, s4, s5, s6, s7, s8, rfl, hd⟩
    symm_saturate

set_option maxHeartbeats 4000000 in
theorem all_mk {l : PySem.W.OpenLaw} {w : World} {K : PySem.W.Frag} {h : Heap} {mg : Str → Option Value} {fa : Addr} (X : K.In h) (G : h.Ns mainGlobals mg) (hfa : mg "law" = some (.ref fa)) {CLifter : Addr} {f0 : Addr} {od0 an0 : Option Addr} {sl0 : Array (Option Value)} {oc0 kV0 dc0 pm0 cd0 ct0 : Value} {f1 : Addr} {od1 an1 : Option Addr} {sl1 : Array (Option Value)} {oc1 kV1 dc1 pm1 cd1 ct1 : Value} {f2 : Addr} {od2 an2 : Option Addr} {sl2 : Array (Option Value)} {oc2 kV2 dc2 pm2 cd2 ct2 : Value} {f3 : Addr} {od3 an3 : Option Addr} {sl3 : Array (Option Value)} {oc3 kV3 dc3 pm3 cd3 ct3 : Value} {f4 : Addr} {od4 an4 : Option Addr} {sl4 : Array (Option Value)} {oc4 kV4 dc4 pm4 cd4 ct4 : Value} {f5 : Addr} {od5 an5 : Option Addr} {sl5 : Array (Option Value)} {oc5 kV5 dc5 pm5 cd5 ct5 : Value} {f6 : Addr} {od6 an6 : Option Addr} {sl6 : Array (Option Value)} {oc6 kV6 dc6 pm6 cd6 ct6 : Value} {f7 : Addr} {od7 an7 : Option Addr} {sl7 : Array (Option Value)} {oc7 kV7 dc7 pm7 cd7 ct7 : Value}
    (qLifter : PySem.W.nsIn K mainGlobals "Lifter" = some (some (.ref CLifter))) (pgLifter : PySem.W.plainGet K CLifter Str.empty = true) (hdLifter : PySem.W.hasDictIn K CLifter = true) (poLifter : PySem.W.plainOver K CLifter = true) (saLifter : PySem.W.findIn K (.ref CLifter) "__setattr__" = some (some (.builtin "object.__setattr__"))) (mkLifter : PySem.W.makesIn K CLifter = true) (kcLifter : PySem.W.keepIn K (.ref CLifter) = true) (naLifter_made_rows : PySem.W.findIn K (.ref CLifter) "made_rows" = some none) (naLifter_given : PySem.W.findIn K (.ref CLifter) "given" = some none) (naLifter_tops : PySem.W.findIn K (.ref CLifter) "tops" = some none) (naLifter_head : PySem.W.findIn K (.ref CLifter) "head" = some none) (a0 : PySem.W.nsIn K mainGlobals "rows_of_def" = some (some (.ref f0))) (l0 : K.lookup f0 = some ⟨oc0, od0, .func (PySem.W.fnOf "rows_of_def" "rows_of_def" (defArgs (topS 7)) (defBody (topS 7)) (defScope (topS 7)) .none kV0 dc0 pm0 an0 cd0 ct0), sl0⟩) (c0 : PySem.W.codeIn K cd0 "rows_of_def" = true) (k0 : PySem.W.keepIn K (.ref f0) = true) (a1 : PySem.W.nsIn K mainGlobals "rows_of" = some (some (.ref f1))) (l1 : K.lookup f1 = some ⟨oc1, od1, .func (PySem.W.fnOf "rows_of" "rows_of" (defArgs (topS 8)) (defBody (topS 8)) (defScope (topS 8)) .none kV1 dc1 pm1 an1 cd1 ct1), sl1⟩) (c1 : PySem.W.codeIn K cd1 "rows_of" = true) (k1 : PySem.W.keepIn K (.ref f1) = true) (a2 : PySem.W.nsIn K mainGlobals "_law_bag" = some (some (.ref f2))) (l2 : K.lookup f2 = some ⟨oc2, od2, .func (PySem.W.fnOf "_law_bag" "_law_bag" (defArgs (topS 10)) (defBody (topS 10)) (defScope (topS 10)) .none kV2 dc2 pm2 an2 cd2 ct2), sl2⟩) (c2 : PySem.W.codeIn K cd2 "_law_bag" = true) (k2 : PySem.W.keepIn K (.ref f2) = true) (a3 : PySem.W.nsIn K mainGlobals "_law_draw" = some (some (.ref f3))) (l3 : K.lookup f3 = some ⟨oc3, od3, .func (PySem.W.fnOf "_law_draw" "_law_draw" (defArgs (topS 11)) (defBody (topS 11)) (defScope (topS 11)) .none kV3 dc3 pm3 an3 cd3 ct3), sl3⟩) (c3 : PySem.W.codeIn K cd3 "_law_draw" = true) (k3 : PySem.W.keepIn K (.ref f3) = true) (a4 : PySem.W.nsIn K mainGlobals "_law_term" = some (some (.ref f4))) (l4 : K.lookup f4 = some ⟨oc4, od4, .func (PySem.W.fnOf "_law_term" "_law_term" (defArgs (topS 12)) (defBody (topS 12)) (defScope (topS 12)) .none kV4 dc4 pm4 an4 cd4 ct4), sl4⟩) (c4 : PySem.W.codeIn K cd4 "_law_term" = true) (k4 : PySem.W.keepIn K (.ref f4) = true) (a5 : PySem.W.nsIn K mainGlobals "law" = some (some (.ref f5))) (l5 : K.lookup f5 = some ⟨oc5, od5, .func (PySem.W.fnOf "law" "law" (defArgs (topS 13)) (defBody (topS 13)) (defScope (topS 13)) .none kV5 dc5 pm5 an5 cd5 ct5), sl5⟩) (c5 : PySem.W.codeIn K cd5 "law" = true) (k5 : PySem.W.keepIn K (.ref f5) = true) (a6 : PySem.W.findIn K (.ref CLifter) "__init__" = some (some (.ref f6))) (i6 : PySem.W.isFn K (.ref f6) = true) (l6 : K.lookup f6 = some ⟨oc6, od6, .func (PySem.W.fnOf "__init__" "Lifter.__init__" (defArgs (inClass (topS 6) 0)) (defBody (inClass (topS 6) 0)) (defScope (inClass (topS 6) 0)) .none kV6 dc6 pm6 an6 cd6 ct6), sl6⟩) (c6 : PySem.W.codeIn K cd6 "Lifter.__init__" = true) (k6 : PySem.W.keepIn K (.ref f6) = true) (a7 : PySem.W.findIn K (.ref CLifter) "lifted" = some (some (.ref f7))) (i7 : PySem.W.isFn K (.ref f7) = true) (l7 : K.lookup f7 = some ⟨oc7, od7, .func (PySem.W.fnOf "lifted" "Lifter.lifted" (defArgs (inClass (topS 6) 3)) (defBody (inClass (topS 6) 3)) (defScope (inClass (topS 6) 3)) .none kV7 dc7 pm7 an7 cd7 ct7), sl7⟩) (c7 : PySem.W.codeIn K cd7 "Lifter.lifted" = true) (k7 : PySem.W.keepIn K (.ref f7) = true)  (z0 : PySem.W.nsIn K mainGlobals "enumerate" = some none) (z1 : PySem.W.nsIn K mainGlobals "len" = some none) (z2 : PySem.W.nsIn K mainGlobals "list" = some none) (z3 : PySem.W.nsIn K mainGlobals "max" = some none) (z4 : PySem.W.nsIn K mainGlobals "sorted" = some none) (z5 : PySem.W.nsIn K mainGlobals "tuple" = some none) :
    ∃ fd : FuncData, (∀ (s : Shared) (v : Value), BindsTo s fd ⟨[v], []⟩ [("_law_script", v)]) ∧ ∀ base : Heap, K.In base → base.Ns mainGlobals mg → FnOk l.prog w K mg base CX0 9 fa fd ["_law_script"] (spTrue K) := by
  have e := hfa.symm.trans (PySem.W.mg_of X G a5)
  cases e
  have S0 : Src K mg "rows_of_def" (topS 7) ["name", "params", "body", "tops"] := src_mk X G a0 l0 c0 k0 (fun _ _ _ _ _ _ us hl => match us, hl with | [_, _, _, _], _ => rfl) (fun _ _ _ _ _ _ us hl => match us, hl with | [_, _, _, _], _ => rfl) (by simp)
  have S1 : Src K mg "rows_of" (topS 8) ["program"] := src_mk X G a1 l1 c1 k1 (fun _ _ _ _ _ _ us hl => match us, hl with | [_], _ => rfl) (fun _ _ _ _ _ _ us hl => match us, hl with | [_], _ => rfl) (by simp)
  have S2 : Src K mg "_law_bag" (topS 10) ["_law_cell", "_law_place"] := src_mk X G a2 l2 c2 k2 (fun _ _ _ _ _ _ us hl => match us, hl with | [_, _], _ => rfl) (fun _ _ _ _ _ _ us hl => match us, hl with | [_, _], _ => rfl) (by simp)
  have S3 : Src K mg "_law_draw" (topS 11) ["_law_bag_here", "_law_many"] := src_mk X G a3 l3 c3 k3 (fun _ _ _ _ _ _ us hl => match us, hl with | [_, _], _ => rfl) (fun _ _ _ _ _ _ us hl => match us, hl with | [_, _], _ => rfl) (by simp)
  have S4 : Src K mg "_law_term" (topS 12) ["_law_bag_here", "_law_bound", "_law_left"] := src_mk X G a4 l4 c4 k4 (fun _ _ _ _ _ _ us hl => match us, hl with | [_, _, _], _ => rfl) (fun _ _ _ _ _ _ us hl => match us, hl with | [_, _, _], _ => rfl) (by simp)
  have S5 : Src K mg "law" (topS 13) ["_law_script"] := src_mk X G a5 l5 c5 k5 (fun _ _ _ _ _ _ us hl => match us, hl with | [_], _ => rfl) (fun _ _ _ _ _ _ us hl => match us, hl with | [_], _ => rfl) (by simp)
  have S6 : ISrc K mg "Lifter" (inClass (topS 6) 0) ["self", "name", "defs"] := isrc_mk X G qLifter mkLifter a6 i6 kcLifter l6 c6 k6 (fun _ _ _ _ _ _ us hl => match us, hl with | [_, _, _], _ => rfl)
  have S7 : MSrc K "Lifter" "lifted" (inClass (topS 6) 3) ["self", "term"] := msrc_mk qLifter ⟨pgLifter, hdLifter, poLifter, saLifter⟩ a7 i7 l7 c7 k7 (fun _ _ _ _ _ _ us hl => match us, hl with | [_, _], _ => rfl)
  have h0 := PySem.W.mg_none_of X G z0
  have h1 := PySem.W.mg_none_of X G z1
  have h2 := PySem.W.mg_none_of X G z2
  have h3 := PySem.W.mg_none_of X G z3
  have h4 := PySem.W.mg_none_of X G z4
  have h5 := PySem.W.mg_none_of X G z5
  have cfLifter_made_rows : ClsF K "Lifter" "made_rows" := fun C n => by have e := qLifter.symm.trans n; cases e; exact ⟨⟨pgLifter, hdLifter, poLifter, saLifter⟩, naLifter_made_rows⟩
  have cfLifter_given : ClsF K "Lifter" "given" := fun C n => by have e := qLifter.symm.trans n; cases e; exact ⟨⟨pgLifter, hdLifter, poLifter, saLifter⟩, naLifter_given⟩
  have cfLifter_tops : ClsF K "Lifter" "tops" := fun C n => by have e := qLifter.symm.trans n; cases e; exact ⟨⟨pgLifter, hdLifter, poLifter, saLifter⟩, naLifter_tops⟩
  have cfLifter_head : ClsF K "Lifter" "head" := fun C n => by have e := qLifter.symm.trans n; cases e; exact ⟨⟨pgLifter, hdLifter, poLifter, saLifter⟩, naLifter_head⟩
  exact law_end (by decide) h (fun base => w_all (P := l.prog) (w := w) (base := base) S0 S1 S2 S3 S4 S5 S6 S7 h0 h1 h2 h3 h4 h5   cfLifter_made_rows cfLifter_given cfLifter_tops cfLifter_head) (PySem.W.mg_of X G a5) math_law
end K52
open PySem PySem.W PyProof.Rows
set_option maxRecDepth 100000 in
set_option maxHeartbeats 0 in
theorem PySem.Challenge.cw_lateloom_k52_rows_without_functions_holds : PySem.Challenge.rw_lateloom_k52_rows_without_functions.Holds := by
  w_on; o_law; k_head; (case hw => w_witness2)
  k_fill
  refine L2.walk_ofB (l := PySem.Challenge.rw_lateloom_k52_rows_without_functions) (n := 63) (x := "_law_script") (k := 9) (CX := fun _ => L2.CX0) (sp := fun w => M.spTrue _) rfl (by decide) rfl ⟨rfl, by decide, by decide⟩ (fun w h Y => PySem.W.kIn_of Y) ?F (fun _ _ a ns hl hb _ hS => ⟨a, ns, rfl, hS, hl, hb, fun _ => rfl⟩) (fun _ _ _ _ _ h => h)
  case F =>
    intro w mg fa h KX G hmg
    refine' K52.all_mk KX G hmg ?qLifter ?pgLifter ?hdLifter ?poLifter ?saLifter ?mkLifter ?kcLifter ?naLifter_made_rows ?naLifter_given ?naLifter_tops ?naLifter_head ?a0 ?l0 ?c0 ?k0 ?a1 ?l1 ?c1 ?k1 ?a2 ?l2 ?c2 ?k2 ?a3 ?l3 ?c3 ?k3 ?a4 ?l4 ?c4 ?k4 ?a5 ?l5 ?c5 ?k5 ?a6 ?i6 ?l6 ?c6 ?k6 ?a7 ?i7 ?l7 ?c7 ?k7 ?z0 ?z1 ?z2 ?z3 ?z4 ?z5
    (case qLifter => k_is); (case pgLifter => k_is); (case hdLifter => k_is); (case poLifter => k_is); (case saLifter => k_is); (case mkLifter => k_is); (case kcLifter => k_is); (case naLifter_made_rows => k_is); (case naLifter_given => k_is); (case naLifter_tops => k_is); (case naLifter_head => k_is); (case a0 => k_is); (case l0 => k_is); (case c0 => k_is); (case k0 => k_is); (case a1 => k_is); (case l1 => k_is); (case c1 => k_is); (case k1 => k_is); (case a2 => k_is); (case l2 => k_is); (case c2 => k_is); (case k2 => k_is); (case a3 => k_is); (case l3 => k_is); (case c3 => k_is); (case k3 => k_is); (case a4 => k_is); (case l4 => k_is); (case c4 => k_is); (case k4 => k_is); (case a5 => k_is); (case l5 => k_is); (case c5 => k_is); (case k5 => k_is); (case a6 => k_is); (case i6 => k_is); (case l6 => k_is); (case c6 => k_is); (case k6 => k_is); (case a7 => k_is); (case i7 => k_is); (case l7 => k_is); (case c7 => k_is); (case k7 => k_is); (case z0 => k_is); (case z1 => k_is); (case z2 => k_is); (case z3 => k_is); (case z4 => k_is); (case z5 => k_is)
