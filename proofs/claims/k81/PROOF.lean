import PyProof.Rows.All
import HandS.ForMost
import HandS.Exc
import HandS.Wide
import HandS.Style
import HandS.Flow
import HandS.More
import HandS.Property
import HandS.ClsMeth
import HandS.Star
import HandS.FStr
import HandS.IsInst
import HandS.Conv
import HandS.SortInts
import HandS.ExcOwn
import KE.KSortedM
import PyProof.ReprRoads
import HandS.Zip
import KE.GoesEnum
import KE.KUnpackStar
import HandS.Codes
import PySem.Challenge.RW_signsheets_k81_texts_both_ways
set_option Elab.async false
set_option linter.all false
set_option maxRecDepth 100000
set_option maxHeartbeats 4000000
set_option exponentiation.threshold 3000
/-! The data layer, part a: data, what represents them, the state relation, frozen and owned objects. -/
namespace DS
open PySem L2

/-- data: what a Python value is, without the heap; ref n: the n-th shared mutable object -/
inductive D where
  | non | bl (b : Bool) | int (i : Int) | str (s : Str)
  | tup (xs : List D) | lst (xs : List D) | klst (xs : List D)
  | dct (ks : List Key) (xs : List D)
  | ins (C : Addr) (ns : List Str) (xs : List D)
  | ref (n : Nat)
  | obj (v : V)
instance : Inhabited D := ⟨.non⟩

/-- what a mutable object holds -/
inductive Cont where
  | lst (xs : List D) | dct (kvs : List (Key × D)) | ins (C : Addr) (fs : List (Str × D))
def Cont.toD : Cont → D
  | .lst xs => .lst xs
  | .dct kvs => .dct (kvs.map (·.1)) (kvs.map (·.2))
  | .ins C fs => .ins C (fs.map (·.1)) (fs.map (·.2))
/-- a slot: frozen data, or an object of which this slot holds the only reference -/
inductive SV where
  | fz (d : D) | own (c : Cont)
abbrev Sl := List (Option SV)
structure S where
  cs : List Cont
  sl : Sl
structure Exn where
  C : Addr
  fs : List (Str × D)
/-- an operand: data, or the object that slot i owns -/
inductive O where
  | val (d : D) | bor (i : Nat)
inductive RV where
  | opd (o : O) | own (c : Cont)
inductive R (α : Type) where
  | ok (a : α) (s : S) | exn (x : Exn) (s : S) | stuck
abbrev M (α : Type) := S → R α
def M.pure {α : Type} (a : α) : M α := fun s => .ok a s
def M.bind {α β : Type} (m : M α) (k : α → M β) : M β := fun s => match m s with
  | .ok a s' => k a s'
  | .exn x s' => .exn x s'
  | .stuck => .stuck
instance : Monad M where
  pure := M.pure
  bind := M.bind
def M.stuck {α : Type} : M α := fun _ => .stuck
def M.get : M S := fun s => .ok s s
def M.set (s : S) : M Unit := fun _ => .ok () s

/-! ### what represents data -/
section
variable (K : PySem.W.Frag) (G : Hp) (A : List Addr)
mutual
def Rep : D → V → Prop
  | .non, v => v = .non
  | .bl b, v => v = .bl b
  | .int i, v => v = .int i
  | .str x, v => v = .str x
  | .tup ds, v => ∃ a vs, v = .ref a ∧ SqT K G a vs ∧ Reps ds vs
  | .lst ds, v => ∃ a vs, v = .ref a ∧ G a = some (.lst vs) ∧ Reps ds vs
  | .klst ds, v => ∃ a vs, v = .ref a ∧ SqL K G a vs ∧ Reps ds vs
  | .dct ks ds, v => ∃ a kv, v = .ref a ∧ G a = some (.dK kv) ∧ kv.map (·.1) = ks ∧ Reps ds (kv.map (·.2))
  | .ins C ns ds, v => ∃ a dx fv, v = .ref a ∧ G a = some (.ins C dx fv) ∧ fv.map (·.1) = ns ∧ Reps ds (fv.map (·.2))
  | .ref n, v => ∃ a, v = .ref a ∧ A[n]? = some a
  | .obj w, v => v = w
def Reps : List D → List V → Prop
  | [], vs => vs = []
  | d :: ds, vs => ∃ v r, vs = v :: r ∧ Rep d v ∧ Reps ds r
end
end

def Ext (G G' : Hp) : Prop := ∀ a o, G a = some o → G' a = some o
theorem Ext.refl {G : Hp} : Ext G G := fun _ _ h => h
theorem Ext.trans {G G1 G2 : Hp} (h : Ext G G1) (h' : Ext G1 G2) : Ext G G2 := fun a o e => h' a o (h a o e)
theorem Ext.upd {G : Hp} {a : Addr} {o : HO} (h : G a = none) : Ext G (upd G a o) := fun b u e => by
  rw [upd_ne (ne_of_none e h)]; exact e
abbrev Pre (A A' : List Addr) : Prop := A <+: A'
theorem Pre.refl {A : List Addr} : Pre A A := List.prefix_refl A
theorem Pre.get {A A' : List Addr} (h : Pre A A') {n : Nat} {a : Addr} (e : A[n]? = some a) : A'[n]? = some a := by
  obtain ⟨t, rfl⟩ := h
  obtain ⟨hl, e2⟩ := List.getElem?_eq_some_iff.mp e
  rw [List.getElem?_append_left hl]; exact e

theorem Rd.ext {G G' : Hp} (h : Ext G G') {a : Addr} {u : HO} (r : Rd G a u) : Rd G' a u := by
  rcases r with r | ⟨o, r⟩
  · exact .inl (h _ _ r)
  · exact .inr ⟨o, h _ _ r⟩
theorem sqL_ext {K : PySem.W.Frag} {G G' : Hp} (h : Ext G G') {a : Addr} {vs : List V} (r : SqL K G a vs) : SqL K G' a vs := by
  rcases r with r | r
  · exact .inl (Rd.ext h r)
  · exact .inr r
theorem sqT_ext {K : PySem.W.Frag} {G G' : Hp} (h : Ext G G') {a : Addr} {vs : List V} (r : SqT K G a vs) : SqT K G' a vs := by
  rcases r with r | r
  · exact .inl (Rd.ext h r)
  · exact .inr r

section
variable {K : PySem.W.Frag} {G G' : Hp} {A A' : List Addr}
mutual
theorem Rep.mono (h : Ext G G') (p : Pre A A') : ∀ (d : D) {v : V}, Rep K G A d v → Rep K G' A' d v
  | .non, _, r => by simpa only [Rep] using r
  | .bl b, _, r => by simpa only [Rep] using r
  | .int i, _, r => by simpa only [Rep] using r
  | .str x, _, r => by simpa only [Rep] using r
  | .tup ds, v, r => by
    simp only [Rep] at r ⊢
    obtain ⟨a, vs, e, q, rs⟩ := r
    exact ⟨a, vs, e, sqT_ext h q, Reps.mono h p ds rs⟩
  | .lst ds, v, r => by
    simp only [Rep] at r ⊢
    obtain ⟨a, vs, e, q, rs⟩ := r
    exact ⟨a, vs, e, h _ _ q, Reps.mono h p ds rs⟩
  | .klst ds, v, r => by
    simp only [Rep] at r ⊢
    obtain ⟨a, vs, e, q, rs⟩ := r
    exact ⟨a, vs, e, sqL_ext h q, Reps.mono h p ds rs⟩
  | .dct ks ds, v, r => by
    simp only [Rep] at r ⊢
    obtain ⟨a, kv, e, q, ek, rs⟩ := r
    exact ⟨a, kv, e, h _ _ q, ek, Reps.mono h p ds rs⟩
  | .ins C ns ds, v, r => by
    simp only [Rep] at r ⊢
    obtain ⟨a, dx, fv, e, q, ek, rs⟩ := r
    exact ⟨a, dx, fv, e, h _ _ q, ek, Reps.mono h p ds rs⟩
  | .ref n, v, r => by
    simp only [Rep] at r ⊢
    obtain ⟨a, e, q⟩ := r
    exact ⟨a, e, p.get q⟩
  | .obj w, _, r => by simpa only [Rep] using r
theorem Reps.mono (h : Ext G G') (p : Pre A A') : ∀ (ds : List D) {vs : List V}, Reps K G A ds vs → Reps K G' A' ds vs
  | [], _, r => by simpa only [Reps] using r
  | d :: ds, vs, r => by
    simp only [Reps] at r ⊢
    obtain ⟨v, t, e, r1, r2⟩ := r
    exact ⟨v, t, e, Rep.mono h p d r1, Reps.mono h p ds r2⟩
end
theorem Reps.nil : Reps K G A [] [] := by simp only [Reps]
theorem Reps.cons {d : D} {v : V} {ds : List D} {vs : List V} (h : Rep K G A d v) (t : Reps K G A ds vs) : Reps K G A (d :: ds) (v :: vs) := by
  simp only [Reps]; exact ⟨v, vs, rfl, h, t⟩
theorem Reps.inv {d : D} {ds : List D} {vs : List V} (h : Reps K G A (d :: ds) vs) : ∃ v r, vs = v :: r ∧ Rep K G A d v ∧ Reps K G A ds r := by
  simpa only [Reps] using h
theorem Reps.inv0 {vs : List V} (h : Reps K G A [] vs) : vs = [] := by simpa only [Reps] using h
theorem Reps.length : ∀ {ds : List D} {vs : List V}, Reps K G A ds vs → vs.length = ds.length
  | [], _, r => by rw [r.inv0]; rfl
  | _ :: _, _, r => by
    obtain ⟨v, t, rfl, _, r2⟩ := r.inv
    simp [Reps.length r2]
theorem Reps.append : ∀ {ds es : List D} {vs ws : List V}, Reps K G A ds vs → Reps K G A es ws → Reps K G A (ds ++ es) (vs ++ ws)
  | [], _, _, _, r, q => by rw [r.inv0]; exact q
  | _ :: _, _, _, _, r, q => by
    obtain ⟨v, t, rfl, r1, r2⟩ := r.inv
    exact Reps.cons r1 (Reps.append r2 q)
theorem Reps.get : ∀ {ds : List D} {vs : List V} {i : Nat} {d : D}, Reps K G A ds vs → ds[i]? = some d → ∃ v, vs[i]? = some v ∧ Rep K G A d v
  | [], _, _, _, _, e => by simp at e
  | _ :: _, _, 0, _, r, e => by
    obtain ⟨v, t, rfl, r1, _⟩ := r.inv
    simp at e; subst e
    exact ⟨v, rfl, r1⟩
  | _ :: _, _, i + 1, _, r, e => by
    obtain ⟨v, t, rfl, _, r2⟩ := r.inv
    obtain ⟨w, h1, h2⟩ := Reps.get (i := i) r2 (by simpa using e)
    exact ⟨w, by simpa using h1, h2⟩
theorem Reps.getV {ds : List D} {vs : List V} {i : Nat} {v : V} (r : Reps K G A ds vs) (e : vs[i]? = some v) : ∃ d, ds[i]? = some d ∧ Rep K G A d v := by
  have hl := r.length
  have hi : i < ds.length := by
    have := (List.getElem?_eq_some_iff.mp e).1
    omega
  obtain ⟨w, h1, h2⟩ := r.get (i := i) (d := ds[i]) (by simp [hi])
  rw [e] at h1; cases h1
  exact ⟨ds[i], by simp [hi], h2⟩
theorem Reps.set : ∀ {ds : List D} {vs : List V} (i : Nat) {d : D} {v : V}, Reps K G A ds vs → Rep K G A d v → Reps K G A (ds.set i d) (vs.set i v)
  | [], _, _, _, _, r, _ => by rw [r.inv0]; exact Reps.nil
  | _ :: _, _, 0, _, _, r, q => by
    obtain ⟨v, t, rfl, _, r2⟩ := r.inv
    exact Reps.cons q r2
  | _ :: _, _, i + 1, _, _, r, q => by
    obtain ⟨v, t, rfl, r1, r2⟩ := r.inv
    exact Reps.cons r1 (Reps.set i r2 q)
theorem Reps.take : ∀ {ds : List D} {vs : List V} (n : Nat), Reps K G A ds vs → Reps K G A (ds.take n) (vs.take n)
  | _, _, 0, _ => by simpa using Reps.nil
  | [], _, _ + 1, r => by rw [r.inv0]; exact Reps.nil
  | _ :: _, _, n + 1, r => by
    obtain ⟨v, t, rfl, r1, r2⟩ := r.inv
    exact Reps.cons r1 (Reps.take n r2)
theorem Reps.drop : ∀ {ds : List D} {vs : List V} (n : Nat), Reps K G A ds vs → Reps K G A (ds.drop n) (vs.drop n)
  | _, _, 0, r => by simpa using r
  | [], _, _ + 1, r => by rw [r.inv0]; exact Reps.nil
  | _ :: _, _, n + 1, r => by
    obtain ⟨v, t, rfl, r1, r2⟩ := r.inv
    simpa using Reps.drop n r2
theorem Reps.reverse : ∀ {ds : List D} {vs : List V}, Reps K G A ds vs → Reps K G A ds.reverse vs.reverse
  | [], _, r => by rw [r.inv0]; exact Reps.nil
  | _ :: _, _, r => by
    obtain ⟨v, t, rfl, r1, r2⟩ := r.inv
    rw [List.reverse_cons, List.reverse_cons]
    exact (Reps.reverse r2).append (Reps.cons r1 Reps.nil)
theorem Reps.eraseIdx : ∀ {ds : List D} {vs : List V} (i : Nat), Reps K G A ds vs → Reps K G A (ds.eraseIdx i) (vs.eraseIdx i)
  | [], _, _, r => by rw [r.inv0]; exact Reps.nil
  | _ :: _, _, 0, r => by
    obtain ⟨v, t, rfl, _, r2⟩ := r.inv
    exact r2
  | _ :: _, _, i + 1, r => by
    obtain ⟨v, t, rfl, r1, r2⟩ := r.inv
    exact Reps.cons r1 (Reps.eraseIdx i r2)
theorem Reps.ints : ∀ (ns : List Int), Reps K G A (ns.map D.int) (ns.map V.int)
  | [] => Reps.nil
  | n :: r => Reps.cons (by simp only [Rep]) (Reps.ints r)
theorem Reps.strs : ∀ (ns : List Str), Reps K G A (ns.map D.str) (ns.map V.str)
  | [] => Reps.nil
  | n :: r => Reps.cons (by simp only [Rep]) (Reps.strs r)
theorem Reps.of_ints : ∀ {ns : List Int} {vs : List V}, Reps K G A (ns.map D.int) vs → vs = ns.map V.int
  | [], _, r => r.inv0
  | n :: t, _, r => by
    obtain ⟨v, w, rfl, r1, r2⟩ := r.inv
    simp only [Rep] at r1; subst r1
    rw [Reps.of_ints r2]; rfl
theorem Reps.of_strs : ∀ {ns : List Str} {vs : List V}, Reps K G A (ns.map D.str) vs → vs = ns.map V.str
  | [], _, r => r.inv0
  | n :: t, _, r => by
    obtain ⟨v, w, rfl, r1, r2⟩ := r.inv
    simp only [Rep] at r1; subst r1
    rw [Reps.of_strs r2]; rfl
theorem Reps.of_bls : ∀ {ns : List Bool} {vs : List V}, Reps K G A (ns.map D.bl) vs → vs = ns.map V.bl
  | [], _, r => r.inv0
  | n :: t, _, r => by
    obtain ⟨v, w, rfl, r1, r2⟩ := r.inv
    simp only [Rep] at r1; subst r1
    rw [Reps.of_bls r2]; rfl
end

/-- an object's content -/
def RepC (K : PySem.W.Frag) (G H : Hp) (A : List Addr) : Cont → Addr → Prop
  | .lst xs, a => ∃ vs, H a = some (.lst vs) ∧ Reps K G A xs vs
  | .dct kvs, a => ∃ kv, H a = some (.dK kv) ∧ kv.map (·.1) = kvs.map (·.1) ∧ Reps K G A (kvs.map (·.2)) (kv.map (·.2))
  | .ins C fs, a => ∃ dx fv, H a = some (.ins C dx fv) ∧ fv.map (·.1) = fs.map (·.1) ∧ Reps K G A (fs.map (·.2)) (fv.map (·.2))
theorem RepC.mono {K : PySem.W.Frag} {G G' H H' : Hp} {A A' : List Addr} (h : Ext G G') (p : Pre A A') {c : Cont} {a : Addr} (e : H' a = H a) (r : RepC K G H A c a) : RepC K G' H' A' c a := by
  cases c with
  | lst xs => obtain ⟨vs, q, rs⟩ := r; exact ⟨vs, e.trans q, rs.mono h p⟩
  | dct kvs => obtain ⟨kv, q, k, rs⟩ := r; exact ⟨kv, e.trans q, k, rs.mono h p⟩
  | ins C fs => obtain ⟨dx, fv, q, k, rs⟩ := r; exact ⟨dx, fv, e.trans q, k, rs.mono h p⟩
/-- the object as it stands there -/
theorem RepC.obj {K : PySem.W.Frag} {G H : Hp} {A : List Addr} {c : Cont} {a : Addr} (r : RepC K G H A c a) : ∃ o, H a = some o ∧ Mut (some o) := by
  cases c with
  | lst xs => obtain ⟨vs, q, _⟩ := r; exact ⟨_, q, trivial⟩
  | dct kvs => obtain ⟨kv, q, _⟩ := r; exact ⟨_, q, trivial⟩
  | ins C fs => obtain ⟨dx, fv, q, _⟩ := r; exact ⟨_, q, trivial⟩

/-- G: what is frozen; F: what belongs to others; A: the shared objects' addresses; cs: their contents -/
structure WS (K : PySem.W.Frag) (F G H : Hp) (A : List Addr) (σ : L2.St) (s : S) : Prop where
  sub : ∀ a o, G a = some o → H a = some o ∨ ∃ ob kv, o = .dK kv ∧ H a = some (.frz ob o)
  fr : ∀ a o, F a = some o → H a = some o ∧ G a = none ∧ a ∉ A
  len : A.length = s.cs.length
  nd : A.Nodup
  cell : ∀ (n : Nat) (c : Cont) (a : Addr), s.cs[n]? = some c → A[n]? = some a → G a = none ∧ RepC K G H A c a
  fz : ∀ (i : Nat) (d : D), s.sl[i]? = some (some (.fz d)) → ∃ v, σ[i]? = some (some v) ∧ Rep K G A d v
  own : ∀ (i : Nat) (c : Cont), s.sl[i]? = some (some (.own c)) → ∃ a, σ[i]? = some (some (.ref a)) ∧ G a = none ∧ F a = none ∧ a ∉ A ∧ RepC K G H A c a
  apart : ∀ (i j : Nat) (c d : Cont) (a : Addr), i ≠ j → s.sl[i]? = some (some (.own c)) → s.sl[j]? = some (some (.own d)) → σ[i]? = some (some (.ref a)) → σ[j]? = some (some (.ref a)) → False

theorem WS.lst {K : PySem.W.Frag} {F G H : Hp} {A : List Addr} {σ : L2.St} {s : S} (w : WS K F G H A σ s) {a : Addr} {vs : List V} (h : G a = some (.lst vs)) : H a = some (.lst vs) := by
  rcases w.sub _ _ h with h | ⟨ob, kv, e, _⟩
  · exact h
  · cases e
theorem WS.rd {K : PySem.W.Frag} {F G H : Hp} {A : List Addr} {σ : L2.St} {s : S} (w : WS K F G H A σ s) {a : Addr} {o : HO} (hn : ∀ kv, o ≠ .dK kv) (h : G a = some o) : H a = some o := by
  rcases w.sub _ _ h with h | ⟨ob, kv, e, _⟩
  · exact h
  · exact absurd e (hn kv)
theorem WS.sqL {K : PySem.W.Frag} {F G H : Hp} {A : List Addr} {σ : L2.St} {s : S} (w : WS K F G H A σ s) {a : Addr} {vs : List V} (h : SqL K G a vs) : SqL K H a vs := by
  rcases h with (h | ⟨o, h⟩) | h
  · exact .inl (.inl (w.rd (fun _ z => nomatch z) h))
  · exact .inl (.inr ⟨o, w.rd (fun _ z => nomatch z) h⟩)
  · exact .inr h
theorem WS.sqT {K : PySem.W.Frag} {F G H : Hp} {A : List Addr} {σ : L2.St} {s : S} (w : WS K F G H A σ s) {a : Addr} {vs : List V} (h : SqT K G a vs) : SqT K H a vs := by
  rcases h with (h | ⟨o, h⟩) | h
  · exact .inl (.inl (w.rd (fun _ z => nomatch z) h))
  · exact .inl (.inr ⟨o, w.rd (fun _ z => nomatch z) h⟩)
  · exact .inr h
/-- what is tracked nowhere is neither frozen nor ours nor others' -/
theorem WS.fresh {K : PySem.W.Frag} {F G H : Hp} {A : List Addr} {σ : L2.St} {s : S} (w : WS K F G H A σ s) {p : Addr} (h : H p = none) : G p = none ∧ F p = none ∧ p ∉ A ∧ ∀ (i : Nat) (c : Cont), s.sl[i]? = some (some (.own c)) → σ[i]? ≠ some (some (.ref p)) := by
  refine ⟨?_, ?_, ?_, ?_⟩
  · cases e : G p with
    | none => rfl
    | some o =>
      rcases w.sub _ _ e with q | ⟨ob, kv, _, q⟩ <;> rw [h] at q <;> cases q
  · cases e : F p with
    | none => rfl
    | some o => have q := (w.fr _ _ e).1; rw [h] at q; cases q
  · intro hp
    obtain ⟨n, hn, e⟩ := List.getElem_of_mem hp
    have e1 : A[n]? = some p := by rw [← e]; simp [hn]
    have hc : n < s.cs.length := by rw [← w.len]; exact hn
    obtain ⟨_, r⟩ := w.cell n s.cs[n] p (by simp [hc]) e1
    obtain ⟨o, q, _⟩ := r.obj
    rw [h] at q; cases q
  · intro i c e z
    obtain ⟨a, e1, _, _, _, r⟩ := w.own i c e
    rw [z] at e1
    have ea : p = a := by simpa using e1
    subst ea
    obtain ⟨o, q, _⟩ := r.obj
    rw [h] at q; cases q
/-- a new object, frozen at once -/
theorem WS.newFz {K : PySem.W.Frag} {F G H : Hp} {A : List Addr} {σ : L2.St} {s : S} (w : WS K F G H A σ s) {p : Addr} {o : HO} (h : H p = none) : WS K F (upd G p o) (upd H p o) A σ s ∧ Ext G (upd G p o) := by
  obtain ⟨gp, fp, ap, op⟩ := w.fresh h
  have ex : Ext G (upd G p o) := Ext.upd gp
  refine ⟨⟨fun a u e => ?_, fun a u e => ?_, w.len, w.nd, fun n c a e1 e2 => ?_, fun i d e => ?_, fun i c e => ?_, w.apart⟩, ex⟩
  · by_cases q : a = p
    · subst q; rw [upd_same] at e; cases e; exact .inl upd_same
    · rw [upd_ne q] at e ⊢; exact w.sub a u e
  · obtain ⟨h1, h2, h3⟩ := w.fr a u e
    have q : a ≠ p := fun z => by rw [z, fp] at e; cases e
    exact ⟨by rw [upd_ne q]; exact h1, by rw [upd_ne q]; exact h2, h3⟩
  · obtain ⟨h1, h2⟩ := w.cell n c a e1 e2
    have q : a ≠ p := fun z => ap (z ▸ List.mem_of_getElem? e2)
    exact ⟨by rw [upd_ne q]; exact h1, h2.mono ex Pre.refl (by rw [upd_ne q])⟩
  · obtain ⟨v, h1, h2⟩ := w.fz i d e
    exact ⟨v, h1, h2.mono ex Pre.refl⟩
  · obtain ⟨a, h1, h2, h3, h4, h5⟩ := w.own i c e
    have q : a ≠ p := fun z => op i c e (z ▸ h1)
    exact ⟨a, h1, by rw [upd_ne q]; exact h2, h3, h4, h5.mono ex Pre.refl (by rw [upd_ne q])⟩
/-- a new object of which nothing is said -/
theorem WS.newLoose {K : PySem.W.Frag} {F G H : Hp} {A : List Addr} {σ : L2.St} {s : S} (w : WS K F G H A σ s) {p : Addr} {o : HO} (h : H p = none) : WS K F G (upd H p o) A σ s := by
  obtain ⟨gp, fp, ap, op⟩ := w.fresh h
  refine ⟨fun a u e => ?_, fun a u e => ?_, w.len, w.nd, fun n c a e1 e2 => ?_, w.fz, fun i c e => ?_, w.apart⟩
  · have q : a ≠ p := fun z => by rw [z, gp] at e; cases e
    rw [upd_ne q]; exact w.sub a u e
  · obtain ⟨h1, h2, h3⟩ := w.fr a u e
    have q : a ≠ p := fun z => by rw [z, fp] at e; cases e
    exact ⟨by rw [upd_ne q]; exact h1, h2, h3⟩
  · obtain ⟨h1, h2⟩ := w.cell n c a e1 e2
    have q : a ≠ p := fun z => ap (z ▸ List.mem_of_getElem? e2)
    exact ⟨h1, h2.mono Ext.refl Pre.refl (by rw [upd_ne q])⟩
  · obtain ⟨a, h1, h2, h3, h4, h5⟩ := w.own i c e
    have q : a ≠ p := fun z => op i c e (z ▸ h1)
    exact ⟨a, h1, h2, h3, h4, h5.mono Ext.refl Pre.refl (by rw [upd_ne q])⟩

/-! ### results -/
def RO (K : PySem.W.Frag) (G : Hp) (A : List Addr) (σ : L2.St) : O → V → Prop
  | .val d, v => Rep K G A d v
  | .bor i, v => σ[i]? = some (some v)
/-- an object that no one else holds -/
structure Lone (K : PySem.W.Frag) (F G H : Hp) (A : List Addr) (σ : L2.St) (s : S) (c : Cont) (a : Addr) : Prop where
  g : G a = none
  f : F a = none
  sh : a ∉ A
  sl : ∀ (i : Nat) (c' : Cont), s.sl[i]? = some (some (.own c')) → σ[i]? ≠ some (some (.ref a))
  rep : RepC K G H A c a
def RP (K : PySem.W.Frag) (F G H : Hp) (A : List Addr) (σ : L2.St) (s : S) : RV → V → Prop
  | .opd o, v => RO K G A σ o v
  | .own c, v => ∃ a, v = .ref a ∧ Lone K F G H A σ s c a
theorem RO.mono {K : PySem.W.Frag} {G G' : Hp} {A A' : List Addr} {σ : L2.St} (h : Ext G G') (p : Pre A A') {o : O} {v : V} (r : RO K G A σ o v) : RO K G' A' σ o v := by
  cases o with
  | val d => exact Rep.mono h p d r
  | bor i => exact r
theorem WS.newLone {K : PySem.W.Frag} {F G H : Hp} {A : List Addr} {σ : L2.St} {s : S} (w : WS K F G H A σ s) {p : Addr} {xs : List D} {vs : List V} (h : H p = none) (r : Reps K G A xs vs) :
    WS K F G (upd H p (.lst vs)) A σ s ∧ Lone K F G (upd H p (.lst vs)) A σ s (.lst xs) p := by
  obtain ⟨gp, fp, ap, op⟩ := w.fresh h
  exact ⟨w.newLoose h, gp, fp, ap, op, vs, upd_same, r⟩
/-- a lone object is frozen -/
theorem WS.freeze {K : PySem.W.Frag} {F G H : Hp} {A : List Addr} {σ : L2.St} {s : S} (w : WS K F G H A σ s) {a : Addr} {c : Cont} (l : Lone K F G H A σ s c a) :
    ∃ G', WS K F G' H A σ s ∧ Ext G G' ∧ Rep K G' A c.toD (.ref a) := by
  obtain ⟨o, ho, _⟩ := l.rep.obj
  have ex : Ext G (upd G a o) := Ext.upd l.g
  refine ⟨upd G a o, ⟨fun b u e => ?_, fun b u e => ?_, w.len, w.nd, fun n c' b e1 e2 => ?_, fun i d e => ?_, fun i c' e => ?_, w.apart⟩, ex, ?_⟩
  · by_cases q : b = a
    · subst q; rw [upd_same] at e; cases e; exact .inl ho
    · rw [upd_ne q] at e; exact w.sub b u e
  · obtain ⟨h1, h2, h3⟩ := w.fr b u e
    have q : b ≠ a := fun z => by rw [z, l.f] at e; cases e
    exact ⟨h1, by rw [upd_ne q]; exact h2, h3⟩
  · obtain ⟨h1, h2⟩ := w.cell n c' b e1 e2
    have q : b ≠ a := fun z => l.sh (z ▸ List.mem_of_getElem? e2)
    exact ⟨by rw [upd_ne q]; exact h1, h2.mono ex Pre.refl rfl⟩
  · obtain ⟨v, h1, h2⟩ := w.fz i d e
    exact ⟨v, h1, h2.mono ex Pre.refl⟩
  · obtain ⟨b, h1, h2, h3, h4, h5⟩ := w.own i c' e
    have q : b ≠ a := fun z => l.sl i c' e (z ▸ h1)
    exact ⟨b, h1, by rw [upd_ne q]; exact h2, h3, h4, h5.mono ex Pre.refl rfl⟩
  · have r := l.rep
    cases c with
    | lst xs =>
      obtain ⟨vs, q, rs⟩ := r
      rw [q] at ho; cases ho
      simp only [Cont.toD, Rep]
      exact ⟨a, vs, rfl, upd_same, rs.mono ex Pre.refl⟩
    | dct kvs =>
      obtain ⟨kv, q, k, rs⟩ := r
      rw [q] at ho; cases ho
      simp only [Cont.toD, Rep]
      exact ⟨a, kv, rfl, upd_same, k, rs.mono ex Pre.refl⟩
    | ins C fs =>
      obtain ⟨dx, fv, q, k, rs⟩ := r
      rw [q] at ho; cases ho
      simp only [Cont.toD, Rep]
      exact ⟨a, dx, fv, rfl, upd_same, k, rs.mono ex Pre.refl⟩
end DS
/-! The data layer, part b: the judgement on expressions and its rules for names, operators, tests. -/
namespace DS
open PySem L2

def RepX (K : PySem.W.Frag) (G H : Hp) (A : List Addr) (x : Exn) (cls : Value) (d : Option Addr) : Prop :=
  cls = .ref x.C ∧ ((x.fs = [] ∧ d = none) ∨ ∃ a fv, d = some a ∧ H a = some (.xd fv) ∧ fv.map (·.1) = x.fs.map (·.1) ∧ Reps K G A (x.fs.map (·.2)) (fv.map (·.2)))

abbrev Rl (α β : Type) := Hp → Hp → Hp → List Addr → L2.St → S → α → β → Prop
/-- m, run at the data state s that the heap H bears, ends in what Q wants -/
def At {α β : Type} (K : PySem.W.Frag) (Wx : WX) (Rel : Rl α β) (m : M α) (F G : Hp) (A : List Addr) (σ : L2.St) (s : S) (H : Hp) (Q : β → Hp → Prop) : Prop :=
  WS K F G H A σ s ∧ match m s with
  | .ok r s' => ∀ v G' H' A', WS K F G' H' A' σ s' → Rel F G' H' A' σ s' r v → Ext G G' → Pre A A' → Q v H'
  | .exn x s' => ∀ cls d G' H' A', WS K F G' H' A' σ s' → RepX K G' H' A' x cls d → Ext G G' → Pre A A' → Wx cls d σ H'
  | .stuck => False
section
variable {α β γ δ : Type} {K : PySem.W.Frag} {Wx : WX} {Rel : Rl α β} {Rel2 : Rl γ δ} {F G H : Hp} {A : List Addr} {σ : L2.St} {s : S}
theorem At.mono {m : M α} {Q Q' : β → Hp → Prop} (h : At K Wx Rel m F G A σ s H Q) (k : ∀ v H', Q v H' → Q' v H') : At K Wx Rel m F G A σ s H Q' := by
  obtain ⟨w, h⟩ := h
  refine ⟨w, ?_⟩
  revert h
  cases m s with
  | ok r s' => exact fun h v G' H' A' w' r' e p => k _ _ (h v G' H' A' w' r' e p)
  | exn x s' => exact id
  | stuck => exact id
theorem bind_def {m : M α} {k : α → M γ} (s : S) : (m >>= k) s = match m s with
  | .ok a s' => k a s'
  | .exn x s' => .exn x s'
  | .stuck => .stuck := rfl
@[simp] theorem bind_app {m : M α} {k : α → M γ} (s : S) : (m >>= k) s = M.bind m k s := rfl
@[simp] theorem pure_app (a : α) (s : S) : (pure a : M α) s = .ok a s := rfl
theorem mbind_ok {m : M α} {k : α → M γ} {s s' : S} {a : α} (h : m s = .ok a s') : M.bind m k s = k a s' := by unfold M.bind; rw [h]
theorem At.bind {m : M α} {k : α → M γ} {Q : δ → Hp → Prop} (h : At K Wx Rel2 (m >>= k) F G A σ s H Q) :
    At K Wx Rel m F G A σ s H (fun v H1 => ∃ G1 A1 s1 r, Rel F G1 H1 A1 σ s1 r v ∧ Ext G G1 ∧ Pre A A1 ∧ At K Wx Rel2 (k r) F G1 A1 σ s1 H1 Q) := by
  obtain ⟨w, h⟩ := h
  refine ⟨w, ?_⟩
  rw [bind_def] at h
  revert h
  cases m s with
  | stuck => exact id
  | exn x s' => exact id
  | ok r s' =>
    intro h v G' H' A' w' r' e p
    refine ⟨G', A', s', r, r', e, p, w', ?_⟩
    dsimp only at h
    revert h
    cases k r s' with
    | stuck => exact id
    | exn x s2 => exact fun h cls d G2 H2 A2 w2 x2 e2 p2 => h cls d G2 H2 A2 w2 x2 (e.trans e2) (p.trans p2)
    | ok r2 s2 => exact fun h v2 G2 H2 A2 w2 r2' e2 p2 => h v2 G2 H2 A2 w2 r2' (e.trans e2) (p.trans p2)
/-- a step that only turns the ghost state -/
theorem At.pure {a : α} {Q : β → Hp → Prop} (h : At K Wx Rel (pure a) F G A σ s H Q) {G' H' : Hp} {A' : List Addr} {v : β} (w : WS K F G' H' A' σ s) (e : Ext G G') (p : Pre A A') (r : Rel F G' H' A' σ s a v) : Q v H' := h.2 v G' H' A' w r e p
end

abbrev rO (K : PySem.W.Frag) : Rl O V := fun _ G _ A σ _ o v => RO K G A σ o v
abbrev rP (K : PySem.W.Frag) : Rl RV V := fun F G H A σ s r v => RP K F G H A σ s r v
abbrev rD (K : PySem.W.Frag) : Rl D V := fun _ G _ A _ _ d v => Rep K G A d v
abbrev rDs (K : PySem.W.Frag) : Rl (List D) (List V) := fun _ G _ A _ _ d v => Reps K G A d v
abbrev rB : Rl Bool Bool := fun _ _ _ _ _ _ a b => a = b

def tP (K : PySem.W.Frag) (Wx : WX) (m : M RV) : TE := fun σ H Q => ∃ F G A s, At K Wx (rP K) m F G A σ s H Q
def tO (K : PySem.W.Frag) (Wx : WX) (m : M O) : TE := fun σ H Q => ∃ F G A s, At K Wx (rO K) m F G A σ s H Q
def tD (K : PySem.W.Frag) (Wx : WX) (m : M D) : TE := fun σ H Q => ∃ F G A s, At K Wx (rD K) m F G A σ s H Q
def tA (K : PySem.W.Frag) (Wx : WX) (m : M (List D)) : TA := fun σ H Q => ∃ F G A s, At K Wx (rDs K) m F G A σ s H Q
def tT (K : PySem.W.Frag) (Wx : WX) (m : M Bool) : TT := fun σ H Q => ∃ F G A s, At K Wx rB m F G A σ s H Q
/-- the expression e is worth m -/
abbrev DP (X : Cx) (Wx : WX) (e : Expr) (m : M RV) : Prop := PE X e (tP X.K Wx m)
abbrev DO (X : Cx) (Wx : WX) (e : Expr) (m : M O) : Prop := PE X e (tO X.K Wx m)
abbrev DD (X : Cx) (Wx : WX) (e : Expr) (m : M D) : Prop := PE X e (tD X.K Wx m)
abbrev DA (X : Cx) (Wx : WX) (es : List Expr) (m : M (List D)) : Prop := PA X es (tA X.K Wx m)
abbrev DT (X : Cx) (Wx : WX) (e : Expr) (m : M Bool) : Prop := PT X e (tT X.K Wx m)
abbrev DW (X : Cx) (Wx : WX) (e : Expr) (m : M Bool) : Prop := PW X e (tT X.K Wx m)

theorem PE.imp {X : Cx} {e : Expr} {t t' : TE} (h : PE X e t) (k : ∀ σ H Q, t' σ H Q → t σ H Q) : PE X e t' := ⟨fun pins s σ H Q I q => h.run pins s σ H Q I (k σ H Q q)⟩
theorem PT.imp {X : Cx} {e : Expr} {t t' : TT} (h : PT X e t) (k : ∀ σ H Q, t' σ H Q → t σ H Q) : PT X e t' := ⟨fun pins s σ H Q I q => h.run pins s σ H Q I (k σ H Q q)⟩
theorem PW.imp {X : Cx} {e : Expr} {t t' : TT} (h : PW X e t) (k : ∀ σ H Q, t' σ H Q → t σ H Q) : PW X e t' := ⟨fun wh pins s σ H Q I q => h.run wh pins s σ H Q I (k σ H Q q)⟩
theorem PA.imp {X : Cx} {es : List Expr} {t t' : TA} (h : PA X es t) (k : ∀ σ H Q, t' σ H Q → t σ H Q) : PA X es t' := ⟨fun pos pins s σ H Q I q => h.run pos pins s σ H Q I (k σ H Q q)⟩
theorem PS.imp {X : Cx} {st : Stmt} {t t' : TS} (h : PS X st t) (k : ∀ D σ H, t' D σ H → t D σ H) : PS X st t' := ⟨fun pins s σ H D I q => h.run pins s σ H D I (k D σ H q)⟩
/-! ### freezing -/
/-- a new object is frozen -/
def fz (m : M RV) : M O := m >>= fun r => match r with
  | .opd o => pure o
  | .own c => pure (.val c.toD)
/-- what slot i owns is frozen -/
def force1 (o : O) : M D := match o with
  | .val d => pure d
  | .bor i => fun s => match s.sl[i]? with
    | some (some (.own c)) => .ok c.toD { s with sl := s.sl.set i (some (.fz c.toD)) }
    | some (some (.fz d)) => .ok d s
    | _ => .stuck
def fc (m : M RV) : M D := fz m >>= force1
def toRV (m : M O) : M RV := m >>= fun o => pure (.opd o)
def vals (m : M D) : M RV := m >>= fun d => pure (.opd (.val d))

section
variable {X : Cx} {Wx : WX} {e a b c : Expr} {es : List Expr} {m ma mb mc : M RV} {pos : Pos}
theorem DP.fz (h : DP X Wx e m) : DO X Wx e (fz m) := by
  refine PE.imp h fun σ H Q ⟨F, G, A, s, h⟩ => ⟨F, G, A, s, h.bind.mono fun v H1 ⟨G1, A1, s1, r, r1, e1, p1, h1⟩ => ?_⟩
  cases r with
  | opd o => exact h1.pure h1.1 Ext.refl Pre.refl r1
  | own c =>
    obtain ⟨a, ev, l⟩ := r1
    subst ev
    obtain ⟨G2, w2, e2, r2⟩ := h1.1.freeze l
    exact h1.pure (v := V.ref a) w2 e2 Pre.refl r2
theorem force_ok {K : PySem.W.Frag} {F G H : Hp} {A : List Addr} {σ : L2.St} {s : S} {o : O} {v : V} {Q : V → Hp → Prop} (h : At K Wx (rD K) (force1 o) F G A σ s H Q) (r : RO K G A σ o v) : Q v H := by
  cases o with
  | val d => exact h.pure h.1 Ext.refl Pre.refl r
  | bor i =>
    have er : σ[i]? = some (some v) := r
    obtain ⟨w, h⟩ := h
    unfold force1 at h
    dsimp only at h
    split at h
    · rename_i r s' eq
      split at eq
      · rename_i c hc
        cases eq
        obtain ⟨a, e1, g1, f1, n1, rep⟩ := w.own i c hc
        rw [er] at e1
        have ev : v = .ref a := by simpa using e1
        subst ev
        have hil : i < s.sl.length := (List.getElem?_eq_some_iff.mp hc).1
        -- without the slot the object is lone
        have w0 : WS K F G H A σ { s with sl := s.sl.set i none } := by
          have look : ∀ (j : Nat) (x : SV), (s.sl.set i none)[j]? = some (some x) → j ≠ i ∧ s.sl[j]? = some (some x) := fun j x e => by
            by_cases q : i = j
            · subst q; rw [List.getElem?_set_self hil] at e; cases e
            · rw [List.getElem?_set_ne q] at e; exact ⟨fun z => q z.symm, e⟩
          exact ⟨w.sub, w.fr, w.len, w.nd, w.cell, fun j d e => w.fz j d (look j _ e).2, fun j c' e => w.own j c' (look j _ e).2, fun j k c' d' b n e e' => w.apart j k c' d' b n (look j _ e).2 (look k _ e').2⟩
        have l : Lone K F G H A σ { s with sl := s.sl.set i none } c a := ⟨g1, f1, n1, fun j c' e z => by
          have q : i ≠ j := fun q => by
            subst q
            have e' : (s.sl.set i none)[i]? = some (some (.own c')) := e
            rw [List.getElem?_set_self hil] at e'; cases e'
          have e' : (s.sl.set i none)[j]? = some (some (.own c')) := e
          rw [List.getElem?_set_ne q] at e'
          exact w.apart i j c c' a q hc e' er z, rep⟩
        obtain ⟨G2, w2, x2, r2⟩ := w0.freeze l
        have look : ∀ (j : Nat) (x : SV), (s.sl.set i (some (.fz c.toD)))[j]? = some (some x) → (j = i ∧ x = .fz c.toD) ∨ (s.sl.set i none)[j]? = some (some x) := fun j x e => by
          by_cases q : i = j
          · subst q; rw [List.getElem?_set_self hil] at e; cases e; exact .inl ⟨rfl, rfl⟩
          · rw [List.getElem?_set_ne q] at e ⊢; exact .inr e
        refine h (.ref a) G2 H A ⟨w2.sub, w2.fr, w2.len, w2.nd, w2.cell, fun j d e => ?_, fun j c' e => ?_, fun j k c' d' b n e e' => ?_⟩ r2 x2 Pre.refl
        · rcases look j _ e with ⟨rfl, q⟩ | q
          · cases q; exact ⟨_, er, r2⟩
          · exact w2.fz j d q
        · rcases look j _ e with ⟨rfl, q⟩ | q
          · cases q
          · exact w2.own j c' q
        · rcases look j _ e with ⟨rfl, q⟩ | q
          · cases q
          · rcases look k _ e' with ⟨rfl, q'⟩ | q'
            · cases q'
            · exact w2.apart j k c' d' b n q q'
      · rename_i d hd
        cases eq
        obtain ⟨v', e1, r1⟩ := w.fz i _ hd
        rw [er] at e1
        have ev : v' = v := by simpa using e1.symm
        subst ev
        exact h _ G H A w r1 Ext.refl Pre.refl
      · cases eq
    · rename_i x s' eq
      split at eq <;> cases eq
    · exact h.elim
theorem DP.fc (h : DP X Wx e m) : DD X Wx e (fc m) := by
  exact PE.imp h.fz fun σ H Q ⟨F, G, A, s, h⟩ => ⟨F, G, A, s, h.bind.mono fun v H1 ⟨G1, A1, s1, r, r1, e1, p1, h1⟩ => force_ok h1 r1⟩

/-! ### names, constants -/
def mVar (i : Nat) : M RV := fun s => match s.sl[i]? with
  | some (some (.fz d)) => .ok (.opd (.val d)) s
  | some (some (.own _)) => .ok (.opd (.bor i)) s
  | _ => .stuck
def mC (d : D) : M RV := pure (.opd (.val d))
theorem dp_var {i : Nat} {x : Str} (hN : X.N[i]? = some x) (hv : Vis X.env.scope x) (hd : (x == ("__debug__" : Str)) = false := by decide) (hcd : (x == ("__classdict__" : Str)) = false := by decide) : DP X Wx (.Name x pos) (mVar i) := by
  refine PE.imp (pe_var (pos := pos) hN hv hd hcd) fun σ H Q ⟨F, G, A, s, w, h⟩ => ?_
  unfold mVar at h
  split at h
  · rename_i r s' eq
    split at eq
    · rename_i d hd
      cases eq
      obtain ⟨v, e1, r1⟩ := w.fz i d hd
      exact ⟨v, e1, h v G H A w r1 Ext.refl Pre.refl⟩
    · rename_i c hc
      cases eq
      obtain ⟨a, e1, _⟩ := w.own i c hc
      exact ⟨.ref a, e1, h (.ref a) G H A w e1 Ext.refl Pre.refl⟩
    · cases eq
  · rename_i x s' eq
    split at eq <;> cases eq
  · exact h.elim
theorem dp_const {d : D} {v : V} (h : PE X e (tC v)) (r : ∀ G A, Rep X.K G A d v) : DP X Wx e (mC d) :=
  PE.imp h fun _ _ _ ⟨_, _, _, _, h⟩ => h.pure h.1 Ext.refl Pre.refl (r _ _)
theorem dp_int {i : Int} {j} : DP X Wx (.Constant (.int i) j pos) (mC (.int i)) := dp_const pe_int fun _ _ => by simp only [Rep]
theorem dp_str {i : Str} {j} : DP X Wx (.Constant (.str i) j pos) (mC (.str i)) := dp_const pe_str fun _ _ => by simp only [Rep]
theorem dp_bl {i : Bool} {j} : DP X Wx (.Constant (.bool i) j pos) (mC (.bl i)) := dp_const pe_bl fun _ _ => by simp only [Rep]
theorem dp_non {j} : DP X Wx (.Constant .none j pos) (mC .non) := dp_const pe_non fun _ _ => by simp only [Rep]
/-- a module's constant that is data by itself, or any other value -/
theorem dp_globI {x : Str} {i : Int} (hg : Gl X x) (hm : ∃ t, X.mg x = some (.int i t)) (hd : (x == ("__debug__" : Str)) = false := by decide) : DP X Wx (.Name x pos) (mC (.int i)) := by
  obtain ⟨t, hm⟩ := hm
  exact dp_const (pe_glob hg hm (v := .int i) ⟨t, rfl⟩ hd) fun _ _ => by simp only [Rep]
theorem dp_globS {x y : Str} (hg : Gl X x) (hm : ∃ t, X.mg x = some (.str y t)) (hd : (x == ("__debug__" : Str)) = false := by decide) : DP X Wx (.Name x pos) (mC (.str y)) := by
  obtain ⟨t, hm⟩ := hm
  exact dp_const (pe_glob hg hm (v := .str y) ⟨t, rfl⟩ hd) fun _ _ => by simp only [Rep]
theorem dp_glob {x : Str} {v : V} {u : Value} (hg : Gl X x) (hm : X.mg x = some u) (r : RelV v u) (hd : (x == ("__debug__" : Str)) = false := by decide) : DP X Wx (.Name x pos) (mC (.obj v)) :=
  dp_const (pe_glob hg hm r hd) fun _ _ => by simp only [Rep]

/-! ### operators -/
inductive NV where
  | opd (o : O) | lst (xs : List D) | tup (xs : List D)
def nv : NV → M RV
  | .opd o => pure (.opd o)
  | .lst xs => pure (.own (.lst xs))
  | .tup xs => pure (.opd (.val (.tup xs)))
def Done (K : PySem.W.Frag) (G : Hp) (A : List Addr) (σ : L2.St) (H : Hp) (Q : VK) : NV → Prop
  | .opd o => ∀ v, RO K G A σ o v → Q v H
  | .lst xs => ∀ p vs, H p = none → Reps K G A xs vs → Q (.ref p) (upd H p (.lst vs))
  | .tup xs => ∀ p vs, H p = none → Reps K G A xs vs → Q (.ref p) (upd H p (.tup vs))
theorem nv_done {K : PySem.W.Frag} {F G H : Hp} {A : List Addr} {σ : L2.St} {s : S} {n : NV} {Q : VK} (h : At K Wx (rP K) (nv n) F G A σ s H Q) : Done K G A σ H Q n := by
  cases n with
  | opd o => exact fun v r => h.pure h.1 Ext.refl Pre.refl r
  | lst xs =>
    intro p vs hp r
    obtain ⟨w, l⟩ := h.1.newLone hp r
    exact h.pure w Ext.refl Pre.refl ⟨p, rfl, l⟩
  | tup xs =>
    intro p vs hp r
    obtain ⟨w, x⟩ := h.1.newFz (o := .tup vs) hp
    refine h.pure w x Pre.refl ?_
    show Rep K _ A (.tup xs) (.ref p)
    simp only [Rep]
    exact ⟨p, vs, rfl, .inl (.inl upd_same), r.mono x Pre.refl⟩
def opt {α : Type} : Option α → M α
  | some a => pure a
  | none => M.stuck
theorem opt_at {K : PySem.W.Frag} {α γ δ : Type} {Rel : Rl γ δ} {F G H : Hp} {A : List Addr} {σ : L2.St} {s : S} {o : Option α} {k : α → M γ} {Q : δ → Hp → Prop} (h : At K Wx Rel (opt o >>= k) F G A σ s H Q) : ∃ a, o = some a ∧ At K Wx Rel (k a) F G A σ s H Q := by
  cases o with
  | some a => exact ⟨a, rfl, h⟩
  | none => exact h.2.elim
/-- an operation on two operands, as the data state s has them -/
def op2 (f : S → O → O → Option NV) (x y : O) : M RV := fun s => (opt (f s x y) >>= nv) s
def mBin (f : S → O → O → Option NV) (a b : M RV) : M RV := fz a >>= fun x => fz b >>= fun y => op2 f x y
def Op2 (K : PySem.W.Frag) (f : S → O → O → Option NV) (r : R2) : Prop :=
  ∀ F G H A σ s x y n v u Q, WS K F G H A σ s → RO K G A σ x v → RO K G A σ y u → f s x y = some n → Done K G A σ H Q n → r v u H Q
theorem op2_at {K : PySem.W.Frag} {f : S → O → O → Option NV} {F G H : Hp} {A : List Addr} {σ : L2.St} {s : S} {x y : O} {Q : VK} (h : At K Wx (rP K) (op2 f x y) F G A σ s H Q) : ∃ n, f s x y = some n ∧ Done K G A σ H Q n := by
  have h' : At K Wx (rP K) (opt (f s x y) >>= nv) F G A σ s H Q := h
  obtain ⟨n, e, q⟩ := opt_at h'
  exact ⟨n, e, nv_done q⟩
theorem dp_bin {op : Operator} {f : S → O → O → Option NV} {r : R2} (ho : OpR X (binaryOp op) r) (hf : Op2 X.K f r) (ha : DP X Wx a ma) (hb : DP X Wx b mb) : DP X Wx (.BinOp a op b pos) (mBin f ma mb) := by
  refine PE.imp (pe_op ho ha.fz hb.fz) fun σ H Q ⟨F, G, A, s, h⟩ => ?_
  refine ⟨F, G, A, s, h.bind.mono fun v H1 ⟨G1, A1, s1, x, r1, e1, p1, h1⟩ => ?_⟩
  refine ⟨F, G1, A1, s1, h1.bind.mono fun u H2 ⟨G2, A2, s2, y, r2, e2, p2, h2⟩ => ?_⟩
  obtain ⟨n, e, q⟩ := op2_at h2
  exact hf F G2 H2 A2 σ s2 x y n v u Q h2.1 (r1.mono e2 p2) r2 e q
theorem dp_cmp {op : CmpOp} {f : S → O → O → Option NV} {r : R2} (ho : OpR X (compareOp op) r) (hf : Op2 X.K f r) (ha : DP X Wx a ma) (hb : DP X Wx b mb)
    (hm : behindInMarks op b = false) : DP X Wx (.Compare a [op] [b] pos) (mBin f ma mb) := by
  refine PE.imp (pe_cmpR ho ha.fz hb.fz hm) fun σ H Q ⟨F, G, A, s, h⟩ => ?_
  refine ⟨F, G, A, s, h.bind.mono fun v H1 ⟨G1, A1, s1, x, r1, e1, p1, h1⟩ => ?_⟩
  refine ⟨F, G1, A1, s1, h1.bind.mono fun u H2 ⟨G2, A2, s2, y, r2, e2, p2, h2⟩ => ?_⟩
  obtain ⟨n, e, q⟩ := op2_at h2
  exact hf F G2 H2 A2 σ s2 x y n v u Q h2.1 (r1.mono e2 p2) r2 e q
/-- the answer of a test -/
def opB (f : S → O → O → Option NV) (x y : O) : M Bool := fun s => match f s x y with
  | some (.opd (.val (.bl k))) => .ok k s
  | _ => .stuck
def mCmpB (f : S → O → O → Option NV) (a b : M RV) : M Bool := fz a >>= fun x => fz b >>= fun y => opB f x y
theorem dt_cmp {op : CmpOp} {f : S → O → O → Option NV} {r : R2} (ho : OpR X (compareOp op) r) (hf : Op2 X.K f r) (ha : DP X Wx a ma) (hb : DP X Wx b mb)
    (hm : behindInMarks op b = false) : DT X Wx (.Compare a [op] [b] pos) (mCmpB f ma mb) := by
  refine PT.imp (pt_cmpR ho ha.fz hb.fz hm) fun σ H Q ⟨F, G, A, s, h⟩ => ?_
  refine ⟨F, G, A, s, h.bind.mono fun v H1 ⟨G1, A1, s1, x, r1, e1, p1, h1⟩ => ?_⟩
  refine ⟨F, G1, A1, s1, h1.bind.mono fun u H2 ⟨G2, A2, s2, y, r2, e2, p2, h2⟩ => ?_⟩
  obtain ⟨w2, h2⟩ := h2
  unfold opB at h2
  split at h2
  · rename_i k s' eq
    split at eq
    · rename_i b hf2
      cases eq
      refine hf F G2 H2 A2 σ s2 x y _ v u _ w2 (r1.mono e2 p2) r2 hf2 fun v ro => ?_
      have ev : v = .bl k := by simpa only [RO, Rep] using ro
      exact ⟨k, ev, h2 k G2 H2 A2 w2 rfl Ext.refl Pre.refl⟩
    · cases eq
  · rename_i x s' eq
    split at eq <;> cases eq
  · exact h2.elim
end
end DS
/-! The data layer, part c: views of operands; arithmetic, comparisons, tests. -/
namespace DS
open PySem L2

/-! ### views -/
/-- the data of an operand -/
def dat (s : S) : O → Option D
  | .val d => some d
  | .bor i => match s.sl[i]? with
    | some (some (.own c)) => some c.toD
    | some (some (.fz d)) => some d
    | _ => none
/-- a list that may be read -/
def vL (s : S) (o : O) : Option (List D) := match dat s o with
  | some (.lst xs) => some xs
  | some (.klst xs) => some xs
  | some (.ref n) => match s.cs[n]? with
    | some (.lst xs) => some xs
    | _ => none
  | _ => none
/-- .. one of the call's own -/
def vX (s : S) (o : O) : Option (List D) := match dat s o with
  | some (.lst xs) => some xs
  | some (.ref n) => match s.cs[n]? with
    | some (.lst xs) => some xs
    | _ => none
  | _ => none
def vT (s : S) (o : O) : Option (List D) := match dat s o with
  | some (.tup xs) => some xs
  | _ => none
/-- a list or a tuple -/
def vS (s : S) (o : O) : Option (List D) := match vL s o with
  | some xs => some xs
  | none => vT s o

section
variable {K : PySem.W.Frag} {F G H : Hp} {A : List Addr} {σ : L2.St} {s : S} {o : O} {v : V} {xs : List D}
theorem cell_of (w : WS K F G H A σ s) {n : Nat} {c : Cont} {a : Addr} (e : s.cs[n]? = some c) (ea : A[n]? = some a) : RepC K G H A c a := (w.cell n c a e ea).2
theorem vX_ok (w : WS K F G H A σ s) (r : RO K G A σ o v) (e : vX s o = some xs) : ∃ a vs, v = .ref a ∧ H a = some (.lst vs) ∧ Reps K G A xs vs := by
  unfold vX at e
  -- by its data
  have key : ∀ d, Rep K G A d v → (match (some d : Option D) with
      | some (.lst xs) => some xs
      | some (.ref n) => (match s.cs[n]? with | some (.lst xs) => some xs | _ => none)
      | _ => none) = some xs → ∃ a vs, v = .ref a ∧ H a = some (.lst vs) ∧ Reps K G A xs vs := by
    intro d rd e
    split at e
    · rename_i ys ed
      cases ed; cases e
      simp only [Rep] at rd
      obtain ⟨a, vs, ev, q, rs⟩ := rd
      exact ⟨a, vs, ev, w.lst q, rs⟩
    · rename_i n ed
      cases ed
      split at e
      · rename_i ys ec
        cases e
        simp only [Rep] at rd
        obtain ⟨a, ev, ea⟩ := rd
        obtain ⟨vs, q, rs⟩ := cell_of w ec ea
        exact ⟨a, vs, ev, q, rs⟩
      · cases e
    · cases e
  cases o with
  | val d => exact key d r e
  | bor i =>
    have er : σ[i]? = some (some v) := r
    unfold dat at e
    dsimp only at e
    split at e
    · rename_i ys ed
      cases e
      split at ed
      · rename_i c hc
        obtain ⟨a, e1, _, _, _, rep⟩ := w.own i c hc
        rw [er] at e1
        have ev : v = .ref a := by simpa using e1
        cases c with
        | lst zs =>
          simp only [Cont.toD, Option.some.injEq, D.lst.injEq] at ed
          subst ed
          obtain ⟨vs, q, rs⟩ := rep
          exact ⟨a, vs, ev, q, rs⟩
        | dct kvs => simp [Cont.toD] at ed
        | ins C fs => simp [Cont.toD] at ed
      · rename_i d hd
        cases ed
        obtain ⟨v', e1, r1⟩ := w.fz i _ hd
        rw [er] at e1
        have ev : v' = v := by simpa using e1.symm
        subst ev
        exact key _ r1 rfl
      · cases ed
    · rename_i n ed
      split at ed
      · rename_i c hc
        cases c <;> simp [Cont.toD] at ed
      · rename_i d hd
        cases ed
        obtain ⟨v', e1, r1⟩ := w.fz i _ hd
        rw [er] at e1
        have ev : v' = v := by simpa using e1.symm
        subst ev
        exact key _ r1 e
      · cases ed
    · cases e
/-- what the operand's data says, where it is no new object -/
theorem dat_ok (w : WS K F G H A σ s) (r : RO K G A σ o v) {d : D} (e : dat s o = some d) (hn : ∀ c : Cont, d ≠ c.toD) : Rep K G A d v := by
  cases o with
  | val d' => cases e; exact r
  | bor i =>
    have er : σ[i]? = some (some v) := r
    unfold dat at e
    dsimp only at e
    split at e
    · cases e; exact absurd rfl (hn _)
    · rename_i d' hd
      cases e
      obtain ⟨v', e1, r1⟩ := w.fz i _ hd
      rw [er] at e1
      have ev : v' = v := by simpa using e1.symm
      subst ev
      exact r1
    · cases e
theorem vL_ok (w : WS K F G H A σ s) (r : RO K G A σ o v) (e : vL s o = some xs) : ∃ a vs, v = .ref a ∧ SqL K H a vs ∧ Reps K G A xs vs := by
  have h : vX s o = some xs ∨ dat s o = some (.klst xs) := by
    unfold vL at e
    unfold vX
    split at e
    · rename_i ed; rw [ed]; exact .inl e
    · rename_i ys ed; cases e; exact .inr ed
    · rename_i n ed; rw [ed]; exact .inl e
    · cases e
  rcases h with h | h
  · obtain ⟨a, vs, ev, q, rs⟩ := vX_ok w r h
    exact ⟨a, vs, ev, SqL.of q, rs⟩
  · have rd := dat_ok w r h (fun c => by cases c <;> simp [Cont.toD])
    simp only [Rep] at rd
    obtain ⟨a, vs, ev, q, rs⟩ := rd
    exact ⟨a, vs, ev, w.sqL q, rs⟩
theorem vT_ok (w : WS K F G H A σ s) (r : RO K G A σ o v) (e : vT s o = some xs) : ∃ a vs, v = .ref a ∧ SqT K H a vs ∧ Reps K G A xs vs := by
  have h : dat s o = some (.tup xs) := by
    unfold vT at e
    split at e
    · rename_i ed; rw [ed]; cases e; rfl
    · cases e
  have rd := dat_ok w r h (fun c => by cases c <;> simp [Cont.toD])
  simp only [Rep] at rd
  obtain ⟨a, vs, ev, q, rs⟩ := rd
  exact ⟨a, vs, ev, w.sqT q, rs⟩
theorem vS_ok (w : WS K F G H A σ s) (r : RO K G A σ o v) (e : vS s o = some xs) : ∃ a vs, v = .ref a ∧ (SqL K H a vs ∨ SqT K H a vs) ∧ Reps K G A xs vs := by
  unfold vS at e
  split at e
  · rename_i ys ed
    cases e
    obtain ⟨a, vs, ev, q, rs⟩ := vL_ok w r ed
    exact ⟨a, vs, ev, .inl q, rs⟩
  · obtain ⟨a, vs, ev, q, rs⟩ := vT_ok w r e
    exact ⟨a, vs, ev, .inr q, rs⟩
end

/-! ### the data of a compared, shown thing -/
def denL (f : D → Option PyData) : List D → Option (List PyData)
  | [] => some []
  | x :: xs => match f x, denL f xs with
    | some a, some b => some (a :: b)
    | _, _ => none
def den (cs : List Cont) : Nat → D → Option PyData
  | _, .non => some .none
  | _, .bl b => some (.bool b)
  | _, .int i => some (.int i)
  | _, .str x => some (.str x)
  | n + 1, .tup xs => (denL (den cs n) xs).map .tuple
  | n + 1, .lst xs => (denL (den cs n) xs).map .list
  | n + 1, .klst xs => (denL (den cs n) xs).map .list
  | n + 1, .ref k => match cs[k]? with
    | some (.lst xs) => (denL (den cs n) xs).map .list
    | _ => none
  | _, _ => none
def denO (s : S) (o : O) : Option PyData := match dat s o with
  | some d => den s.cs 8 d
  | none => none
theorem denL_ok {K : PySem.W.Frag} {G H : Hp} {A : List Addr} {f : D → Option PyData} (hf : ∀ d v p, Rep K G A d v → f d = some p → Dp K H v p) : ∀ {xs : List D} {vs : List V} {ps : List PyData}, Reps K G A xs vs → denL f xs = some ps → DpAll K H vs ps
  | [], _, _, r, e => by
    rw [r.inv0]; cases e; exact .nil
  | x :: xs, _, _, r, e => by
    obtain ⟨v, t, rfl, r1, r2⟩ := r.inv
    unfold denL at e
    split at e
    · rename_i a b ea eb
      cases e
      exact .cons (hf x v a r1 ea) (denL_ok hf r2 eb)
    · cases e
theorem den_ok {K : PySem.W.Frag} {F G H : Hp} {A : List Addr} {σ : L2.St} {s : S} (w : WS K F G H A σ s) : ∀ (n : Nat) (d : D) (v : V) (p : PyData), Rep K G A d v → den s.cs n d = some p → Dp K H v p
  | _, .non, v, p, r, e => by
    unfold den at e; cases e
    have ev : v = .non := by simpa only [Rep] using r
    subst ev; exact .non
  | _, .bl b, v, p, r, e => by
    unfold den at e; cases e
    have ev : v = .bl b := by simpa only [Rep] using r
    subst ev; exact .bl b
  | _, .int i, v, p, r, e => by
    unfold den at e; cases e
    have ev : v = .int i := by simpa only [Rep] using r
    subst ev; exact .int i
  | _, .str x, v, p, r, e => by
    unfold den at e; cases e
    have ev : v = .str x := by simpa only [Rep] using r
    subst ev; exact .str x
  | n + 1, .tup xs, v, p, r, e => by
    simp only [den, Option.map_eq_some_iff] at e
    obtain ⟨ps, e, rfl⟩ := e
    simp only [Rep] at r
    obtain ⟨a, vs, rfl, q, rs⟩ := r
    exact .tup (w.sqT q) (denL_ok (den_ok w n) rs e)
  | n + 1, .lst xs, v, p, r, e => by
    simp only [den, Option.map_eq_some_iff] at e
    obtain ⟨ps, e, rfl⟩ := e
    simp only [Rep] at r
    obtain ⟨a, vs, rfl, q, rs⟩ := r
    exact .lst (SqL.of (w.lst q)) (denL_ok (den_ok w n) rs e)
  | n + 1, .klst xs, v, p, r, e => by
    simp only [den, Option.map_eq_some_iff] at e
    obtain ⟨ps, e, rfl⟩ := e
    simp only [Rep] at r
    obtain ⟨a, vs, rfl, q, rs⟩ := r
    exact .lst (w.sqL q) (denL_ok (den_ok w n) rs e)
  | n + 1, .ref k, v, p, r, e => by
    simp only [den] at e
    split at e
    · rename_i xs ec
      simp only [Option.map_eq_some_iff] at e
      obtain ⟨ps, e, rfl⟩ := e
      simp only [Rep] at r
      obtain ⟨a, rfl, ea⟩ := r
      obtain ⟨vs, q, rs⟩ := cell_of w ec ea
      exact .lst (SqL.of q) (denL_ok (den_ok w n) rs e)
    · cases e
  | 0, .tup _, _, _, _, e => by simp [den] at e
  | 0, .lst _, _, _, _, e => by simp [den] at e
  | 0, .klst _, _, _, _, e => by simp [den] at e
  | 0, .ref _, _, _, _, e => by simp [den] at e
  | 0, .dct _ _, _, _, _, e => by simp [den] at e
  | _ + 1, .dct _ _, _, _, _, e => by simp [den] at e
  | 0, .ins _ _ _, _, _, _, e => by simp [den] at e
  | _ + 1, .ins _ _ _, _, _, _, e => by simp [den] at e
  | 0, .obj _, _, _, _, e => by simp [den] at e
  | _ + 1, .obj _, _, _, _, e => by simp [den] at e
theorem denO_ok {K : PySem.W.Frag} {F G H : Hp} {A : List Addr} {σ : L2.St} {s : S} {o : O} {v : V} {p : PyData} (w : WS K F G H A σ s) (r : RO K G A σ o v) (e : denO s o = some p) : Dp K H v p := by
  unfold denO at e
  split at e
  · rename_i d ed
    cases o with
    | val d' => cases ed; exact den_ok w 8 _ v p r e
    | bor i =>
      have er : σ[i]? = some (some v) := r
      have ed0 := ed
      unfold dat at ed
      dsimp only at ed
      split at ed
      · rename_i c hc
        cases c with
        | lst xs =>
          cases ed
          have hx : vX s (.bor i) = some xs := by unfold vX; rw [ed0]; rfl
          obtain ⟨a, vs, ev, q, rs⟩ := vX_ok w r hx
          subst ev
          simp only [Cont.toD, den, Option.map_eq_some_iff] at e
          obtain ⟨ps, e, rfl⟩ := e
          exact .lst (SqL.of q) (denL_ok (den_ok w 7) rs e)
        | dct kvs => cases ed; simp [den, Cont.toD] at e
        | ins C fs => cases ed; simp [den, Cont.toD] at e
      · rename_i d' hd
        cases ed
        obtain ⟨v', e1, r1⟩ := w.fz i _ hd
        rw [er] at e1
        have ev : v' = v := by simpa using e1.symm
        subst ev
        exact den_ok w 8 _ _ p r1 e
      · cases ed
  · cases e
/-- what den gives is not deep -/
theorem denL_depth {f : D → Option PyData} {n : Nat} (hf : ∀ d p, f d = some p → p.depth ≤ n) : ∀ {xs : List D} {ps : List PyData}, denL f xs = some ps → PyData.depthAll ps ≤ n
  | [], _, e => by cases e; simp [PyData.depthAll]
  | x :: xs, _, e => by
    unfold denL at e
    split at e
    · rename_i a b ea eb
      cases e
      have h2 := hf x a ea
      have h4 := denL_depth hf eb
      simp only [PyData.depthAll]
      omega
    · cases e
theorem den_depth {cs : List Cont} : ∀ (n : Nat) (d : D) (p : PyData), den cs n d = some p → p.depth ≤ n := by
  intro n
  induction n with
  | zero => intro d p e; cases d <;> simp [den] at e <;> subst e <;> simp [PyData.depth]
  | succ n ih =>
    intro d p e
    cases d with
    | non => simp [den] at e; subst e; simp [PyData.depth]
    | bl b => simp [den] at e; subst e; simp [PyData.depth]
    | int b => simp [den] at e; subst e; simp [PyData.depth]
    | str b => simp [den] at e; subst e; simp [PyData.depth]
    | tup xs =>
      simp only [den, Option.map_eq_some_iff] at e
      obtain ⟨ps, e, rfl⟩ := e
      have := denL_depth ih e
      simp only [PyData.depth]; omega
    | lst xs =>
      simp only [den, Option.map_eq_some_iff] at e
      obtain ⟨ps, e, rfl⟩ := e
      have := denL_depth ih e
      simp only [PyData.depth]; omega
    | klst xs =>
      simp only [den, Option.map_eq_some_iff] at e
      obtain ⟨ps, e, rfl⟩ := e
      have := denL_depth ih e
      simp only [PyData.depth]; omega
    | ref k =>
      simp only [den] at e
      split at e
      · simp only [Option.map_eq_some_iff] at e
        obtain ⟨ps, e, rfl⟩ := e
        have := denL_depth ih e
        simp only [PyData.depth]; omega
      · cases e
    | dct ks xs => simp [den] at e
    | ins C ns xs => simp [den] at e
    | obj v => simp [den] at e
theorem denO_depth {s : S} {o : O} {p : PyData} (e : denO s o = some p) : p.depth ≤ 8 := by
  unfold denO at e
  split at e
  · exact den_depth 8 _ p e
  · cases e

/-! ### the operations -/
abbrev vI (n : Int) : NV := .opd (.val (.int n))
abbrev vB (b : Bool) : NV := .opd (.val (.bl b))
abbrev vSt (b : Str) : NV := .opd (.val (.str b))
def fI (g : Int → Int → Option NV) : S → O → O → Option NV := fun _ x y => match x, y with
  | .val (.int i), .val (.int j) => g i j
  | _, _ => none
def fOr (f g : S → O → O → Option NV) : S → O → O → Option NV := fun s x y => match f s x y with
  | some n => some n
  | none => g s x y
def fStr (g : Str → Str → Option NV) : S → O → O → Option NV := fun _ x y => match x, y with
  | .val (.str i), .val (.str j) => g i j
  | _, _ => none
theorem Op2.or {K : PySem.W.Frag} {f g : S → O → O → Option NV} {r r' : R2} (h : Op2 K f r) (h' : Op2 K g r') : Op2 K (fOr f g) (fun x y H Q => r x y H Q ∨ r' x y H Q) := by
  intro F G H A σ s x y n v u Q w rx ry e q
  unfold fOr at e
  split at e
  · rename_i m em
    cases e
    exact .inl (h F G H A σ s x y _ v u Q w rx ry em q)
  · exact .inr (h' F G H A σ s x y _ v u Q w rx ry e q)
theorem op2_I {K : PySem.W.Frag} {g : Int → Int → Option NV} {C : Int → Int → Prop} {f : Int → Int → V} (h : ∀ i j n, g i j = some n → C i j ∧ ∀ G A σ H Q, Done K G A σ H Q n → Q (f i j) H) : Op2 K (fI g) (rI C f) := by
  intro F G H A σ s x y n v u Q w rx ry e q
  unfold fI at e
  split at e
  · rename_i i j
    obtain ⟨h1, h2⟩ := h i j n e
    exact ⟨i, j, by simpa only [RO, Rep] using rx, by simpa only [RO, Rep] using ry, h1, h2 G A σ H Q q⟩
  · cases e
theorem op2_I0 {K : PySem.W.Frag} {g : Int → Int → Option NV} {f : Int → Int → V} (h : ∀ i j n, g i j = some n → ∀ G A σ H Q, Done K G A σ H Q n → Q (f i j) H) : Op2 K (fI g) (rI0 f) := by
  intro F G H A σ s x y n v u Q w rx ry e q
  unfold fI at e
  split at e
  · rename_i i j
    exact ⟨i, j, by simpa only [RO, Rep] using rx, by simpa only [RO, Rep] using ry, h i j n e G A σ H Q q⟩
  · cases e
theorem done_int {K : PySem.W.Frag} {G H : Hp} {A : List Addr} {σ : L2.St} {Q : VK} {i : Int} (h : Done K G A σ H Q (vI i)) : Q (.int i) H := h _ (by simp only [RO, Rep])
theorem done_bl {K : PySem.W.Frag} {G H : Hp} {A : List Addr} {σ : L2.St} {Q : VK} {i : Bool} (h : Done K G A σ H Q (vB i)) : Q (.bl i) H := h _ (by simp only [RO, Rep])
theorem done_str {K : PySem.W.Frag} {G H : Hp} {A : List Addr} {σ : L2.St} {Q : VK} {i : Str} (h : Done K G A σ H Q (vSt i)) : Q (.str i) H := h _ (by simp only [RO, Rep])

/-- + -/
def fAddI := fI fun i j => some (vI (i + j))
def fAddS := fStr fun i j => if i.length + j.length ≤ sizeLine then some (vSt (i ++ j)) else none
def fAddL : S → O → O → Option NV := fun s x y => match vX s x, vX s y with
  | some xs, some ys => if xs.length + ys.length ≤ sizeLine then some (.lst (xs ++ ys)) else none
  | _, _ => none
def fAddT : S → O → O → Option NV := fun s x y => match vT s x, vT s y with
  | some xs, some ys => if xs.isEmpty = false ∧ ys.isEmpty = false ∧ xs.length + ys.length ≤ sizeLine then some (.tup (xs ++ ys)) else none
  | _, _ => none
def fAdd := fOr (fOr fAddI fAddS) (fOr fAddL fAddT)
theorem op2_add {K : PySem.W.Frag} : Op2 K fAdd (fun x y H Q => (rI0 (fun i j => .int (i + j)) x y H Q ∨ (∃ i j, x = .str i ∧ y = .str j ∧ i.length + j.length ≤ sizeLine ∧ Q (.str (i ++ j)) H)) ∨ (rCat x y H Q ∨ rCatT K x y H Q)) := by
  refine Op2.or (Op2.or (op2_I0 fun i j n e G A σ H Q q => ?_) fun F G H A σ s x y n v u Q w rx ry e q => ?_) (Op2.or (fun F G H A σ s x y n v u Q w rx ry e q => ?_) fun F G H A σ s x y n v u Q w rx ry e q => ?_)
  · cases e; exact done_int q
  · unfold fAddS fStr at e
    split at e
    · rename_i i j
      dsimp only at e
      split at e
      · rename_i hz
        cases e
        exact ⟨i, j, by simpa only [RO, Rep] using rx, by simpa only [RO, Rep] using ry, hz, done_str q⟩
      · cases e
    · cases e
  · unfold fAddL at e
    split at e
    · rename_i xs ys ex ey
      split at e
      · rename_i hz
        cases e
        obtain ⟨a, vs, rfl, h1, r1⟩ := vX_ok w rx ex
        obtain ⟨b, us, rfl, h2, r2⟩ := vX_ok w ry ey
        exact ⟨a, b, vs, us, rfl, rfl, h1, h2, by rw [r1.length, r2.length]; exact hz, fun p hp => q p _ hp (r1.append r2)⟩
      · cases e
    · cases e
  · unfold fAddT at e
    split at e
    · rename_i xs ys ex ey
      split at e
      · rename_i hz
        cases e
        obtain ⟨a, vs, rfl, h1, r1⟩ := vT_ok w rx ex
        obtain ⟨b, us, rfl, h2, r2⟩ := vT_ok w ry ey
        refine ⟨a, b, vs, us, rfl, rfl, h1, h2, fun z => ?_, by rw [r1.length, r2.length]; exact hz.2.2, fun z => ?_, fun _ p hp => q p _ hp (r1.append r2)⟩
        · have := r1.length; rw [z] at this
          have h0 := hz.1
          cases xs with
          | nil => simp at h0
          | cons _ _ => simp at this
        · have := r2.length; rw [z] at this
          have h0 := hz.2.1
          cases ys with
          | nil => simp at h0
          | cons _ _ => simp at this
      · cases e
    · cases e
/-- -, *, //, %, ** of ints -/
def fSub := fI fun i j => some (vI (i - j))
theorem op2_sub {K : PySem.W.Frag} : Op2 K fSub (rI0 fun i j => .int (i - j)) := op2_I0 fun i j n e G A σ H Q q => by cases e; exact done_int q
def fMod := fI fun i j => if 0 < j then some (vI (i % j)) else none
theorem op2_mod {K : PySem.W.Frag} : Op2 K fMod (rI (fun _ j => 0 < j) fun i j => .int (i % j)) := op2_I fun i j n e => by
  split at e
  · rename_i h
    cases e
    exact ⟨h, fun G A σ H Q q => done_int q⟩
  · cases e
def fDiv := fI fun i j => if 0 < j ∧ j.natAbs.log2 < 9000 then some (vI (i / j)) else none
theorem op2_div {K : PySem.W.Frag} : Op2 K fDiv (rI CDivW fun i j => .int (i / j)) := op2_I fun i j n e => by
  split at e
  · rename_i h
    cases e
    exact ⟨h, fun G A σ H Q q => done_int q⟩
  · cases e
def MulOk (i j : Int) : Prop := (-(2 ^ 64) < i ∧ i < 2 ^ 64) ∨ (-(2 ^ 64) < j ∧ j < 2 ^ 64) ∨ i.natAbs.log2 + j.natAbs.log2 < 1000000
instance (i j : Int) : Decidable (MulOk i j) := by unfold MulOk; exact inferInstance
def fMul := fI fun i j => if MulOk i j then some (vI (i * j)) else none
theorem op2_mul {K : PySem.W.Frag} : Op2 K fMul (fun x y H Q => rI CMul (fun i j => .int (i * j)) x y H Q ∨ rI CMulW (fun i j => .int (i * j)) x y H Q) := by
  intro F G H A σ s x y n v u Q w rx ry e q
  unfold fMul fI at e
  split at e
  · rename_i i j
    dsimp only at e
    split at e
    · rename_i h
      cases e
      have ex : v = .int i := by simpa only [RO, Rep] using rx
      have ey : u = .int j := by simpa only [RO, Rep] using ry
      rcases h with h | h | h
      · exact .inl ⟨i, j, ex, ey, .inl h, done_int q⟩
      · exact .inl ⟨i, j, ex, ey, .inr h, done_int q⟩
      · exact .inr ⟨i, j, ex, ey, h, done_int q⟩
    · cases e
  · cases e
def PowOk (i j : Int) : Prop := 0 ≤ j ∧ (i.natAbs.log2 + 1) * j.toNat ≤ 2 ^ 27
instance (i j : Int) : Decidable (PowOk i j) := by unfold PowOk; exact inferInstance
def fPow := fI fun i j => if PowOk i j then some (vI (i ^ j.toNat)) else none
theorem op_powW {X : Cx} : OpR X (binaryOp .Pow) (rI PowOk fun i j => .int (i ^ j.toNat)) := opI fun i j _ _ _ _ _ hc q => by
  refine PyProof.Rows.pow_int hc.1 ?_ q
  have b : Builtin.Int.intBits i ≤ i.natAbs.log2 + 1 := by
    unfold Builtin.Int.intBits
    split <;> omega
  have e : (j.toNat : Int) = j := Int.toNat_of_nonneg hc.1
  have h2 : (Builtin.Int.intBits i) * j.toNat ≤ 2 ^ 27 := Nat.le_trans (Nat.mul_le_mul_right _ b) hc.2
  rw [← e]
  exact_mod_cast h2
theorem op2_pow {K : PySem.W.Frag} : Op2 K fPow (rI PowOk fun i j => .int (i ^ j.toNat)) := op2_I fun i j n e => by
  split at e
  · rename_i h
    cases e
    exact ⟨h, fun G A σ H Q q => done_int q⟩
  · cases e
/-- comparisons of ints -/
def fCmp (p : Int → Int → Bool) := fI fun i j => some (vB (p i j))
theorem op2_cmp {K : PySem.W.Frag} {p : Int → Int → Bool} : Op2 K (fCmp p) (rI0 fun i j => .bl (p i j)) := op2_I0 fun i j n e G A σ H Q q => by cases e; exact done_bl q
/-- == -/
def sc : D → Option V
  | .non => some .non
  | .bl b => some (.bl b)
  | .int i => some (.int i)
  | .str x => some (.str x)
  | _ => none
theorem sc_ok {K : PySem.W.Frag} {G : Hp} {A : List Addr} {d : D} {u v : V} (h : sc d = some u) (r : Rep K G A d v) : v = u := by
  cases d <;> simp [sc] at h <;> subst h <;> simpa only [Rep] using r
theorem sc_flat {d : D} {u : V} (h : sc d = some u) : flatV u = true := by
  cases d <;> simp [sc] at h <;> subst h <;> rfl
def scs : List D → Option (List V)
  | [] => some []
  | d :: ds => match sc d, scs ds with
    | some u, some us => some (u :: us)
    | _, _ => none
theorem scs_ok {K : PySem.W.Frag} {G : Hp} {A : List Addr} : ∀ {ds : List D} {us vs : List V}, scs ds = some us → Reps K G A ds vs → vs = us ∧ us.all flatV = true
  | [], _, _, h, r => by cases h; exact ⟨r.inv0, rfl⟩
  | d :: ds, _, _, h, r => by
    unfold scs at h
    split at h
    · rename_i u us hu hus
      cases h
      obtain ⟨v, t, rfl, r1, r2⟩ := r.inv
      obtain ⟨e1, e2⟩ := scs_ok hus r2
      subst e1
      rw [sc_ok hu r1, List.all_cons, sc_flat hu, e2]
      exact ⟨rfl, rfl⟩
    · cases h
def fEqS (neg : Bool) : S → O → O → Option NV := fun _ x y => match x, y with
  | .val a, .val b => match sc a, sc b with
    | some u, some v => if scal u v = true then some (vB (if neg then !decide (u = v) else decide (u = v))) else none
    | _, _ => none
  | _, _ => none
def fEqD (neg : Bool) : S → O → O → Option NV := fun s x y => match denO s x, denO s y with
  | some p, some q => if p.canLay0 = true ∧ q.canLay0 = true then some (vB (if neg then !PyData.eqv p q else PyData.eqv p q)) else none
  | _, _ => none
def fEq := fOr (fEqS false) (fEqD false)
def fNe := fOr (fEqS true) (fEqD true)
theorem fEqS_ok {K : PySem.W.Frag} {neg : Bool} {F G H : Hp} {A : List Addr} {σ : L2.St} {s : S} {x y : O} {n : NV} {v u : V} {Q : VK} (_w : WS K F G H A σ s) (rx : RO K G A σ x v) (ry : RO K G A σ y u) (e : fEqS neg s x y = some n)
    (q : Done K G A σ H Q n) : scal v u = true ∧ Q (.bl (if neg then !decide (v = u) else decide (v = u))) H := by
  unfold fEqS at e
  split at e
  · split at e
    · rename_i a b u' v' ha hb
      split at e
      · rename_i hs
        cases e
        have e1 := sc_ok ha rx
        have e2 := sc_ok hb ry
        subst e1 e2
        exact ⟨hs, done_bl q⟩
      · cases e
    · cases e
  · cases e
theorem fEqD_ok {K : PySem.W.Frag} {neg : Bool} {F G H : Hp} {A : List Addr} {σ : L2.St} {s : S} {x y : O} {n : NV} {v u : V} {Q : VK} (w : WS K F G H A σ s) (rx : RO K G A σ x v) (ry : RO K G A σ y u) (e : fEqD neg s x y = some n)
    (q : Done K G A σ H Q n) : ∃ d e, Dp K H v d ∧ Dp K H u e ∧ SeqAt.shaped d = true ∧ SeqAt.shaped e = true ∧ Q (.bl (if neg then !PyData.eqv d e else PyData.eqv d e)) H := by
  unfold fEqD at e
  split at e
  · rename_i p q' hp hq
    split at e
    · rename_i hc
      cases e
      have d1 := denO_depth hp
      have d2 := denO_depth hq
      refine ⟨p, q', denO_ok w rx hp, denO_ok w ry hq, ?_, ?_, done_bl q⟩
      · unfold SeqAt.shaped; rw [hc.1]; simp; omega
      · unfold SeqAt.shaped; rw [hc.2]; simp; omega
    · cases e
  · cases e
theorem op2_eq {K : PySem.W.Frag} : Op2 K fEq (fun x y H Q => rEq x y H Q ∨ rEqD K x y H Q) :=
  Op2.or (fun _ _ _ _ _ _ _ _ _ _ _ _ w rx ry e q => fEqS_ok w rx ry e q) fun _ _ _ _ _ _ _ _ _ _ _ _ w rx ry e q => fEqD_ok w rx ry e q
theorem op2_ne {K : PySem.W.Frag} : Op2 K fNe (fun x y H Q => rNe x y H Q ∨ rNeD K x y H Q) :=
  Op2.or (fun _ _ _ _ _ _ _ _ _ _ _ _ w rx ry e q => fEqS_ok w rx ry e q) fun _ _ _ _ _ _ _ _ _ _ _ _ w rx ry e q => fEqD_ok w rx ry e q
/-- in -/
def fInF (neg : Bool) : S → O → O → Option NV := fun s x y => match x with
  | .val d => match sc d, (vS s y).bind scs with
    | some u, some us => some (vB (if neg then !inV u us else inV u us))
    | _, _ => none
  | _ => none
def fInC : S → O → O → Option NV := fStr fun a z => match a.cps.toList with
  | [c] => some (vB (decide (c ∈ z.cps.toList)))
  | _ => none
def fIn := fOr (fInF false) fInC
def fNotIn := fInF true
theorem fInF_ok {K : PySem.W.Frag} {neg : Bool} : Op2 K (fInF neg) (rIn K neg) := by
  intro F G H A σ s x y n v u Q w rx ry e q
  unfold fInF at e
  split at e
  · rename_i d
    split at e
    · rename_i a us ha hus
      cases e
      cases hv : vS s y with
      | none => rw [hv] at hus; cases hus
      | some xs =>
        rw [hv] at hus
        obtain ⟨p, vs, rfl, hs, r⟩ := vS_ok w ry hv
        obtain ⟨e1, e2⟩ := scs_ok (show scs xs = some us from hus) r
        have e3 := sc_ok ha rx
        subst e1 e3
        exact ⟨p, vs, rfl, hs, sc_flat ha, e2, done_bl q⟩
    · cases e
  · cases e
theorem op2_in {K : PySem.W.Frag} : Op2 K fIn (fun x y H Q => rIn K false x y H Q ∨ ∃ (c : Nat) (z : Str), x = .str ⟨#[c]⟩ ∧ y = .str z ∧ Q (.bl (decide (c ∈ z.cps.toList))) H) := by
  refine Op2.or fInF_ok fun F G H A σ s x y n v u Q w rx ry e q => ?_
  unfold fInC fStr at e
  split at e
  · rename_i a z
    dsimp only at e
    split at e
    · rename_i c hc
      cases e
      have ea : a = ⟨#[c]⟩ := by
        obtain ⟨⟨l⟩⟩ := a
        dsimp only at hc
        rw [hc]
      exact ⟨c, z, by rw [← ea]; simpa only [RO, Rep] using rx, by simpa only [RO, Rep] using ry, done_bl q⟩
    · cases e
  · cases e
/-- is None -/
def isNonD : D → Option Bool
  | .non => some true
  | .obj _ => none
  | _ => some false
theorem isNon_ok {K : PySem.W.Frag} {G : Hp} {A : List Addr} {d : D} {b : Bool} {v : V} (h : isNonD d = some b) (r : Rep K G A d v) : decide (v = V.non) = b := by
  cases d with
  | non => cases h; simp only [Rep] at r; subst r; rfl
  | bl z => cases h; simp only [Rep] at r; subst r; rfl
  | int z => cases h; simp only [Rep] at r; subst r; rfl
  | str z => cases h; simp only [Rep] at r; subst r; rfl
  | tup z => cases h; simp only [Rep] at r; obtain ⟨a, vs, rfl, _⟩ := r; rfl
  | lst z => cases h; simp only [Rep] at r; obtain ⟨a, vs, rfl, _⟩ := r; rfl
  | klst z => cases h; simp only [Rep] at r; obtain ⟨a, vs, rfl, _⟩ := r; rfl
  | dct z y => cases h; simp only [Rep] at r; obtain ⟨a, vs, rfl, _⟩ := r; rfl
  | ins z y u => cases h; simp only [Rep] at r; obtain ⟨a, dx, fv, rfl, _⟩ := r; rfl
  | ref z => cases h; simp only [Rep] at r; obtain ⟨a, rfl, _⟩ := r; rfl
  | obj z => cases h
def fIsN (neg : Bool) : S → O → O → Option NV := fun _ x y => match x, y with
  | .val d, .val .non => match isNonD d with
    | some b => some (vB (if neg then !b else b))
    | none => none
  | _, _ => none
theorem fIsN_ok {K : PySem.W.Frag} {neg : Bool} : Op2 K (fIsN neg) (fun x y H Q => y = .non ∧ Q (.bl (if neg then !decide (x = .non) else decide (x = .non))) H) := by
  intro F G H A σ s x y n v u Q w rx ry e q
  unfold fIsN at e
  split at e
  · rename_i d
    split at e
    · rename_i b hb
      cases e
      refine ⟨by simpa only [RO, Rep] using ry, ?_⟩
      rw [isNon_ok hb rx]
      exact done_bl q
    · cases e
  · cases e

/-! ### tests, truth values -/
def truD (s : S) (o : O) : Option Bool := match dat s o with
  | some .non => some false
  | some (.bl b) => some b
  | some (.int i) => some (i != 0)
  | some (.str x) => if x.length ≤ sizeLine then some ((x.length : Int) != 0) else none
  | _ => (vS s o).map fun xs => !xs.isEmpty
theorem tru_okD {K : PySem.W.Frag} {F G H : Hp} {A : List Addr} {σ : L2.St} {s : S} {o : O} {v : V} {b : Bool} (w : WS K F G H A σ s) (r : RO K G A σ o v) (e : truD s o = some b) : TruV K v H b := by
  unfold truD at e
  split at e
  · rename_i ed
    have := dat_ok w r ed (fun c => by cases c <;> simp [Cont.toD])
    simp only [Rep] at this
    subst this; cases e; rfl
  · rename_i k ed
    have := dat_ok w r ed (fun c => by cases c <;> simp [Cont.toD])
    simp only [Rep] at this
    subst this; cases e; rfl
  · rename_i k ed
    have := dat_ok w r ed (fun c => by cases c <;> simp [Cont.toD])
    simp only [Rep] at this
    subst this; cases e; rfl
  · rename_i k ed
    have := dat_ok w r ed (fun c => by cases c <;> simp [Cont.toD])
    simp only [Rep] at this
    subst this
    split at e
    · rename_i hz; cases e; exact ⟨hz, rfl⟩
    · cases e
  · simp only [Option.map_eq_some_iff] at e
    obtain ⟨xs, ex, rfl⟩ := e
    obtain ⟨a, vs, rfl, h, rs⟩ := vS_ok w r ex
    have he : xs.isEmpty = vs.isEmpty := by
      have := rs.length
      cases xs <;> cases vs <;> simp at this <;> rfl
    rw [he]
    rcases h with h | h
    · exact .inl ⟨vs, h, rfl⟩
    · exact .inr (.inl ⟨vs, h, rfl⟩)
/-- an expression as a test -/
def mTru (m : M RV) : M Bool := fz m >>= fun o => fun s => match truD s o with
  | some b => .ok b s
  | none => .stuck
/-- a truth value -/
def mBl (m : M RV) : M Bool := fz m >>= fun o => match o with
  | .val (.bl b) => pure b
  | _ => M.stuck
def mAndB (a b : M Bool) : M Bool := a >>= fun c => if c = true then b else pure false
def mOrB (a b : M Bool) : M Bool := a >>= fun c => if c = true then pure true else b
def mNotB (a : M Bool) : M Bool := a >>= fun c => pure (!c)
def vbl (b : Bool) : M RV := pure (.opd (.val (.bl b)))
def mAnd (a b : M RV) : M RV := mBl a >>= fun c => if c = true then b else vbl false
def mOr (a b : M RV) : M RV := mBl a >>= fun c => if c = true then vbl true else b
def mNot (a : M RV) : M RV := mBl a >>= fun c => vbl (!c)
def mIf (c : M Bool) (a b : M RV) : M RV := c >>= fun k => if k = true then a else b
section
variable {X : Cx} {Wx : WX} {e a b c : Expr} {es : List Expr} {m ma mb mc : M RV} {ta tb : M Bool} {pos : Pos}
theorem dt_tru (h : DP X Wx e m) (he : ∀ whole, isTrue e X.env whole = (do let v ← whole; standAt e.pos; holding [v] (truthy v)) := by intro _; rfl) : DT X Wx e (mTru m) := by
  refine PT.imp (pt_truth h.fz he) fun σ H Q ⟨F, G, A, s, h⟩ => ?_
  refine ⟨F, G, A, s, h.bind.mono fun v H1 ⟨G1, A1, s1, o, r1, e1, p1, w1, h1⟩ => ?_⟩
  dsimp only at h1
  split at h1
  · rename_i k s' eq
    split at eq
    · rename_i b hb
      cases eq
      exact ⟨k, tru_okD w1 r1 hb, h1 k G1 H1 A1 w1 rfl Ext.refl Pre.refl⟩
    · cases eq
  · rename_i x s' eq
    split at eq <;> cases eq
  · exact h1.elim
theorem blAt {K : PySem.W.Frag} {γ δ : Type} {Rel2 : Rl γ δ} {F G H : Hp} {A : List Addr} {σ : L2.St} {s : S} {m : M RV} {k : Bool → M γ} {Q : δ → Hp → Prop} (h : At K Wx Rel2 (mBl m >>= k) F G A σ s H Q) :
    At K Wx (rO K) (fz m) F G A σ s H (fun v H1 => ∃ c G1 A1 s1, v = .bl c ∧ At K Wx Rel2 (k c) F G1 A1 σ s1 H1 Q) := by
  have h1 : At K Wx rB (mBl m) F G A σ s H _ := h.bind
  refine At.mono (At.bind h1) fun v H1 ⟨G1, A1, s1, o, r1, e1, p1, h1⟩ => ?_
  split at h1
  · rename_i b
    have ev : v = .bl b := by simpa only [RO, Rep] using r1
    obtain ⟨G2, A2, s2, c, rc, e2, p2, h2⟩ := h1.pure (v := b) h1.1 Ext.refl Pre.refl rfl
    cases rc
    exact ⟨b, G2, A2, s2, ev, h2⟩
  · exact h1.2.elim
theorem dw_and1 (ha : DT X Wx a ta) : DW X Wx (.BoolOp .And [a] pos) ta := pw_and1 ha
theorem dw_or1 (ha : DT X Wx a ta) : DW X Wx (.BoolOp .Or [a] pos) ta := pw_or1 ha
theorem dw_and (ha : DT X Wx a ta) (hb : DW X Wx (.BoolOp .And (b :: es) pos) tb) : DW X Wx (.BoolOp .And (a :: b :: es) pos) (mAndB ta tb) := by
  refine PW.imp (pw_and ha hb) fun σ H Q ⟨F, G, A, s, h⟩ => ⟨F, G, A, s, h.bind.mono fun c H1 ⟨G1, A1, s1, c', r1, e1, p1, h1⟩ => ?_⟩
  cases r1
  cases c with
  | true => exact ⟨F, G1, A1, s1, h1⟩
  | false => exact h1.pure h1.1 Ext.refl Pre.refl rfl
theorem dw_or (ha : DT X Wx a ta) (hb : DW X Wx (.BoolOp .Or (b :: es) pos) tb) : DW X Wx (.BoolOp .Or (a :: b :: es) pos) (mOrB ta tb) := by
  refine PW.imp (pw_or ha hb) fun σ H Q ⟨F, G, A, s, h⟩ => ⟨F, G, A, s, h.bind.mono fun c H1 ⟨G1, A1, s1, c', r1, e1, p1, h1⟩ => ?_⟩
  cases r1
  cases c with
  | false => exact ⟨F, G1, A1, s1, h1⟩
  | true => exact h1.pure h1.1 Ext.refl Pre.refl rfl
theorem dt_w (h : DW X Wx e ta) : DT X Wx e ta := h.pt
theorem dt_not (ha : DT X Wx a ta) : DT X Wx (.UnaryOp .Not a pos) (mNotB ta) := by
  refine PT.imp (pt_not ha) fun σ H Q ⟨F, G, A, s, h⟩ => ⟨F, G, A, s, h.bind.mono fun c H1 ⟨G1, A1, s1, c', r1, e1, p1, h1⟩ => ?_⟩
  cases r1
  exact h1.pure h1.1 Ext.refl Pre.refl rfl
theorem dp_one {op : BoolOp} (ha : DP X Wx a ma) : DP X Wx (.BoolOp op [a] pos) ma := pe_one ha
theorem dp_and (ha : DP X Wx a ma) (hb : DP X Wx (.BoolOp .And (b :: es) pos) mb) : DP X Wx (.BoolOp .And (a :: b :: es) pos) (mAnd ma mb) := by
  refine PE.imp (pe_and ha.fz hb) fun σ H Q ⟨F, G, A, s, h⟩ => ⟨F, G, A, s, (blAt h).mono fun v H1 ⟨c, G1, A1, s1, ev, h1⟩ => ⟨c, ev, ?_⟩⟩
  cases c with
  | true => exact ⟨F, G1, A1, s1, h1⟩
  | false => exact h1.pure (v := V.bl false) h1.1 Ext.refl Pre.refl (by simp only [RP, RO, Rep])
theorem dp_or (ha : DP X Wx a ma) (hb : DP X Wx (.BoolOp .Or (b :: es) pos) mb) : DP X Wx (.BoolOp .Or (a :: b :: es) pos) (mOr ma mb) := by
  refine PE.imp (pe_or ha.fz hb) fun σ H Q ⟨F, G, A, s, h⟩ => ⟨F, G, A, s, (blAt h).mono fun v H1 ⟨c, G1, A1, s1, ev, h1⟩ => ⟨c, ev, ?_⟩⟩
  cases c with
  | false => exact ⟨F, G1, A1, s1, h1⟩
  | true => exact h1.pure (v := V.bl true) h1.1 Ext.refl Pre.refl (by simp only [RP, RO, Rep])
theorem dp_not (ha : DP X Wx a ma) : DP X Wx (.UnaryOp .Not a pos) (mNot ma) :=
  PE.imp (pe_not ha.fz) fun σ H Q ⟨F, G, A, s, h⟩ => ⟨F, G, A, s, (blAt h).mono fun v H1 ⟨c, G1, A1, s1, ev, h1⟩ => ⟨c, ev, h1.pure (v := V.bl (!c)) h1.1 Ext.refl Pre.refl (by simp only [RP, RO, Rep])⟩⟩
theorem dp_if (hc : DT X Wx c ta) (ha : DP X Wx a ma) (hb : DP X Wx b mb) : DP X Wx (.IfExp c a b pos) (mIf ta ma mb) := by
  refine PE.imp (pe_ifExp hc ha hb) fun σ H Q ⟨F, G, A, s, h⟩ => ⟨F, G, A, s, h.bind.mono fun c H1 ⟨G1, A1, s1, c', r1, e1, p1, h1⟩ => ?_⟩
  cases r1
  cases c with
  | true => exact ⟨F, G1, A1, s1, h1⟩
  | false => exact ⟨F, G1, A1, s1, h1⟩
end
end DS
/-! The data layer, part d: chains, subscripts, slices, displays, arguments, built-ins, methods of built-in types. -/
namespace DS
open PySem L2

/-! ### chains -/
def mChain (f g : S → O → O → Option NV) (a b c : M RV) : M RV := fz a >>= fun x => fz b >>= fun y => opB f x y >>= fun k => if k = true then fz c >>= fun z => op2 g y z else vbl false
def mChainB (f g : S → O → O → Option NV) (a b c : M RV) : M Bool := fz a >>= fun x => fz b >>= fun y => opB f x y >>= fun k => if k = true then fz c >>= fun z => opB g y z else pure false
section
variable {X : Cx} {Wx : WX} {e a b c : Expr} {es : List Expr} {m ma mb mc : M RV} {pos : Pos}
theorem opB_at {K : PySem.W.Frag} {F G H : Hp} {A : List Addr} {σ : L2.St} {s : S} {f : S → O → O → Option NV} {x y : O} {Q : Bool → Hp → Prop} (h : At K Wx rB (opB f x y) F G A σ s H Q) :
    ∃ k, f s x y = some (vB k) ∧ Q k H := by
  obtain ⟨w, h⟩ := h
  unfold opB at h
  split at h
  · rename_i k s' eq
    split at eq
    · rename_i b hb
      cases eq
      exact ⟨k, hb, h k G H A w rfl Ext.refl Pre.refl⟩
    · cases eq
  · rename_i x s' eq
    split at eq <;> cases eq
  · exact h.elim
theorem done_b {K : PySem.W.Frag} {G H : Hp} {A : List Addr} {σ : L2.St} {Q : VK} {k : Bool} (h : Q (.bl k) H) : Done K G A σ H Q (vB k) := fun v r => by
  have ev : v = .bl k := by simpa only [RO, Rep] using r
  subst ev; exact h
theorem dp_chain {op op' : CmpOp} {f g : S → O → O → Option NV} {r r' : R2} (ho : OpR X (compareOp op) r) (hf : Op2 X.K f r) (ho' : OpR X (compareOp op') r') (hg : Op2 X.K g r')
    (ha : DP X Wx a ma) (hb : DP X Wx b mb) (hc : DP X Wx c mc) (hm : lastMarks [op, op'] [b, c] = false := by rfl) : DP X Wx (.Compare a [op, op'] [b, c] pos) (mChain f g ma mb mc) := by
  refine PE.imp (pe_chain ho ho' ha.fz hb.fz hc.fz hm) fun σ H Q ⟨F, G, A, s, h⟩ => ?_
  refine ⟨F, G, A, s, h.bind.mono fun v H1 ⟨G1, A1, s1, x, r1, e1, p1, h1⟩ => ?_⟩
  refine ⟨F, G1, A1, s1, h1.bind.mono fun u H2 ⟨G2, A2, s2, y, r2, e2, p2, h2⟩ => ?_⟩
  obtain ⟨k, ek, G3, A3, s3, k', rk, e3, p3, h3⟩ := opB_at (h2.bind)
  cases rk
  refine hf F G2 H2 A2 σ s2 x y _ v u _ h2.1 (r1.mono e2 p2) r2 ek (done_b ⟨k, rfl, ?_⟩)
  cases k with
  | false => exact h3.pure (v := V.bl false) h3.1 Ext.refl Pre.refl (by simp only [RP, RO, Rep])
  | true =>
    refine ⟨F, G3, A3, s3, h3.bind.mono fun z H4 ⟨G4, A4, s4, y', r4, e4, p4, h4⟩ => ?_⟩
    obtain ⟨n, e, q⟩ := op2_at h4
    exact hg F G4 H4 A4 σ s4 y y' n u z Q h4.1 ((r2.mono e3 p3).mono e4 p4) r4 e q
theorem dt_chain {op op' : CmpOp} {f g : S → O → O → Option NV} {r r' : R2} (ho : OpR X (compareOp op) r) (hf : Op2 X.K f r) (ho' : OpR X (compareOp op') r') (hg : Op2 X.K g r')
    (ha : DP X Wx a ma) (hb : DP X Wx b mb) (hc : DP X Wx c mc) (hm : lastMarks [op, op'] [b, c] = false := by rfl) : DT X Wx (.Compare a [op, op'] [b, c] pos) (mChainB f g ma mb mc) := by
  refine PT.imp (pt_chain ho ho' ha.fz hb.fz hc.fz hm) fun σ H Q ⟨F, G, A, s, h⟩ => ?_
  refine ⟨F, G, A, s, h.bind.mono fun v H1 ⟨G1, A1, s1, x, r1, e1, p1, h1⟩ => ?_⟩
  refine ⟨F, G1, A1, s1, h1.bind.mono fun u H2 ⟨G2, A2, s2, y, r2, e2, p2, h2⟩ => ?_⟩
  obtain ⟨k, ek, G3, A3, s3, k', rk, e3, p3, h3⟩ := opB_at (h2.bind)
  cases rk
  refine hf F G2 H2 A2 σ s2 x y _ v u _ h2.1 (r1.mono e2 p2) r2 ek (done_b ⟨k, rfl, ?_⟩)
  cases k with
  | false => exact ⟨false, rfl, h3.pure (v := false) h3.1 Ext.refl Pre.refl rfl⟩
  | true =>
    refine ⟨F, G3, A3, s3, h3.bind.mono fun z H4 ⟨G4, A4, s4, y', r4, e4, p4, h4⟩ => ?_⟩
    obtain ⟨k4, e, q⟩ := opB_at h4
    exact hg F G4 H4 A4 σ s4 y y' _ u z _ h4.1 ((r2.mono e3 p3).mono e4 p4) r4 e (done_b ⟨k4, rfl, q⟩)

/-! ### subscripts -/
def fIx : S → O → O → Option NV := fun s x y => match y with
  | .val (.int i) => match vS s x with
    | some xs => match atI xs i with
      | some d => some (.opd (.val d))
      | none => none
    | none => match x with
      | .val (.str z) => match atI z.cps.toList i with
        | some c => if z.length ≤ sizeLine then some (vSt ⟨#[c]⟩) else none
        | none => none
      | _ => none
  | _ => none
theorem atI_rep {K : PySem.W.Frag} {G : Hp} {A : List Addr} {xs : List D} {vs : List V} {i : Int} {d : D} (r : Reps K G A xs vs) (e : atI xs i = some d) : ∃ v, atI vs i = some v ∧ Rep K G A d v := by
  unfold atI at e ⊢
  rw [r.length]
  cases h : ixN xs.length i with
  | none => rw [h] at e; cases e
  | some j =>
    rw [h] at e
    exact r.get (show xs[j]? = some d from e)
theorem op2_ix {K : PySem.W.Frag} : Op2 K fIx (rIx K) := by
  intro F G H A σ s x y n v u Q w rx ry e q
  unfold fIx at e
  split at e
  · rename_i i
    have ey : u = .int i := by simpa only [RO, Rep] using ry
    subst ey
    split at e
    · rename_i xs hx
      split at e
      · rename_i d hd
        cases e
        obtain ⟨a, vs, rfl, h, rs⟩ := vS_ok w rx hx
        obtain ⟨z, hz, rz⟩ := atI_rep rs hd
        rcases h with h | h
        · exact .inl ⟨a, vs, i, z, rfl, rfl, h, hz, q z rz⟩
        · exact .inr (.inl ⟨a, vs, i, z, rfl, rfl, h, hz, q z rz⟩)
      · cases e
    · split at e
      · rename_i z _
        split at e
        · rename_i c hc
          split at e
          · rename_i hz
            cases e
            exact .inr (.inr ⟨z, i, c, by simpa only [RO, Rep] using rx, rfl, hz, hc, done_str q⟩)
          · cases e
        · cases e
      · cases e
  · cases e
theorem dp_ix (ha : DP X Wx a ma) (hb : DP X Wx b mb) (hs : PlainIx b) : DP X Wx (.Subscript a b pos) (mBin fIx ma mb) := by
  refine PE.imp (pe_ix ix_seq ha.fz hb.fz hs) fun σ H Q ⟨F, G, A, s, h⟩ => ?_
  refine ⟨F, G, A, s, h.bind.mono fun v H1 ⟨G1, A1, s1, x, r1, e1, p1, h1⟩ => ?_⟩
  refine ⟨F, G1, A1, s1, h1.bind.mono fun u H2 ⟨G2, A2, s2, y, r2, e2, p2, h2⟩ => ?_⟩
  obtain ⟨n, e, q⟩ := op2_at h2
  exact op2_ix F G2 H2 A2 σ s2 x y n v u Q h2.1 (r1.mono e2 p2) r2 e q
/-- slices -/
def cutD (xs : List D) (lo hi : Option Int) : List D := (xs.drop (HT.sIx xs.length 0 lo)).take (HT.sIx xs.length xs.length hi - HT.sIx xs.length 0 lo)
theorem cut_rep {K : PySem.W.Frag} {G : Hp} {A : List Addr} {xs : List D} {vs : List V} {lo hi : Option Int} (r : Reps K G A xs vs) : Reps K G A (cutD xs lo hi) (cutV vs lo hi) := by
  unfold cutD cutV
  rw [r.length]
  exact (r.drop _).take _
def fSl (s : S) (x : O) (lo hi : Option Int) : Option NV := match vL s x with
  | some xs => some (.lst (cutD xs lo hi))
  | none => match vT s x with
    | some xs => if HT.sIx xs.length 0 lo = 0 ∧ HT.sIx xs.length xs.length hi = xs.length then none else some (.tup (cutD xs lo hi))
    | none => match x with
      | .val (.str z) => if z.length ≤ sizeLine then some (vSt (cutS z lo hi)) else none
      | _ => none
theorem fSl_ok {K : PySem.W.Frag} {F G H : Hp} {A : List Addr} {σ : L2.St} {s : S} {x : O} {lo hi : Option Int} {n : NV} {v : V} {Q : VK} (w : WS K F G H A σ s) (r : RO K G A σ x v) (e : fSl s x lo hi = some n) (q : Done K G A σ H Q n) :
    rSlL K v lo hi H Q ∨ rSlT K v lo hi H Q ∨ rSlS v lo hi H Q := by
  unfold fSl at e
  split at e
  · rename_i xs hx
    cases e
    obtain ⟨a, vs, rfl, hv, rs⟩ := vL_ok w r hx
    exact .inl ⟨a, vs, rfl, hv, fun p hp => q p _ hp (cut_rep rs)⟩
  · split at e
    · rename_i xs hx
      split at e
      · cases e
      · rename_i hn
        cases e
        obtain ⟨a, vs, rfl, hv, rs⟩ := vT_ok w r hx
        exact .inr (.inl ⟨a, vs, rfl, hv, by rw [rs.length]; exact hn, fun p hp => q p _ hp (cut_rep rs)⟩)
    · split at e
      · rename_i z _ _
        split at e
        · rename_i hz
          cases e
          exact .inr (.inr ⟨z, by simpa only [RO, Rep] using r, hz, done_str q⟩)
        · cases e
      · cases e
def part : Option (M RV) → M (Option Int)
  | none => pure none
  | some m => fz m >>= fun o => match o with
    | .val (.int i) => pure (some i)
    | _ => M.stuck
def mSlice (a : M RV) (lo hi : Option (M RV)) : M RV := fz a >>= fun x => part lo >>= fun l => part hi >>= fun h => fun s => (opt (fSl s x l h) >>= nv) s
abbrev rI' : Rl (Option Int) (Option Int) := fun _ _ _ _ _ _ a b => a = b
def tPt (K : PySem.W.Frag) (Wx : WX) (m : M (Option Int)) : TO := fun σ H Q => ∃ F G A s, At K Wx rI' m F G A σ s H Q
theorem PO.imp {o : Option Expr} {t t' : TO} (h : PO X o t) (k : ∀ σ H Q, t' σ H Q → t σ H Q) : PO X o t' := ⟨fun pins s σ H Q I q => h.run pins s σ H Q I (k σ H Q q)⟩
abbrev DPo (X : Cx) (Wx : WX) (o : Option Expr) (m : M (Option Int)) : Prop := PO X o (tPt X.K Wx m)
theorem do_none : DPo X Wx none (part none) := PO.imp po_none fun _ _ _ ⟨_, _, _, _, h⟩ => h.pure h.1 Ext.refl Pre.refl rfl
theorem do_some (ha : DP X Wx a ma) : DPo X Wx (some a) (part (some ma)) := by
  refine PO.imp (po_some ha.fz) fun σ H Q ⟨F, G, A, s, h⟩ => ⟨F, G, A, s, (At.bind h).mono fun v H1 ⟨G1, A1, s1, o, r1, e1, p1, h1⟩ => ?_⟩
  split at h1
  · rename_i i
    have ev : v = .int i := by simpa only [RO, Rep] using r1
    exact ⟨i, ev, h1.pure h1.1 Ext.refl Pre.refl rfl⟩
  · exact h1.2.elim
theorem dp_slice {lo hi : Option Expr} {ml mh : Option (M RV)} {p2 : Pos} (ha : DP X Wx a ma) (hl : DPo X Wx lo (part ml)) (hh : DPo X Wx hi (part mh)) : DP X Wx (.Subscript a (.Slice lo hi none p2) pos) (mSlice ma ml mh) := by
  refine PE.imp (pe_slice (SlR.or sl_list (SlR.or sl_tup sl_str)) ha.fz hl hh) fun σ H Q ⟨F, G, A, s, h⟩ => ?_
  refine ⟨F, G, A, s, h.bind.mono fun v H1 ⟨G1, A1, s1, x, r1, e1, p1, h1⟩ => ?_⟩
  refine ⟨F, G1, A1, s1, h1.bind.mono fun l H2 ⟨G2, A2, s2, l', r2, e2, p2, h2⟩ => ?_⟩
  cases r2
  refine ⟨F, G2, A2, s2, h2.bind.mono fun hh H3 ⟨G3, A3, s3, h', r3, e3, p3, h3⟩ => ?_⟩
  cases r3
  have rx := (r1.mono e2 p2).mono e3 p3
  have h4 : At X.K Wx (rP X.K) (opt (fSl s3 x l hh) >>= nv) F G3 A3 σ s3 H3 Q := h3
  obtain ⟨n, e, q⟩ := opt_at h4
  exact fSl_ok h3.1 rx e (nv_done q)
/-- x[::-1] -/
def mRev (a : M RV) : M RV := fz a >>= fun x => fun s => (opt ((vL s x).map fun xs => NV.lst xs.reverse) >>= nv) s
theorem dp_rev {k p1 p2 p3} (ha : DP X Wx a ma) : DP X Wx (.Subscript a (.Slice none none (some (.UnaryOp .USub (.Constant (.int 1) k p1) p2)) p3) pos) (mRev ma) := by
  refine PE.imp (pe_revL ha.fz) fun σ H Q ⟨F, G, A, s, h⟩ => ⟨F, G, A, s, h.bind.mono fun v H1 ⟨G1, A1, s1, x, r1, e1, p1, h1⟩ => ?_⟩
  have h4 : At X.K Wx (rP X.K) (opt ((vL s1 x).map fun xs => NV.lst xs.reverse) >>= nv) F G1 A1 σ s1 H1 Q := h1
  obtain ⟨n, e, q⟩ := opt_at h4
  have q := nv_done q
  simp only [Option.map_eq_some_iff] at e
  obtain ⟨xs, hx, rfl⟩ := e
  obtain ⟨a, vs, rfl, hv, rs⟩ := vL_ok h1.1 r1 hx
  exact ⟨a, vs, rfl, hv, fun p hp => q p _ hp rs.reverse⟩

/-! ### arguments, displays -/
def aNil : M (List D) := pure []
def aCons (m : M RV) (r : M (List D)) : M (List D) := fc m >>= fun d => r >>= fun ds => pure (d :: ds)
def aStar (m : M RV) (r : M (List D)) : M (List D) := fz m >>= fun o => fun s => match vS s o with
  | some xs => (r >>= fun ds => pure (xs ++ ds)) s
  | none => .stuck
theorem da_nil : DA X Wx [] aNil := PA.imp pa_nil fun _ _ _ ⟨_, _, _, _, h⟩ => h.pure h.1 Ext.refl Pre.refl Reps.nil
theorem da_cons {mr : M (List D)} (ha : DP X Wx a ma) (hr : DA X Wx es mr) (hs : starEach (a :: es) X.env = (false, eval a X.env) :: starEach es X.env := by rfl) : DA X Wx (a :: es) (aCons ma mr) := by
  refine PA.imp (pa_cons ha.fc hr hs) fun σ H Q ⟨F, G, A, s, h⟩ => ⟨F, G, A, s, h.bind.mono fun v H1 ⟨G1, A1, s1, d, r1, e1, p1, h1⟩ => ?_⟩
  refine ⟨F, G1, A1, s1, h1.bind.mono fun vs H2 ⟨G2, A2, s2, ds, r2, e2, p2, h2⟩ => ?_⟩
  exact h2.pure h2.1 Ext.refl Pre.refl (Reps.cons (Rep.mono e2 p2 d r1) r2)
theorem da_star {mr : M (List D)} {p : Pos} (ha : DP X Wx a ma) (hr : DA X Wx es mr) (hs : starEach (.Starred a p :: es) X.env = (true, eval a X.env) :: starEach es X.env := by rfl) : DA X Wx (.Starred a p :: es) (aStar ma mr) := by
  refine PA.imp (StX.pa_star ha.fz hr hs) fun σ H Q ⟨F, G, A, s, h⟩ => ⟨F, G, A, s, h.bind.mono fun v H1 ⟨G1, A1, s1, o, r1, e1, p1, w1, h1⟩ => ?_⟩
  dsimp only at h1
  cases hx : vS s1 o with
  | none => rw [hx] at h1; exact h1.elim
  | some xs =>
    rw [hx] at h1
    have h1' : At X.K Wx (rDs X.K) (mr >>= fun ds => pure (xs ++ ds)) F G1 A1 σ s1 H1 Q := ⟨w1, h1⟩
    obtain ⟨a, vs, rfl, hv, rs⟩ := vS_ok w1 r1 hx
    refine ⟨a, vs, rfl, hv.symm, F, G1, A1, s1, h1'.bind.mono fun us H2 ⟨G2, A2, s2, ds, r2, e2, p2, h2⟩ => ?_⟩
    exact h2.pure h2.1 Ext.refl Pre.refl ((Reps.mono e2 p2 xs rs).append r2)
def mTup (m : M (List D)) : M RV := m >>= fun ds => opt (if ds.length ≤ sizeLine then some (NV.tup ds) else none) >>= nv
def mLst (m : M (List D)) : M RV := m >>= fun ds => opt (if ds.length ≤ sizeLine then some (NV.lst ds) else none) >>= nv
theorem disp {K : PySem.W.Frag} {F G H : Hp} {A : List Addr} {σ : L2.St} {s : S} {ds : List D} {f : List D → NV} {Q : VK} (h : At K Wx (rP K) (opt (if ds.length ≤ sizeLine then some (f ds) else none) >>= nv) F G A σ s H Q) : ds.length ≤ sizeLine ∧ Done K G A σ H Q (f ds) := by
  obtain ⟨n, e, q⟩ := opt_at h
  split at e
  · rename_i hz
    cases e
    exact ⟨hz, nv_done q⟩
  · cases e
theorem dp_tup {x1} {mr : M (List D)} (hr : DA X Wx es mr) : DP X Wx (.Tuple es x1 pos) (mTup mr) := by
  refine PE.imp (pe_tup hr) fun σ H Q ⟨F, G, A, s, h⟩ => ⟨F, G, A, s, h.bind.mono fun vs H1 ⟨G1, A1, s1, ds, r1, e1, p1, h1⟩ => ?_⟩
  obtain ⟨hz, q⟩ := disp h1
  exact ⟨by rw [r1.length]; exact hz, fun p hp => q p vs hp r1⟩
theorem dp_lst {mr : M (List D)} (hr : DA X Wx es mr) : DP X Wx (.List es pos) (mLst mr) := by
  refine PE.imp (pe_lst hr) fun σ H Q ⟨F, G, A, s, h⟩ => ⟨F, G, A, s, h.bind.mono fun vs H1 ⟨G1, A1, s1, ds, r1, e1, p1, h1⟩ => ?_⟩
  obtain ⟨hz, q⟩ := disp h1
  exact ⟨by rw [r1.length]; exact hz, fun p hp => q p vs hp r1⟩
/-- a new object becomes a shared one -/
def mShare (m : M RV) : M RV := m >>= fun r => match r with
  | .own c => fun s => .ok (.opd (.val (.ref s.cs.length))) { s with cs := s.cs ++ [c] }
  | _ => M.stuck
theorem WS.share {K : PySem.W.Frag} {F G H : Hp} {A : List Addr} {σ : L2.St} {s : S} (w : WS K F G H A σ s) {a : Addr} {c : Cont} (l : Lone K F G H A σ s c a) :
    WS K F G H (A ++ [a]) σ { s with cs := s.cs ++ [c] } := by
  have pre : Pre A (A ++ [a]) := List.prefix_append _ _
  refine ⟨w.sub, fun b o e => ?_, by simp [w.len], ?_, fun n c' b e1 e2 => ?_, fun i d e => ?_, fun i c' e => ?_, w.apart⟩
  · obtain ⟨h1, h2, h3⟩ := w.fr b o e
    refine ⟨h1, h2, fun hb => ?_⟩
    rcases List.mem_append.mp hb with z | z
    · exact h3 z
    · have : b = a := by simpa using z
      subst this
      rw [l.f] at e; cases e
  · rw [List.nodup_append]
    refine ⟨w.nd, by simp, fun x hx y hy z => ?_⟩
    have : y = a := by simpa using hy
    subst this; subst z
    exact l.sh hx
  · have e1 : (s.cs ++ [c])[n]? = some c' := e1
    by_cases hn : n < s.cs.length
    · rw [List.getElem?_append_left hn] at e1
      rw [List.getElem?_append_left (by rw [w.len]; exact hn)] at e2
      obtain ⟨h1, h2⟩ := w.cell n c' b e1 e2
      exact ⟨h1, h2.mono Ext.refl pre rfl⟩
    · rw [List.getElem?_append_right (by omega)] at e1
      rw [List.getElem?_append_right (by rw [w.len]; omega), w.len] at e2
      have hn0 : n - s.cs.length = 0 := by
        cases h : n - s.cs.length with
        | zero => rfl
        | succ k => rw [h] at e1; simp at e1
      rw [hn0] at e1 e2
      have ec : c = c' := by simpa using e1
      have ea : a = b := by simpa using e2
      subst ec ea
      exact ⟨l.g, l.rep.mono Ext.refl pre rfl⟩
  · obtain ⟨v, h1, h2⟩ := w.fz i d e
    exact ⟨v, h1, h2.mono Ext.refl pre⟩
  · obtain ⟨b, h1, h2, h3, h4, h5⟩ := w.own i c' e
    refine ⟨b, h1, h2, h3, fun hb => ?_, h5.mono Ext.refl pre rfl⟩
    rcases List.mem_append.mp hb with z | z
    · exact h4 z
    · have : b = a := by simpa using z
      subst this
      exact l.sl i c' e h1
theorem dp_share (h : DP X Wx e m) : DP X Wx e (mShare m) := by
  refine PE.imp h fun σ H Q ⟨F, G, A, s, h⟩ => ⟨F, G, A, s, h.bind.mono fun v H1 ⟨G1, A1, s1, r, r1, e1, p1, w1, h1⟩ => ?_⟩
  cases r with
  | opd o => exact h1.elim
  | own c =>
    obtain ⟨a, rfl, l⟩ := r1
    refine h1 (.ref a) G1 H1 (A1 ++ [a]) (w1.share l) ?_ Ext.refl (List.prefix_append _ _)
    show Rep X.K G1 (A1 ++ [a]) (.ref s1.cs.length) (.ref a)
    simp only [Rep]
    exact ⟨a, rfl, by rw [← w1.len]; simp⟩
end
end DS
/-! The data layer, part e: built-in functions, methods of built-in types, f-strings. -/
namespace DS
open PySem L2

/-! ### operand lists -/
abbrev ROs (K : PySem.W.Frag) (G : Hp) (A : List Addr) (σ : L2.St) : List O → List V → Prop := Paired (RO K G A σ)
theorem ROs.mono {K : PySem.W.Frag} {G G' : Hp} {A A' : List Addr} {σ : L2.St} (h : Ext G G') (p : Pre A A') : ∀ {os : List O} {vs : List V}, ROs K G A σ os vs → ROs K G' A' σ os vs
  | _, _, .nil => .nil
  | _, _, .cons r t => .cons (r.mono h p) (ROs.mono h p t)
abbrev rOs (K : PySem.W.Frag) : Rl (List O) (List V) := fun _ G _ A σ _ os vs => ROs K G A σ os vs
abbrev DAo (X : Cx) (Wx : WX) (es : List Expr) (m : M (List O)) : Prop := PA X es (fun σ H Q => ∃ F G A s, At X.K Wx (rOs X.K) m F G A σ s H Q)
def oNil : M (List O) := pure []
def oCons (m : M RV) (r : M (List O)) : M (List O) := fz m >>= fun o => r >>= fun os => pure (o :: os)
def fnN (f : S → List O → Option NV) (args : M (List O)) : M RV := args >>= fun os => fun s => (opt (f s os) >>= nv) s
def OpN (K : PySem.W.Frag) (f : S → List O → Option NV) (r : List V → Hp → VK → Prop) : Prop :=
  ∀ F G H A σ s os n vs Q, WS K F G H A σ s → ROs K G A σ os vs → f s os = some n → Done K G A σ H Q n → r vs H Q
def f1 (f : S → O → Option NV) : S → List O → Option NV := fun s os => match os with
  | [o] => f s o
  | _ => none
def Op1 (K : PySem.W.Frag) (f : S → O → Option NV) (r : V → Hp → VK → Prop) : Prop :=
  ∀ F G H A σ s o n v Q, WS K F G H A σ s → RO K G A σ o v → f s o = some n → Done K G A σ H Q n → r v H Q
theorem OpN.one {K : PySem.W.Frag} {f : S → O → Option NV} {r : V → Hp → VK → Prop} (h : Op1 K f r) : OpN K (f1 f) (fun vs H Q => ∃ v, vs = [v] ∧ r v H Q) := by
  intro F G H A σ s os n vs Q w ro e q
  unfold f1 at e
  split at e
  · cases ro with
    | cons r t => cases t; exact ⟨_, rfl, h F G H A σ s _ n _ Q w r e q⟩
  · cases e
section
variable {X : Cx} {Wx : WX} {e a b c : Expr} {es : List Expr} {m ma mb mc : M RV} {mo : M (List O)} {x : Str} {p pos : Pos} {id T : String}
theorem dao_nil : DAo X Wx [] oNil := PA.imp pa_nil fun _ _ _ ⟨_, _, _, _, h⟩ => h.pure h.1 Ext.refl Pre.refl .nil
theorem dao_cons (ha : DP X Wx a ma) (hr : DAo X Wx es mo) (hs : starEach (a :: es) X.env = (false, eval a X.env) :: starEach es X.env := by rfl) : DAo X Wx (a :: es) (oCons ma mo) := by
  refine PA.imp (pa_cons ha.fz hr hs) fun σ H Q ⟨F, G, A, s, h⟩ => ⟨F, G, A, s, h.bind.mono fun v H1 ⟨G1, A1, s1, d, r1, e1, p1, h1⟩ => ?_⟩
  refine ⟨F, G1, A1, s1, h1.bind.mono fun vs H2 ⟨G2, A2, s2, ds, r2, e2, p2, h2⟩ => ?_⟩
  exact h2.pure h2.1 Ext.refl Pre.refl (.cons (r1.mono e2 p2) r2)
theorem fnN_at {K : PySem.W.Frag} {F G H : Hp} {A : List Addr} {σ : L2.St} {s : S} {f : S → List O → Option NV} {os : List O} {Q : VK} (h : At K Wx (rP K) (fun s => (opt (f s os) >>= nv) s) F G A σ s H Q) : ∃ n, f s os = some n ∧ Done K G A σ H Q n := by
  have h' : At K Wx (rP K) (opt (f s os) >>= nv) F G A σ s H Q := h
  obtain ⟨n, e, q⟩ := opt_at h'
  exact ⟨n, e, nv_done q⟩
/-- a built-in function -/
theorem dp_blt {f : S → List O → Option NV} {r : List V → Hp → VK → Prop} (hc : CallR X (.builtin id) r) (hf : OpN X.K f r) (hg : Gl X x) (hm : X.mg x = none) (hv : bootBuiltins x = some (.builtin id)) (ha : DAo X Wx (e :: es) mo)
    (hn : x ≠ "__name__" := by decide) (hdb : (x == ("__debug__" : Str)) = false := by decide) (he : starEach (e :: es) X.env = (false, eval e X.env) :: starEach es X.env := by rfl) (hpl : (backTo pos (starEach es X.env)).any (·.1) = false := by rfl) :
    DP X Wx (.Call (.Name x p) (e :: es) [] pos) (fnN f mo) := by
  refine PE.imp (pe_callB hc hg hm hv ha hn hdb he hpl) fun σ H Q ⟨F, G, A, s, h⟩ => ⟨F, G, A, s, h.bind.mono fun vs H1 ⟨G1, A1, s1, os, r1, e1, p1, h1⟩ => ?_⟩
  obtain ⟨n, e, q⟩ := fnN_at h1
  exact hf F G1 H1 A1 σ s1 os n vs Q h1.1 r1 e q
/-- a built-in class, called -/
theorem dp_bty {f : S → List O → Option NV} {r : List V → Hp → VK → Prop} (hc : CallR X (.type T) r) (hf : OpN X.K f r) (hg : Gl X x) (hm : X.mg x = none) (hv : bootBuiltins x = some (.type T)) (ha : DAo X Wx (e :: es) mo)
    (hn : x ≠ "__name__" := by decide) (hdb : (x == ("__debug__" : Str)) = false := by decide) (he : starEach (e :: es) X.env = (false, eval e X.env) :: starEach es X.env := by rfl) (hpl : (backTo pos (starEach es X.env)).any (·.1) = false := by rfl) :
    DP X Wx (.Call (.Name x p) (e :: es) [] pos) (fnN f mo) := by
  refine PE.imp (pe_callTy hc hg hm hv ha hn hdb he hpl) fun σ H Q ⟨F, G, A, s, h⟩ => ⟨F, G, A, s, h.bind.mono fun vs H1 ⟨G1, A1, s1, os, r1, e1, p1, h1⟩ => ?_⟩
  obtain ⟨n, e, q⟩ := fnN_at h1
  exact hf F G1 H1 A1 σ s1 os n vs Q h1.1 r1 e q
/-- a built-in name as a value -/
theorem dp_tyName {n : String} (hg : Gl X x) (hm : X.mg x = none) (hv : bootBuiltins x = some (.type n)) (hn : x ≠ "__name__" := by decide) (hd : (x == ("__debug__" : Str)) = false := by decide) : DP X Wx (.Name x pos) (mC (.obj (.ty n))) :=
  dp_const (pe_bltn (v := .ty n) hg hm hv rfl hn hd) fun _ _ => by simp only [Rep]
end

/-! ### len, isinstance -/
def fLen : S → O → Option NV := fun s o => match vS s o with
  | some xs => some (vI xs.length)
  | none => match o with
    | .val (.str z) => if z.length ≤ sizeLine then some (vI z.length) else none
    | _ => none
theorem op1_len {K : PySem.W.Frag} : Op1 K fLen (fun x H Q => ∃ n : Nat, LenV K x H n ∧ Q (.int n) H) := by
  intro F G H A σ s o n v Q w r e q
  unfold fLen at e
  split at e
  · rename_i xs hx
    cases e
    obtain ⟨a, vs, rfl, h, rs⟩ := vS_ok w r hx
    refine ⟨xs.length, ?_, done_int q⟩
    rcases h with h | h
    · exact .inl ⟨vs, h, rs.length.symm⟩
    · exact .inr ⟨vs, h, rs.length.symm⟩
  · split at e
    · rename_i z _
      split at e
      · rename_i hz
        cases e
        have ev : v = .str z := by simpa only [RO, Rep] using r
        subst ev
        exact ⟨z.length, ⟨hz, rfl⟩, done_int q⟩
      · cases e
    · cases e
theorem opN_len {K : PySem.W.Frag} : OpN K (f1 fLen) (fun xs H Q => ∃ x n, xs = [x] ∧ LenV K x H n ∧ Q (.int n) H) := by
  intro F G H A σ s os n vs Q w ro e q
  obtain ⟨v, ev, n, h, q⟩ := OpN.one op1_len F G H A σ s os n vs Q w ro e q
  exact ⟨v, n, ev, h, q⟩
inductive Ty where
  | int | bool | str | list | tuple | dict
  deriving DecidableEq
def Ty.name : Ty → String
  | .int => "int" | .bool => "bool" | .str => "str" | .list => "list" | .tuple => "tuple" | .dict => "dict"
/-- none: of no built-in class that is told here -/
def kindD (s : S) (o : O) : Option (Option Ty) := match dat s o with
  | some .non => some none
  | some (.bl _) => some (some .bool)
  | some (.int _) => some (some .int)
  | some (.str _) => some (some .str)
  | some (.tup _) => some (some .tuple)
  | some (.lst _) => some (some .list)
  | some (.klst _) => some (some .list)
  | some (.dct _ _) => some (some .dict)
  | some (.ref n) => match s.cs[n]? with
    | some (.lst _) => some (some .list)
    | some (.dct _) => some (some .dict)
    | _ => none
  | _ => none
def isTy : Option Ty → Ty → Bool
  | none, _ => false
  | some a, b => a == b || (a == .bool && b == .int)
def nameO : Option Ty → String
  | none => "NoneType"
  | some t => t.name
theorem kit_isTy (k : Option Ty) (t : Ty) : kitB (nameO k) t.name = some (isTy k t) := by
  cases k with
  | none => cases t <;> decide +kernel
  | some k => cases k <;> cases t <;> decide +kernel
def kindC : Cont → Option (Option Ty)
  | .lst _ => some (some .list)
  | .dct _ => some (some .dict)
  | .ins _ _ => none
theorem kind_ok {K : PySem.W.Frag} {F G H : Hp} {A : List Addr} {σ : L2.St} {s : S} {o : O} {v : V} {k : Option Ty} (w : WS K F G H A σ s) (r : RO K G A σ o v) (e : kindD s o = some k) : TyX K H v (.type (nameO k)) := by
  have lst : ∀ {a : Addr} {vs : List V}, SqL K H a vs → TyX K H (.ref a) (.type "list") := fun {a vs} h => by
    rcases h with (h | ⟨ob, h⟩) | ⟨ob, its, n, h1, h2, _⟩
    · exact .base (.lst h)
    · exact .base (.frz h)
    · exact .kList h1 h2
  -- an own list, an own dict of a slot
  have own : ∀ c, dat s o = some (Cont.toD c) → (∃ i, o = .bor i) → ∀ k, kindC c = some k → TyX K H v (.type (nameO k)) ∨ ∃ i d, o = .bor i ∧ s.sl[i]? = some (some (.fz d)) := by
    intro c ed ⟨i, hi⟩ k hk
    subst hi
    have er : σ[i]? = some (some v) := r
    unfold dat at ed
    dsimp only at ed
    split at ed
    · rename_i c' hc
      obtain ⟨a, e1, _, _, _, rep⟩ := w.own i c' hc
      rw [er] at e1
      have ev : v = .ref a := by simpa using e1
      subst ev
      cases c <;> cases c' <;> simp [Cont.toD, kindC] at ed hk
      · subst hk
        obtain ⟨vs, q, _⟩ := rep
        exact .inl (.base (.lst q))
      · subst hk
        obtain ⟨kv, q, _⟩ := rep
        exact .inl (.base (.dK q))
    · rename_i d hd; exact .inr ⟨i, d, rfl, hd⟩
    · cases ed
  -- by data that represents it
  have key : ∀ d, dat s o = some d → Rep K G A d v → TyX K H v (.type (nameO k)) := by
    intro d ed rd
    unfold kindD at e
    rw [ed] at e
    cases d with
    | non => cases e; simp only [Rep] at rd; subst rd; exact .base .non
    | bl b => cases e; simp only [Rep] at rd; subst rd; exact .base (.bl b)
    | int b => cases e; simp only [Rep] at rd; subst rd; exact .base (.int b)
    | str b => cases e; simp only [Rep] at rd; subst rd; exact .base (.str b)
    | tup xs =>
      cases e; simp only [Rep] at rd
      obtain ⟨a, vs, rfl, h, _⟩ := rd
      rcases w.sqT h with (h | ⟨ob, h⟩) | ⟨ob, its, n, h1, h2, _⟩
      · exact .base (.tup h)
      · exact .fTuple h
      · exact .kTuple h1 h2
    | lst xs =>
      cases e; simp only [Rep] at rd
      obtain ⟨a, vs, rfl, h, _⟩ := rd
      exact .base (.lst (w.lst h))
    | klst xs =>
      cases e; simp only [Rep] at rd
      obtain ⟨a, vs, rfl, h, _⟩ := rd
      exact lst (w.sqL h)
    | dct ks xs =>
      cases e; simp only [Rep] at rd
      obtain ⟨a, kv, rfl, h, _⟩ := rd
      rcases w.sub _ _ h with h | ⟨ob, kv', ek, h⟩
      · exact .base (.dK h)
      · exact .fDict h
    | ins C ns xs => cases e
    | obj u => cases e
    | ref n =>
      simp only [Rep] at rd
      obtain ⟨a, rfl, ea⟩ := rd
      dsimp only at e
      split at e
      · rename_i xs hc
        cases e
        obtain ⟨vs, q, _⟩ := cell_of w hc ea
        exact .base (.lst q)
      · rename_i xs hc
        cases e
        obtain ⟨kv, q, _⟩ := cell_of w hc ea
        exact .base (.dK q)
      · cases e
  cases o with
  | val d => exact key d rfl r
  | bor i =>
    have er : σ[i]? = some (some v) := r
    have viaFz : ∀ d, s.sl[i]? = some (some (.fz d)) → TyX K H v (.type (nameO k)) := fun d hd => by
      obtain ⟨v', e1, r1⟩ := w.fz i d hd
      rw [er] at e1
      have ev : v' = v := by simpa using e1.symm
      subst ev
      exact key d (by unfold dat; dsimp only; rw [hd]) r1
    cases hs : s.sl[i]? with
    | none => unfold kindD dat at e; dsimp only at e; rw [hs] at e; cases e
    | some q =>
      cases q with
      | none => unfold kindD dat at e; dsimp only at e; rw [hs] at e; cases e
      | some sv =>
        cases sv with
        | fz d => exact viaFz d hs
        | own c =>
          have ed : dat s (.bor i) = some c.toD := by unfold dat; dsimp only; rw [hs]
          have hk : kindC c = some k := by
            unfold kindD at e
            rw [ed] at e
            cases c <;> simp [Cont.toD] at e <;> simp [kindC, e]
          rcases own c ed ⟨i, rfl⟩ k hk with z | ⟨j, d, ej, hd⟩
          · exact z
          · cases ej; exact viaFz d hd
def fIsi : S → List O → Option NV := fun s os => match os with
  | [o, .val (.obj (.ty n))] => match kindD s o, [Ty.int, .bool, .str, .list, .tuple, .dict].find? (fun t => t.name == n) with
    | some k, some t => some (vB (isTy k t))
    | _, _ => none
  | _ => none
theorem opN_isi {K : PySem.W.Frag} : OpN K fIsi (rIsi K) := by
  intro F G H A σ s os n vs Q w ro e q
  unfold fIsi at e
  split at e
  · rename_i o nm
    split at e
    · rename_i k t hk ht
      cases e
      cases ro with
      | cons r1 t1 =>
        cases t1 with
        | cons r2 t2 =>
          cases t2
          simp only [RO, Rep] at r2
          subst r2
          have et : t.name = nm := by simpa using List.find?_some ht
          refine ⟨_, _, _, _, _, rfl, .ty nm, kind_ok w r1 hk, ?_, done_bl q⟩
          rw [← et]
          exact kit_ty (kit_isTy k t)
    · cases e
  · cases e
end DS
/-! The data layer, part f: more built-ins, methods, f-strings. -/
namespace DS
open PySem L2

def dInts : List D → Option (List Int)
  | [] => some []
  | .int i :: r => (dInts r).map (i :: ·)
  | _ :: _ => none
def dBls : List D → Option (List Bool)
  | [] => some []
  | .bl i :: r => (dBls r).map (i :: ·)
  | _ :: _ => none
def dStrs : List D → Option (List Str)
  | [] => some []
  | .str i :: r => (dStrs r).map (i :: ·)
  | _ :: _ => none
theorem dInts_eq : ∀ {ds : List D} {ns : List Int}, dInts ds = some ns → ds = ns.map D.int
  | [], _, h => by cases h; rfl
  | .int i :: r, _, h => by
    simp only [dInts, Option.map_eq_some_iff] at h
    obtain ⟨t, h, rfl⟩ := h
    rw [dInts_eq h]; rfl
  | .non :: _, _, h | .bl _ :: _, _, h | .str _ :: _, _, h | .tup _ :: _, _, h | .lst _ :: _, _, h | .klst _ :: _, _, h | .dct _ _ :: _, _, h | .ins _ _ _ :: _, _, h | .ref _ :: _, _, h | .obj _ :: _, _, h => by simp [dInts] at h
theorem dBls_eq : ∀ {ds : List D} {ns : List Bool}, dBls ds = some ns → ds = ns.map D.bl
  | [], _, h => by cases h; rfl
  | .bl i :: r, _, h => by
    simp only [dBls, Option.map_eq_some_iff] at h
    obtain ⟨t, h, rfl⟩ := h
    rw [dBls_eq h]; rfl
  | .non :: _, _, h | .int _ :: _, _, h | .str _ :: _, _, h | .tup _ :: _, _, h | .lst _ :: _, _, h | .klst _ :: _, _, h | .dct _ _ :: _, _, h | .ins _ _ _ :: _, _, h | .ref _ :: _, _, h | .obj _ :: _, _, h => by simp [dBls] at h
theorem dStrs_eq : ∀ {ds : List D} {ns : List Str}, dStrs ds = some ns → ds = ns.map D.str
  | [], _, h => by cases h; rfl
  | .str i :: r, _, h => by
    simp only [dStrs, Option.map_eq_some_iff] at h
    obtain ⟨t, h, rfl⟩ := h
    rw [dStrs_eq h]; rfl
  | .non :: _, _, h | .int _ :: _, _, h | .bl _ :: _, _, h | .tup _ :: _, _, h | .lst _ :: _, _, h | .klst _ :: _, _, h | .dct _ _ :: _, _, h | .ins _ _ _ :: _, _, h | .ref _ :: _, _, h | .obj _ :: _, _, h => by simp [dStrs] at h
@[simp] theorem dInts_map (ns : List Int) : dInts (ns.map D.int) = some ns := by induction ns with | nil => rfl | cons n r ih => simp [dInts, ih]
@[simp] theorem dBls_map (ns : List Bool) : dBls (ns.map D.bl) = some ns := by induction ns with | nil => rfl | cons n r ih => simp [dBls, ih]
@[simp] theorem dStrs_map (ns : List Str) : dStrs (ns.map D.str) = some ns := by induction ns with | nil => rfl | cons n r ih => simp [dStrs, ih]

/-! ### functions of one list -/
def fAll : S → O → Option NV := fun s o => ((vL s o).bind dBls).map fun bs => vB (bs.all id)
def fAny : S → O → Option NV := fun s o => ((vL s o).bind dBls).map fun bs => vB (bs.any id)
def fSum : S → O → Option NV := fun s o => ((vL s o).bind dInts).map fun ns => vI ns.sum
def fSorted : S → O → Option NV := fun s o => ((vL s o).bind dInts).map fun ns => .lst ((ns.mergeSort (· ≤ ·)).map D.int)
def fMaxL : S → O → Option NV := fun s o => match (vL s o).bind dInts with
  | some (n :: ns) => some (vI (ns.foldl max n))
  | _ => none
section
variable {K : PySem.W.Frag} {F G H : Hp} {A : List Addr} {σ : L2.St} {s : S} {o : O} {v : V}
theorem dBls_of {bs : List Bool} (w : WS K F G H A σ s) (r : RO K G A σ o v) (e : (vL s o).bind dBls = some bs) : ∃ a, v = .ref a ∧ SqL K H a (bs.map V.bl) := by
  cases hv : vL s o with
  | none => rw [hv] at e; cases e
  | some xs =>
    rw [hv] at e
    have ex := dBls_eq (show dBls xs = some bs from e)
    obtain ⟨a, vs, ev, h, rs⟩ := vL_ok w r hv
    rw [ex] at rs
    rw [rs.of_bls] at h
    exact ⟨a, ev, h⟩
theorem dInts_of {ns : List Int} (w : WS K F G H A σ s) (r : RO K G A σ o v) (e : (vL s o).bind dInts = some ns) : ∃ a, v = .ref a ∧ SqL K H a (ns.map V.int) := by
  cases hv : vL s o with
  | none => rw [hv] at e; cases e
  | some xs =>
    rw [hv] at e
    have ex := dInts_eq (show dInts xs = some ns from e)
    obtain ⟨a, vs, ev, h, rs⟩ := vL_ok w r hv
    rw [ex] at rs
    rw [rs.of_ints] at h
    exact ⟨a, ev, h⟩
theorem dStrs_of {ns : List Str} (w : WS K F G H A σ s) (r : RO K G A σ o v) (e : (vL s o).bind dStrs = some ns) : ∃ a, v = .ref a ∧ SqL K H a (ns.map V.str) := by
  cases hv : vL s o with
  | none => rw [hv] at e; cases e
  | some xs =>
    rw [hv] at e
    have ex := dStrs_eq (show dStrs xs = some ns from e)
    obtain ⟨a, vs, ev, h, rs⟩ := vL_ok w r hv
    rw [ex] at rs
    rw [rs.of_strs] at h
    exact ⟨a, ev, h⟩
end
theorem opN_all {K : PySem.W.Frag} : OpN K (f1 fAll) (rAll K) := by
  intro F G H A σ s os n vs Q w ro e q
  refine (OpN.one (r := fun v H Q => ∃ a bs, v = V.ref a ∧ SqL K H a (bs.map V.bl) ∧ Q (.bl (bs.all id)) H) (fun F G H A σ s o n v Q w r e q => ?_) F G H A σ s os n vs Q w ro e q).elim fun v ⟨ev, a, bs, e2, h, q⟩ => ⟨a, bs, by rw [ev, e2], h, q⟩
  simp only [fAll, Option.map_eq_some_iff] at e
  obtain ⟨bs, e, rfl⟩ := e
  obtain ⟨a, ev, h⟩ := dBls_of w r e
  exact ⟨a, bs, ev, h, done_bl q⟩
theorem opN_any {K : PySem.W.Frag} : OpN K (f1 fAny) (rAny K) := by
  intro F G H A σ s os n vs Q w ro e q
  refine (OpN.one (r := fun v H Q => ∃ a bs, v = V.ref a ∧ SqL K H a (bs.map V.bl) ∧ Q (.bl (bs.any id)) H) (fun F G H A σ s o n v Q w r e q => ?_) F G H A σ s os n vs Q w ro e q).elim fun v ⟨ev, a, bs, e2, h, q⟩ => ⟨a, bs, by rw [ev, e2], h, q⟩
  simp only [fAny, Option.map_eq_some_iff] at e
  obtain ⟨bs, e, rfl⟩ := e
  obtain ⟨a, ev, h⟩ := dBls_of w r e
  exact ⟨a, bs, ev, h, done_bl q⟩
theorem opN_sum {K : PySem.W.Frag} : OpN K (f1 fSum) (rSum K) := by
  intro F G H A σ s os n vs Q w ro e q
  refine (OpN.one (r := fun v H Q => ∃ a bs, v = V.ref a ∧ SqL K H a (bs.map V.int) ∧ Q (.int bs.sum) H) (fun F G H A σ s o n v Q w r e q => ?_) F G H A σ s os n vs Q w ro e q).elim fun v ⟨ev, a, bs, e2, h, q⟩ => ⟨a, bs, by rw [ev, e2], h, q⟩
  simp only [fSum, Option.map_eq_some_iff] at e
  obtain ⟨bs, e, rfl⟩ := e
  obtain ⟨a, ev, h⟩ := dInts_of w r e
  exact ⟨a, bs, ev, h, done_int q⟩
theorem sort_same {ns ns' : List Int} (hp : ns'.Perm ns) (hs : ns'.Pairwise (· ≤ ·)) : ns' = ns.mergeSort (· ≤ ·) := by
  refine PySem.W.ksm_same (hp.trans (List.mergeSort_perm ns _).symm) hs ?_
  have h := List.pairwise_mergeSort (le := fun a b : Int => decide (a ≤ b)) (fun a b c h1 h2 => by simp at *; omega) (fun a b => by simp; omega) ns
  exact h.imp fun z => by simpa using z
theorem opN_sorted {K : PySem.W.Frag} : OpN K (f1 fSorted) (rSortedI K) := by
  intro F G H A σ s os n vs Q w ro e q
  refine (OpN.one (r := fun v H Q => ∃ a ns, v = V.ref a ∧ SqL K H a (ns.map V.int) ∧ ∀ (ns' : List Int) (p : Addr), ns'.Perm ns → ns'.Pairwise (· ≤ ·) → H p = none → Q (.ref p) (upd H p (.lst (ns'.map V.int)))) (fun F G H A σ s o n v Q w r e q => ?_) F G H A σ s os n vs Q w ro e q).elim
    fun v ⟨ev, a, bs, e2, h, q⟩ => ⟨a, bs, by rw [ev, e2], h, q⟩
  simp only [fSorted, Option.map_eq_some_iff] at e
  obtain ⟨bs, e, rfl⟩ := e
  obtain ⟨a, ev, h⟩ := dInts_of w r e
  refine ⟨a, bs, ev, h, fun ns' p hp hs hn => q p _ hn ?_⟩
  rw [← sort_same hp hs]
  exact Reps.ints ns'

/-! ### functions of dInts, texts -/
def fAbs : S → O → Option NV := fun _ o => match o with
  | .val (.int i) => some (vI (if i < 0 then -i else i))
  | _ => none
theorem opN_abs {K : PySem.W.Frag} : OpN K (f1 fAbs) (fun xs H Q => ∃ i, xs = [V.int i] ∧ Q (.int (if i < 0 then -i else i)) H) := by
  intro F G H A σ s os n vs Q w ro e q
  refine (OpN.one (r := fun v H Q => ∃ i, v = V.int i ∧ Q (.int (if i < 0 then -i else i)) H) (fun F G H A σ s o n v Q w r e q => ?_) F G H A σ s os n vs Q w ro e q).elim fun v ⟨ev, i, e2, q⟩ => ⟨i, by rw [ev, e2], q⟩
  unfold fAbs at e
  split at e
  · rename_i i
    cases e
    exact ⟨i, by simpa only [RO, Rep] using r, done_int q⟩
  · cases e
def fMax2 : S → List O → Option NV := fun _ os => match os with
  | [.val (.int i), .val (.int j)] => some (vI (if j > i then j else i))
  | _ => none
def fMin2 : S → List O → Option NV := fun _ os => match os with
  | [.val (.int i), .val (.int j)] => some (vI (if j < i then j else i))
  | _ => none
theorem two_ints {K : PySem.W.Frag} {G : Hp} {A : List Addr} {σ : L2.St} {i j : Int} {vs : List V} (ro : ROs K G A σ [.val (.int i), .val (.int j)] vs) : vs = [.int i, .int j] := by
  cases ro with
  | cons r1 t1 =>
    cases t1 with
    | cons r2 t2 =>
      cases t2
      simp only [RO, Rep] at r1 r2
      rw [r1, r2]
theorem opN_max2 {K : PySem.W.Frag} : OpN K fMax2 (fun xs H Q => ∃ i j, xs = [V.int i, V.int j] ∧ Q (.int (if j > i then j else i)) H) := by
  intro F G H A σ s os n vs Q w ro e q
  unfold fMax2 at e
  split at e
  · rename_i i j
    cases e
    exact ⟨i, j, two_ints ro, done_int q⟩
  · cases e
theorem opN_min2 {K : PySem.W.Frag} : OpN K fMin2 (fun xs H Q => ∃ i j, xs = [V.int i, V.int j] ∧ Q (.int (if j < i then j else i)) H) := by
  intro F G H A σ s os n vs Q w ro e q
  unfold fMin2 at e
  split at e
  · rename_i i j
    cases e
    exact ⟨i, j, two_ints ro, done_int q⟩
  · cases e
/-- int(x) of an int, a truth value, a text -/
def fInt : S → O → Option NV := fun _ o => match o with
  | .val (.int i) => some (vI i)
  | .val (.bl k) => some (vI (if k then 1 else 0))
  | .val (.str z) => if z.length ≤ 640 then (PySem.intText? z).map fun n => vI n else none
  | _ => none
theorem opN_int {K : PySem.W.Frag} : OpN K (f1 fInt) (fun xs H Q => ((∃ i, xs = [V.int i] ∧ Q (.int i) H) ∨ ∃ k, xs = [V.bl k] ∧ Q (.int (if k then 1 else 0)) H) ∨ ∃ a n, xs = [V.str a] ∧ PySem.intText? a = some n ∧ a.length ≤ 640 ∧ Q (.int n) H) := by
  intro F G H A σ s os n vs Q w ro e q
  unfold f1 at e
  split at e
  · cases ro with
    | cons r t =>
      cases t
      unfold fInt at e
      split at e
      · cases e
        simp only [RO, Rep] at r
        subst r
        exact .inl (.inl ⟨_, rfl, done_int q⟩)
      · cases e
        simp only [RO, Rep] at r
        subst r
        exact .inl (.inr ⟨_, rfl, done_int q⟩)
      · split at e
        · rename_i hz
          simp only [Option.map_eq_some_iff] at e
          obtain ⟨k, hk, rfl⟩ := e
          simp only [RO, Rep] at r
          subst r
          exact .inr ⟨_, k, rfl, hk, hz, done_int q⟩
        · cases e
      · cases e
  · cases e
/-- str(n) -/
def fStrI : S → O → Option NV := fun _ o => match o with
  | .val (.int i) => if i.natAbs.log2 < 1920 then some (vSt (toString i)) else none
  | _ => none
theorem opN_str {K : PySem.W.Frag} : OpN K (f1 fStrI) (fun xs H Q => ∃ i, xs = [V.int i] ∧ i.natAbs.log2 < 1920 ∧ Q (.str (toString i)) H) := by
  intro F G H A σ s os n vs Q w ro e q
  unfold f1 at e
  split at e
  · cases ro with
    | cons r t =>
      cases t
      unfold fStrI at e
      split at e
      · split at e
        · rename_i hz
          cases e
          simp only [RO, Rep] at r
          subst r
          exact ⟨_, rfl, hz, done_str q⟩
        · cases e
      · cases e
  · cases e
/-- list(x) of a list, a tuple -/
def fListOf : S → O → Option NV := fun s o => (vS s o).map fun xs => .lst xs
theorem opN_listOf {K : PySem.W.Frag} : OpN K (f1 fListOf) (fun xs H Q => ∃ p ys, xs = [V.ref p] ∧ (SqL K H p ys ∨ SqT K H p ys) ∧ ∀ l, H l = none → Q (.ref l) (upd H l (.lst ys))) := by
  intro F G H A σ s os n vs Q w ro e q
  unfold f1 at e
  split at e
  · cases ro with
    | cons r t =>
      cases t
      simp only [fListOf, Option.map_eq_some_iff] at e
      obtain ⟨xs, hx, rfl⟩ := e
      obtain ⟨a, vs, rfl, h, rs⟩ := vS_ok w r hx
      exact ⟨a, vs, rfl, h, fun l hl => q l _ hl rs⟩
  · cases e
/-- list(range(a, b)) -/
def rangeD (a b : Int) : List D := (List.range (b - a).toNat).map fun i => D.int (a + (i : Nat))
def RgFit (a b : Int) : Prop := -(2 ^ 62) ≤ a ∧ a < 2 ^ 62 ∧ -(2 ^ 62) ≤ b ∧ b < 2 ^ 62 ∧ (b - a).toNat ≤ 2 ^ 24
instance (a b : Int) : Decidable (RgFit a b) := by unfold RgFit; exact inferInstance
def mIntOf (m : M RV) : M Int := fz m >>= fun o => match o with
  | .val (.int i) => pure i
  | _ => M.stuck
abbrev rInt : Rl Int Int := fun _ _ _ _ _ _ a b => a = b
theorem intAt {K : PySem.W.Frag} {Wx : WX} {γ δ : Type} {Rel2 : Rl γ δ} {F G H : Hp} {A : List Addr} {σ : L2.St} {s : S} {m : M RV} {k : Int → M γ} {Q : δ → Hp → Prop} (h : At K Wx Rel2 (mIntOf m >>= k) F G A σ s H Q) :
    At K Wx (rO K) (fz m) F G A σ s H (fun v H1 => ∃ c G1 A1 s1, v = .int c ∧ At K Wx Rel2 (k c) F G1 A1 σ s1 H1 Q) := by
  have h1 : At K Wx rInt (mIntOf m) F G A σ s H _ := h.bind
  refine At.mono (At.bind h1) fun v H1 ⟨G1, A1, s1, o, r1, e1, p1, h1⟩ => ?_
  split at h1
  · rename_i b
    have ev : v = .int b := by simpa only [RO, Rep] using r1
    obtain ⟨G2, A2, s2, c, rc, e2, p2, h2⟩ := h1.pure (v := b) h1.1 Ext.refl Pre.refl rfl
    cases rc
    exact ⟨b, G2, A2, s2, ev, h2⟩
  · exact h1.2.elim
def mListRg (a b : M RV) : M RV := mIntOf a >>= fun i => mIntOf b >>= fun j => opt (if RgFit i j then some (NV.lst (rangeD i j)) else none) >>= nv
theorem rg_rep {K : PySem.W.Frag} {G : Hp} {A : List Addr} (a b : Int) : Reps K G A (rangeD a b) (rgV a b) := by
  unfold rangeD rgV
  induction List.range (b - a).toNat with
  | nil => exact Reps.nil
  | cons n r ih => exact Reps.cons (by simp only [Rep]) ih
section
variable {X : Cx} {Wx : WX} {e a b c : Expr} {es : List Expr} {m ma mb mc : M RV} {mo : M (List O)} {x : Str} {p p2 pos pos2 : Pos} {id T : String}
theorem dp_listRg (hc : X.calm = true) (hg : Gl X "list") (hm : X.mg "list" = none) (hg2 : Gl X "range") (hm2 : X.mg "range" = none) (ha : DP X Wx a ma) (hb : DP X Wx b mb)
    (na : starEach [a, b] X.env = (false, eval a X.env) :: starEach [b] X.env := by rfl) (nb : starEach [b] X.env = (false, eval b X.env) :: starEach [] X.env := by rfl) (hp : (backTo pos2 (starEach [b] X.env)).any (·.1) = false := by rfl)
    (nl : starEach [.Call (.Name "range" p2) [a, b] [] pos2] X.env = (false, eval (.Call (.Name "range" p2) [a, b] [] pos2) X.env) :: starEach [] X.env := by rfl) :
    DP X Wx (.Call (.Name "list" p) [.Call (.Name "range" p2) [a, b] [] pos2] [] pos) (mListRg ma mb) := by
  refine PE.imp (pe_listRg hc hg hm (prg_2 hg2 hm2 ha.fz hb.fz na nb hp) nl) fun σ H Q ⟨F, G, A, s, h⟩ => ?_
  refine ⟨F, G, A, s, (intAt h).mono fun v H1 ⟨i, G1, A1, s1, ev, h1⟩ => ?_⟩
  refine ⟨F, G1, A1, s1, (intAt h1).mono fun u H2 ⟨j, G2, A2, s2, eu, h2⟩ => ?_⟩
  obtain ⟨n, e, q⟩ := opt_at h2
  split at e
  · rename_i hr
    cases e
    exact ⟨i, j, ev, eu, hr, fun q' hq => nv_done q q' _ hq (rg_rep i j)⟩
  · cases e
end

/-! ### methods of texts -/
def fSplit : Str → Str → Option NV := fun a b => if (b.length == 0) = false ∧ a.length + 2 ≤ sizeLine then some (.lst ((Txt.split a b).map D.str)) else none
def fJoin (a : Str) (ys : List Str) : Option NV := if (ys.map (·.length)).sum + ys.length * a.length ≤ 16777216 then some (vSt (Txt.join a ys)) else none
def strOf (o : O) : Option Str := match o with
  | .val (.str a) => some a
  | _ => none
def mSplit (a b : M RV) : M RV := fz a >>= fun x => opt (strOf x) >>= fun z => fz b >>= fun y => opt ((strOf y).bind fun t => fSplit z t) >>= nv
def mJoin (a b : M RV) : M RV := fz a >>= fun x => opt (strOf x) >>= fun z => fz b >>= fun y => fun s => (opt (((vL s y).bind dStrs).bind fun ys => fJoin z ys) >>= nv) s
theorem strOf_ok {K : PySem.W.Frag} {G : Hp} {A : List Addr} {σ : L2.St} {o : O} {v : V} {z : Str} (r : RO K G A σ o v) (e : strOf o = some z) : v = .str z := by
  unfold strOf at e
  split at e
  · cases e; simpa only [RO, Rep] using r
  · cases e
section
variable {X : Cx} {Wx : WX} {e a b c : Expr} {es : List Expr} {m ma mb mc : M RV} {mo : M (List O)} {x : Str} {p apos pos : Pos} {id T : String}
theorem dp_split (ha : DP X Wx a ma) (hb : DP X Wx b mb) (hbase : attributeBase a "split" X.env (eval a X.env) = eval a X.env := by rfl)
    (hfew : ((backTo pos (starEach (b :: []) X.env)).all (fun x => !x.1) && (backToKw pos (keywordEach [] X.env)).all (fun x => x.1.isSome) && decide ((b :: []).length + ([] : List Keyword).length + (if ([] : List Keyword).isEmpty then 0 else 1) < 30)) = true := by rfl)
    (hline : (apos.endLine == pos.line) = true := by rfl) (hs : starEach (b :: []) X.env = (false, eval b X.env) :: starEach [] X.env := by rfl) : DP X Wx (.Call (.Attribute a "split" apos) [b] [] pos) (mSplit ma mb) := by
  refine PE.imp (pe_bm PySem.F.plainAttrs_str PySem.F.slot_str_split PySem.F.type_str_split mt_split ha.fz (pa_cons hb.fz pa_nil hs) hbase hfew hline hs rfl) fun σ H Q ⟨F, G, A, s, h⟩ => ?_
  refine ⟨F, G, A, s, h.bind.mono fun v H1 ⟨G1, A1, s1, o, r1, e1, p1, h1⟩ => ?_⟩
  obtain ⟨z, ez, h1⟩ := opt_at h1
  have ev := strOf_ok r1 ez
  subst ev
  refine ⟨rfl, F, G1, A1, s1, h1.bind.mono fun u H2 ⟨G2, A2, s2, y, r2, e2, p2, h2⟩ => ?_⟩
  obtain ⟨n, en, q⟩ := opt_at h2
  cases hy : strOf y with
  | none => rw [hy] at en; cases en
  | some t =>
    rw [hy] at en
    have eu := strOf_ok r2 hy
    subst eu
    have en : fSplit z t = some n := en
    unfold fSplit at en
    split at en
    · rename_i hz
      cases en
      exact ⟨z, t, rfl, rfl, hz.1, hz.2, fun q' hq => nv_done q q' _ hq (Reps.strs _)⟩
    · cases en
theorem dp_join (ha : DP X Wx a ma) (hb : DP X Wx b mb) (hbase : attributeBase a "join" X.env (eval a X.env) = eval a X.env := by rfl)
    (hfew : ((backTo pos (starEach (b :: []) X.env)).all (fun x => !x.1) && (backToKw pos (keywordEach [] X.env)).all (fun x => x.1.isSome) && decide ((b :: []).length + ([] : List Keyword).length + (if ([] : List Keyword).isEmpty then 0 else 1) < 30)) = true := by rfl)
    (hline : (apos.endLine == pos.line) = true := by rfl) (hs : starEach (b :: []) X.env = (false, eval b X.env) :: starEach [] X.env := by rfl) : DP X Wx (.Call (.Attribute a "join" apos) [b] [] pos) (mJoin ma mb) := by
  refine PE.imp (pe_bm PySem.F.plainAttrs_str PySem.F.slot_str_join PySem.F.type_str_join mt_join ha.fz (pa_cons hb.fz pa_nil hs) hbase hfew hline hs rfl) fun σ H Q ⟨F, G, A, s, h⟩ => ?_
  refine ⟨F, G, A, s, h.bind.mono fun v H1 ⟨G1, A1, s1, o, r1, e1, p1, h1⟩ => ?_⟩
  obtain ⟨z, ez, h1⟩ := opt_at h1
  have ev := strOf_ok r1 ez
  subst ev
  refine ⟨rfl, F, G1, A1, s1, h1.bind.mono fun u H2 ⟨G2, A2, s2, y, r2, e2, p2, h2⟩ => ?_⟩
  have h2' : At X.K Wx (rP X.K) (opt (((vL s2 y).bind dStrs).bind fun ys => fJoin z ys) >>= nv) F G2 A2 σ s2 H2 Q := h2
  obtain ⟨n, en, q⟩ := opt_at h2'
  cases hy : (vL s2 y).bind dStrs with
  | none => rw [hy] at en; cases en
  | some ys =>
    rw [hy] at en
    obtain ⟨b, rfl, hb⟩ := dStrs_of h2.1 r2 hy
    have en : fJoin z ys = some n := en
    unfold fJoin at en
    split at en
    · rename_i hz
      cases en
      exact ⟨z, b, ys, rfl, rfl, .inl hb, hz, done_str (nv_done q)⟩
    · cases en

/-! ### f-strings -/
def fmt (o : O) : Option Str := match o with
  | .val (.str z) => if z.length ≤ sizeLine then some z else none
  | .val (.int i) => if i.natAbs.log2 < 1920 then some (toString i) else none
  | _ => none
def mFmt (a : M RV) : M RV := fz a >>= fun x => opt ((fmt x).map vSt) >>= nv
theorem dp_fmt (ha : DP X Wx a ma) : DP X Wx (.FormattedValue a (-1) none pos) (mFmt ma) := by
  refine PE.imp (pe_fmt ha.fz) fun σ H Q ⟨F, G, A, s, h⟩ => ⟨F, G, A, s, h.bind.mono fun v H1 ⟨G1, A1, s1, o, r1, e1, p1, h1⟩ => ?_⟩
  obtain ⟨n, en, q⟩ := opt_at h1
  simp only [Option.map_eq_some_iff] at en
  obtain ⟨z, ez, rfl⟩ := en
  have q := done_str (nv_done q)
  unfold fmt at ez
  split at ez
  · split at ez
    · rename_i hz
      cases ez
      exact .inl ⟨z, by simpa only [RO, Rep] using r1, hz, q⟩
    · cases ez
  · split at ez
    · rename_i hz
      cases ez
      exact .inr ⟨_, by simpa only [RO, Rep] using r1, hz, q⟩
    · cases ez
  · cases ez
def mJs : List (M RV) → Str → M RV
  | [], acc => pure (.opd (.val (.str acc)))
  | m :: ms, acc => fz m >>= fun o => opt ((strOf o).bind fun y => if (acc ++ y).length ≤ sizeLine then some (acc ++ y) else none) >>= fun acc' => mJs ms acc'
theorem js_ok {K : PySem.W.Frag} {F : Hp} {σ : L2.St} {Q : VK} : ∀ (ms : List (M RV)) (acc : Str) (G : Hp) (A : List Addr) (s : S) (H : Hp), At K Wx (rP K) (mJs ms acc) F G A σ s H Q → tJs (ms.map fun m => tO K Wx (fz m)) acc σ H (fun out H1 => Q (.str out) H1)
  | [], acc, G, A, s, H, h => h.pure (v := V.str acc) h.1 Ext.refl Pre.refl (by simp only [RP, RO, Rep])
  | m :: ms, acc, G, A, s, H, h => by
    refine ⟨F, G, A, s, (At.bind h).mono fun v H1 ⟨G1, A1, s1, o, r1, e1, p1, h1⟩ => ?_⟩
    obtain ⟨acc', ea, h2⟩ := opt_at h1
    cases hy : strOf o with
    | none => rw [hy] at ea; cases ea
    | some y =>
      rw [hy] at ea
      have ea : (if (acc ++ y).length ≤ sizeLine then some (acc ++ y) else none) = some acc' := ea
      split at ea
      · rename_i hz
        cases ea
        exact ⟨y, strOf_ok r1 hy, hz, js_ok ms _ G1 A1 s1 H1 h2⟩
      · cases ea
inductive DJ (X : Cx) (Wx : WX) : List Expr → List (M RV) → Prop where
  | nil : DJ X Wx [] []
  | cons {e : Expr} {m : M RV} {es : List Expr} {ms : List (M RV)} (h : DP X Wx e m) (r : DJ X Wx es ms) : DJ X Wx (e :: es) (m :: ms)
theorem DJ.pj : ∀ {es : List Expr} {ms : List (M RV)}, DJ X Wx es ms → PJ X es (ms.map fun m => tO X.K Wx (DS.fz m))
  | _, _, .nil => .nil
  | _, _, .cons h r => .cons h.fz r.pj
theorem dp_joined {v1 v2 : Expr} {rest : List Expr} {ms : List (M RV)} (h : DJ X Wx (v1 :: v2 :: rest) ms) : DP X Wx (.JoinedStr (v1 :: v2 :: rest) pos) (mJs ms Str.empty) :=
  PE.imp (pe_joined h.pj) fun _ H _ ⟨_, _, _, _, h⟩ => js_ok ms _ _ _ _ _ h
theorem dp_joined1 (h : DP X Wx a ma) : DP X Wx (.JoinedStr [a] pos) ma := pe_joined1 h
end
end DS
/-! The data layer, part g: repr; objects that change; attributes. -/
namespace DS
open PySem L2

/-! ### repr -/
mutual
theorem dp_noDict {K : PySem.W.Frag} {H : Hp} : ∀ (p : PyData) {v : V}, Dp K H v p → p.hasDict = false
  | .none, _, _ => by simp only [PyData.hasDict]
  | .bool _, _, _ => by simp only [PyData.hasDict]
  | .int _, _, _ => by simp only [PyData.hasDict]
  | .str _, _, _ => by simp only [PyData.hasDict]
  | .list ps, _, h => by
    cases h with
    | lst _ r => simp only [PyData.hasDict]; exact dpAll_noDict ps r
  | .tuple ps, _, h => by
    cases h with
    | tup _ r => simp only [PyData.hasDict]; exact dpAll_noDict ps r
  | .dict _, _, h => nomatch h
theorem dpAll_noDict {K : PySem.W.Frag} {H : Hp} : ∀ (ps : List PyData) {vs : List V}, DpAll K H vs ps → PyData.hasDictAll ps = false
  | [], _, _ => by simp only [PyData.hasDictAll]
  | p :: ps, _, h => by
    cases h with
    | cons h1 h2 => simp only [PyData.hasDictAll, dp_noDict p h1, dpAll_noDict ps h2, Bool.or_false]
end
def rRepr (K : PySem.W.Frag) : V → Hp → VK → Prop := fun x H Q => ∃ p, Dp K H x p ∧ p.showable = true ∧ p.shown.length ≤ sizeLine ∧ p.depth ≤ 8 ∧ Q (.str p.shown) H
theorem call_reprD {X : Cx} (hg : X.A.guards = some []) (hu : X.A.units + 64 < cLine) : CallR X (.builtin "repr") (fun xs H Q => ∃ x, xs = [x] ∧ rRepr X.K x H Q) := by
  intro pins s σ H xs us Q I r h
  obtain ⟨x, rfl, p, hp, hs, hz, hd, q⟩ := h
  obtain ⟨u, rfl, ru⟩ := Vals.one r
  obtain ⟨as, rd⟩ := Dp.reads I p x u hp ru
  cases hp with
  | non => cases ru; simp only [PyData.shown] at q; exact PySem.P.repr_of_none ⟨.str _, H, I.tok _, ⟨_, rfl⟩, q⟩
  | bl b => cases ru; simp only [PyData.shown] at q; exact PySem.P.repr_of_bool ⟨.str _, H, I.tok _, ⟨_, rfl⟩, q⟩
  | int i =>
    obtain ⟨t, rfl⟩ := ru
    simp only [PyData.shown] at q
    exact PySem.P.repr_of_int (by simpa [PyData.showable] using hs) ⟨.str _, H, I.tok _, ⟨_, rfl⟩, q⟩
  | str z =>
    obtain ⟨t, rfl⟩ := ru
    simp only [PyData.shown] at q hz
    exact PySem.P.repr_of_str ⟨.str _, H, I.tok _, ⟨_, rfl⟩, q⟩ hz
  | lst h1 h2 =>
    cases ru
    exact repr_of_reads' (h₀ := s.heap) rd hs (fun z => by rw [dp_noDict _ (Dp.lst h1 h2)] at z; cases z) hg (by omega) (fun _ _ e => e) (fun h' u tk k => ⟨.str _, H, I.kept (h' := h') (t' := tk) k, ⟨_, rfl⟩, q⟩) hz
  | tup h1 h2 =>
    cases ru
    exact repr_of_reads' (h₀ := s.heap) rd hs (fun z => by rw [dp_noDict _ (Dp.tup h1 h2)] at z; cases z) hg (by omega) (fun _ _ e => e) (fun h' u tk k => ⟨.str _, H, I.kept (h' := h') (t' := tk) k, ⟨_, rfl⟩, q⟩) hz
def fRepr : S → O → Option NV := fun s o => match denO s o with
  | some p => if p.showable = true ∧ p.shown.length ≤ sizeLine then some (vSt p.shown) else none
  | none => none
theorem opN_repr {K : PySem.W.Frag} : OpN K (f1 fRepr) (fun xs H Q => ∃ x, xs = [x] ∧ rRepr K x H Q) := by
  refine OpN.one fun F G H A σ s o n v Q w r e q => ?_
  unfold fRepr at e
  split at e
  · rename_i p hp
    split at e
    · rename_i hc
      cases e
      exact ⟨p, denO_ok w r hp, hc.1, hc.2, denO_depth hp, done_str q⟩
    · cases e
  · cases e

/-! ### an object changes -/
section
variable {K : PySem.W.Frag} {F G H H' : Hp} {A : List Addr} {σ : L2.St} {s : S} {a : Addr} {c c' : Cont}
theorem WS.mutCell (w : WS K F G H A σ s) {n : Nat} (e : s.cs[n]? = some c) (ea : A[n]? = some a) (hH : ∀ b, b ≠ a → H' b = H b) (r : RepC K G H' A c' a) : WS K F G H' A σ { s with cs := s.cs.set n c' } := by
  have ga := (w.cell n c a e ea).1
  have inA : a ∈ A := List.mem_of_getElem? ea
  have hn : n < s.cs.length := (List.getElem?_eq_some_iff.mp e).1
  refine ⟨fun b o q => ?_, fun b o q => ?_, by simp [w.len], w.nd, fun m d b e1 e2 => ?_, w.fz, fun i d q => ?_, w.apart⟩
  · have nb : b ≠ a := fun z => by rw [z, ga] at q; cases q
    rw [hH b nb]; exact w.sub b o q
  · obtain ⟨h1, h2, h3⟩ := w.fr b o q
    have nb : b ≠ a := fun z => h3 (z ▸ inA)
    exact ⟨by rw [hH b nb]; exact h1, h2, h3⟩
  · have e1 : (s.cs.set n c')[m]? = some d := e1
    by_cases hm : n = m
    · subst hm
      rw [List.getElem?_set_self hn] at e1
      cases e1
      rw [ea] at e2; cases e2
      exact ⟨ga, r⟩
    · rw [List.getElem?_set_ne hm] at e1
      obtain ⟨h1, h2⟩ := w.cell m d b e1 e2
      have nb : b ≠ a := fun z => by
        subst z
        obtain ⟨l1, q1⟩ := List.getElem?_eq_some_iff.mp ea
        obtain ⟨l2, q2⟩ := List.getElem?_eq_some_iff.mp e2
        exact hm ((List.getElem_inj w.nd).mp (q1.trans q2.symm))
      exact ⟨h1, h2.mono Ext.refl Pre.refl (hH b nb)⟩
  · obtain ⟨b, h1, h2, h3, h4, h5⟩ := w.own i d q
    have nb : b ≠ a := fun z => h4 (z ▸ inA)
    exact ⟨b, h1, h2, h3, h4, h5.mono Ext.refl Pre.refl (hH b nb)⟩
theorem WS.mutOwn (w : WS K F G H A σ s) {i : Nat} (e : s.sl[i]? = some (some (.own c))) (ea : σ[i]? = some (some (.ref a))) (hH : ∀ b, b ≠ a → H' b = H b) (r : RepC K G H' A c' a) :
    WS K F G H' A σ { s with sl := s.sl.set i (some (.own c')) } := by
  obtain ⟨a', e1, ga, fa, na, _⟩ := w.own i c e
  rw [ea] at e1
  have : a = a' := by simpa using e1
  subst this
  have hi : i < s.sl.length := (List.getElem?_eq_some_iff.mp e).1
  have look : ∀ (j : Nat) (x : SV), (s.sl.set i (some (.own c')))[j]? = some (some x) → (j = i ∧ x = .own c') ∨ (j ≠ i ∧ s.sl[j]? = some (some x)) := fun j x q => by
    by_cases z : i = j
    · subst z; rw [List.getElem?_set_self hi] at q; cases q; exact .inl ⟨rfl, rfl⟩
    · rw [List.getElem?_set_ne z] at q; exact .inr ⟨fun y => z y.symm, q⟩
  refine ⟨fun b o q => ?_, fun b o q => ?_, w.len, w.nd, fun m d b e1 e2 => ?_, fun j d q => ?_, fun j d q => ?_, fun j k d1 d2 b n q1 q2 z1 z2 => ?_⟩
  · have nb : b ≠ a := fun z => by rw [z, ga] at q; cases q
    rw [hH b nb]; exact w.sub b o q
  · obtain ⟨h1, h2, h3⟩ := w.fr b o q
    have nb : b ≠ a := fun z => by rw [z, fa] at q; cases q
    exact ⟨by rw [hH b nb]; exact h1, h2, h3⟩
  · obtain ⟨h1, h2⟩ := w.cell m d b e1 e2
    have nb : b ≠ a := fun z => na (z ▸ List.mem_of_getElem? e2)
    exact ⟨h1, h2.mono Ext.refl Pre.refl (hH b nb)⟩
  · rcases look j _ q with ⟨_, z⟩ | ⟨_, z⟩
    · cases z
    · exact w.fz j d z
  · rcases look j _ q with ⟨rfl, z⟩ | ⟨nj, z⟩
    · cases z; exact ⟨a, ea, ga, fa, na, r⟩
    · obtain ⟨b, h1, h2, h3, h4, h5⟩ := w.own j d z
      have nb : b ≠ a := fun y => by subst y; exact w.apart i j c d b (Ne.symm nj) e z ea h1
      exact ⟨b, h1, h2, h3, h4, h5.mono Ext.refl Pre.refl (hH b nb)⟩
  · rcases look j _ q1 with ⟨rfl, z⟩ | ⟨nj, z⟩
    · rcases look k _ q2 with ⟨rfl, y⟩ | ⟨nk, y⟩
      · exact n rfl
      · exact w.apart j k c d2 b n e y z1 z2
    · rcases look k _ q2 with ⟨rfl, y⟩ | ⟨nk, y⟩
      · exact w.apart j k d1 c b n z e z1 z2
      · exact w.apart j k d1 d2 b n z y z1 z2
end
def mutC (x : O) (f : Cont → Option (Cont × NV)) : M RV := fun s => match x with
  | .val (.ref n) => match s.cs[n]? with
    | some c => match f c with
      | some (c', r) => nv r { s with cs := s.cs.set n c' }
      | none => .stuck
    | none => .stuck
  | .bor i => match s.sl[i]? with
    | some (some (.own c)) => match f c with
      | some (c', r) => nv r { s with sl := s.sl.set i (some (.own c')) }
      | none => .stuck
    | _ => .stuck
  | _ => .stuck
theorem mutC_ok {K : PySem.W.Frag} {Wx : WX} {F G H : Hp} {A : List Addr} {σ : L2.St} {s : S} {x : O} {v : V} {f : Cont → Option (Cont × NV)} {Q : VK} (h : At K Wx (rP K) (mutC x f) F G A σ s H Q) (r : RO K G A σ x v) :
    ∃ a c c' n, v = .ref a ∧ RepC K G H A c a ∧ f c = some (c', n) ∧ ∀ H', (∀ b, b ≠ a → H' b = H b) → RepC K G H' A c' a → Done K G A σ H' Q n := by
  obtain ⟨w, h⟩ := h
  cases x with
  | val d =>
    cases d with
    | ref n =>
      unfold mutC at h
      dsimp only at h
      cases hc : s.cs[n]? with
      | none => rw [hc] at h; exact h.elim
      | some c =>
        rw [hc] at h
        dsimp only at h
        cases hf : f c with
        | none => rw [hf] at h; exact h.elim
        | some p =>
          obtain ⟨c', m⟩ := p
          rw [hf] at h
          simp only [RO, Rep] at r
          obtain ⟨a, rfl, ea⟩ := r
          refine ⟨a, c, c', m, rfl, (w.cell n c a hc ea).2, hf, fun H' hH rc => ?_⟩
          exact nv_done (Wx := Wx) (F := F) (s := { s with cs := s.cs.set n c' }) ⟨w.mutCell hc ea hH rc, h⟩
    | _ => unfold mutC at h; exact h.elim
  | bor i =>
    unfold mutC at h
    dsimp only at h
    cases hc : s.sl[i]? with
    | none => rw [hc] at h; exact h.elim
    | some q =>
      rw [hc] at h
      cases q with
      | none => exact h.elim
      | some sv =>
        cases sv with
        | fz d => exact h.elim
        | own c =>
          dsimp only at h
          cases hf : f c with
          | none => rw [hf] at h; exact h.elim
          | some p =>
            obtain ⟨c', m⟩ := p
            rw [hf] at h
            obtain ⟨a, e1, _, _, _, rep⟩ := w.own i c hc
            have er : σ[i]? = some (some v) := r
            have ev : v = .ref a := by rw [er] at e1; simpa using e1
            subst ev
            refine ⟨a, c, c', m, rfl, rep, hf, fun H' hH rc => ?_⟩
            exact nv_done (Wx := Wx) (F := F) (s := { s with sl := s.sl.set i (some (.own c')) }) ⟨w.mutOwn hc er hH rc, h⟩

/-! ### methods of lists -/
abbrev vN : NV := .opd (.val .non)
def isL (x : O) : M Unit := fun s => match vL s x with
  | some _ => .ok () s
  | none => .stuck
def onL (g : List D → List D → Option (List D × NV)) (ds : List D) : Cont → Option (Cont × NV) := fun c => match c with
  | .lst xs => (g xs ds).map fun p => (.lst p.1, p.2)
  | _ => none
def mMeth (g : List D → List D → Option (List D × NV)) (o : M RV) (args : M (List D)) : M RV := fz o >>= fun x => isL x >>= fun _ => args >>= fun ds => mutC x (onL g ds)
def gAppend (xs ds : List D) : Option (List D × NV) := match ds with
  | [d] => if xs.length < sizeLine then some (xs ++ [d], vN) else none
  | _ => none
def gPop (xs ds : List D) : Option (List D × NV) := match ds with
  | [] => (xs[xs.length - 1]?).map fun d => (xs.dropLast, .opd (.val d))
  | _ => none
def gPopAt (xs ds : List D) : Option (List D × NV) := match ds with
  | [.int i] => if -(2 ^ 63) ≤ i ∧ i < 2 ^ 63 then (seqIndex? i xs.length).bind fun k => (xs[k]?).map fun d => (xs.eraseIdx k, .opd (.val d)) else none
  | _ => none
def gReverse (xs ds : List D) : Option (List D × NV) := match ds with
  | [] => some (xs.reverse, vN)
  | _ => none
def gClear (_ ds : List D) : Option (List D × NV) := match ds with
  | [] => some ([], vN)
  | _ => none
abbrev rU : Rl Unit Unit := fun _ _ _ _ _ _ _ _ => True
theorem isL_at {K : PySem.W.Frag} {Wx : WX} {γ δ : Type} {Rel2 : Rl γ δ} {F G H : Hp} {A : List Addr} {σ : L2.St} {s : S} {x : O} {k : Unit → M γ} {Q : δ → Hp → Prop} (h : At K Wx Rel2 (isL x >>= k) F G A σ s H Q) :
    (∃ xs, vL s x = some xs) ∧ At K Wx Rel2 (k ()) F G A σ s H Q := by
  obtain ⟨w, h⟩ := h
  rw [bind_def] at h
  unfold isL at h
  cases hx : vL s x with
  | none => rw [hx] at h; exact h.elim
  | some xs => rw [hx] at h; exact ⟨⟨xs, rfl⟩, w, h⟩
theorem onL_ok {K : PySem.W.Frag} {Wx : WX} {F G H : Hp} {A : List Addr} {σ : L2.St} {s : S} {x : O} {v : V} {g : List D → List D → Option (List D × NV)} {ds : List D} {Q : VK} (h : At K Wx (rP K) (mutC x (onL g ds)) F G A σ s H Q) (r : RO K G A σ x v) :
    ∃ a xs vs ys n, v = .ref a ∧ H a = some (.lst vs) ∧ Reps K G A xs vs ∧ g xs ds = some (ys, n) ∧ ∀ us, Reps K G A ys us → Done K G A σ (upd H a (.lst us)) Q n := by
  obtain ⟨a, c, c', n, rfl, rc, e, q⟩ := mutC_ok h r
  unfold onL at e
  split at e
  · rename_i xs
    simp only [Option.map_eq_some_iff] at e
    obtain ⟨⟨ys, m⟩, e, e2⟩ := e
    cases e2
    obtain ⟨vs, hv, rs⟩ := rc
    exact ⟨a, xs, vs, ys, m, rfl, hv, rs, e, fun us ru => q _ (fun b nb => upd_ne nb) ⟨us, upd_same, ru⟩⟩
  · cases e
section
variable {X : Cx} {Wx : WX} {e a b c : Expr} {es : List Expr} {m ma mb mc : M RV} {mo : M (List D)} {x : Str} {p apos pos : Pos} {id T : String}
theorem list_ty {K : PySem.W.Frag} {F G H : Hp} {A : List Addr} {σ : L2.St} {s : S} {o : O} {v : V} (w : WS K F G H A σ s) (r : RO K G A σ o v) (e : ∃ xs, vL s o = some xs) : tyV K "list" v H := by
  obtain ⟨xs, e⟩ := e
  obtain ⟨a, vs, rfl, h, _⟩ := vL_ok w r e
  exact .inl ⟨rfl, vs, h⟩
/-- a method of a list, with arguments -/
theorem dp_meth {name : Str} {g : List D → List D → Option (List D × NV)} {rr : V → List V → Hp → VK → Prop} (slot : Slot "list" name id) (hty : typeOf (.builtin id) = pure (.type "method_descriptor")) (hm : MtR X id rr)
    (hg : ∀ {K : PySem.W.Frag} {G H : Hp} {A : List Addr} {σ : L2.St} {Q : VK} {a : Addr} {xs ds ys : List D} {vs us : List V} {n : NV}, H a = some (.lst vs) → Reps K G A xs vs → Reps K G A ds us → g xs ds = some (ys, n) → (∀ zs, Reps K G A ys zs → Done K G A σ (upd H a (.lst zs)) Q n) → rr (.ref a) us H Q)
    (ho : DP X Wx a ma) (ha : DA X Wx (e :: es) mo) (hbase : attributeBase a name X.env (eval a X.env) = eval a X.env := by rfl)
    (hfew : ((backTo pos (starEach (e :: es) X.env)).all (fun x => !x.1) && (backToKw pos (keywordEach [] X.env)).all (fun x => x.1.isSome) && decide ((e :: es).length + ([] : List Keyword).length + (if ([] : List Keyword).isEmpty then 0 else 1) < 30)) = true := by rfl)
    (hline : (apos.endLine == pos.line) = true := by rfl) (hs : starEach (e :: es) X.env = (false, eval e X.env) :: starEach es X.env := by rfl) (hpl : (backTo pos (starEach es X.env)).any (·.1) = false := by rfl) :
    DP X Wx (.Call (.Attribute a name apos) (e :: es) [] pos) (mMeth g ma mo) := by
  refine PE.imp (pe_bm PySem.F.plainAttrs_list slot hty hm ho.fz ha hbase hfew hline hs hpl) fun σ H Q ⟨F, G, A, s, h⟩ => ?_
  refine ⟨F, G, A, s, h.bind.mono fun v H1 ⟨G1, A1, s1, o, r1, e1, p1, h1⟩ => ?_⟩
  obtain ⟨hl, h1'⟩ := isL_at h1
  refine ⟨list_ty h1.1 r1 hl, F, G1, A1, s1, h1'.bind.mono fun us H2 ⟨G2, A2, s2, ds, r2, e2, p2, h2⟩ => ?_⟩
  obtain ⟨b, xs, vs, ys, n, rfl, hb, rs, ge, q⟩ := onL_ok h2 (r1.mono e2 p2)
  exact hg hb rs r2 ge q
theorem dp_meth0 {name : Str} {g : List D → List D → Option (List D × NV)} {rr : V → List V → Hp → VK → Prop} (slot : Slot "list" name id) (hty : typeOf (.builtin id) = pure (.type "method_descriptor")) (hm : MtR X id rr)
    (hg : ∀ {K : PySem.W.Frag} {G H : Hp} {A : List Addr} {σ : L2.St} {Q : VK} {a : Addr} {xs ys : List D} {vs : List V} {n : NV}, H a = some (.lst vs) → Reps K G A xs vs → g xs [] = some (ys, n) → (∀ zs, Reps K G A ys zs → Done K G A σ (upd H a (.lst zs)) Q n) → rr (.ref a) [] H Q)
    (ho : DP X Wx a ma) (hbase : attributeBase a name X.env (eval a X.env) = eval a X.env := by rfl) (hline : (apos.endLine == pos.line) = true := by rfl) :
    DP X Wx (.Call (.Attribute a name apos) [] [] pos) (mMeth g ma aNil) := by
  refine PE.imp (pe_bm0 PySem.F.plainAttrs_list slot hty hm ho.fz hbase hline) fun σ H Q ⟨F, G, A, s, h⟩ => ?_
  refine ⟨F, G, A, s, h.bind.mono fun v H1 ⟨G1, A1, s1, o, r1, e1, p1, h1⟩ => ?_⟩
  obtain ⟨hl, h1'⟩ := isL_at h1
  obtain ⟨b, xs, vs, ys, n, rfl, hb, rs, ge, q⟩ := onL_ok (ds := []) h1' r1
  exact ⟨list_ty h1.1 r1 hl, hg hb rs ge q⟩
theorem done_non {K : PySem.W.Frag} {G H : Hp} {A : List Addr} {σ : L2.St} {Q : VK} (h : Done K G A σ H Q vN) : Q .non H := h _ (by simp only [RO, Rep])
theorem dp_append (ho : DP X Wx a ma) (ha : DA X Wx [e] mo) (hbase : attributeBase a "append" X.env (eval a X.env) = eval a X.env := by rfl)
    (hfew : ((backTo pos (starEach (e :: []) X.env)).all (fun x => !x.1) && (backToKw pos (keywordEach [] X.env)).all (fun x => x.1.isSome) && decide ((e :: []).length + ([] : List Keyword).length + (if ([] : List Keyword).isEmpty then 0 else 1) < 30)) = true := by rfl)
    (hline : (apos.endLine == pos.line) = true := by rfl) (hs : starEach (e :: []) X.env = (false, eval e X.env) :: starEach [] X.env := by rfl) :
    DP X Wx (.Call (.Attribute a "append" apos) [e] [] pos) (mMeth gAppend ma mo) := by
  refine dp_meth PySem.F.slot_list_append PySem.F.type_list_append mt_append (fun hb rs rd ge q => ?_) ho ha hbase hfew hline hs rfl
  unfold gAppend at ge
  split at ge
  · split at ge
    · rename_i hz
      cases ge
      obtain ⟨u, t, rfl, r1, r2⟩ := rd.inv
      rw [r2.inv0]
      exact ⟨_, _, u, rfl, rfl, hb, by rw [rs.length]; exact hz, done_non (q _ (rs.append (Reps.cons r1 Reps.nil)))⟩
    · cases ge
  · cases ge
theorem dp_pop (ho : DP X Wx a ma) (hbase : attributeBase a "pop" X.env (eval a X.env) = eval a X.env := by rfl) (hline : (apos.endLine == pos.line) = true := by rfl) :
    DP X Wx (.Call (.Attribute a "pop" apos) [] [] pos) (mMeth gPop ma aNil) := by
  refine dp_meth0 PySem.F.slot_list_pop PySem.F.type_list_pop mt_pop (fun hb rs ge q => ?_) ho hbase hline
  simp only [gPop, Option.map_eq_some_iff] at ge
  obtain ⟨d, hd, ge⟩ := ge
  cases ge
  obtain ⟨u, hu, ru⟩ := rs.get hd
  refine ⟨_, _, u, rfl, rfl, hb, by rw [rs.length]; exact hu, ?_⟩
  have hr : ∀ {K : PySem.W.Frag} {G : Hp} {A : List Addr} {xs : List D} {vs : List V}, Reps K G A xs vs → Reps K G A xs.dropLast vs.dropLast := fun r => by
    rw [List.dropLast_eq_take, List.dropLast_eq_take, r.length]; exact r.take _
  exact q _ (hr rs) u ru
theorem dp_popAt (ho : DP X Wx a ma) (ha : DA X Wx [e] mo) (hbase : attributeBase a "pop" X.env (eval a X.env) = eval a X.env := by rfl)
    (hfew : ((backTo pos (starEach (e :: []) X.env)).all (fun x => !x.1) && (backToKw pos (keywordEach [] X.env)).all (fun x => x.1.isSome) && decide ((e :: []).length + ([] : List Keyword).length + (if ([] : List Keyword).isEmpty then 0 else 1) < 30)) = true := by rfl)
    (hline : (apos.endLine == pos.line) = true := by rfl) (hs : starEach (e :: []) X.env = (false, eval e X.env) :: starEach [] X.env := by rfl) :
    DP X Wx (.Call (.Attribute a "pop" apos) [e] [] pos) (mMeth gPopAt ma mo) := by
  refine dp_meth PySem.F.slot_list_pop PySem.F.type_list_pop mt_popAt (fun hb rs rd ge q => ?_) ho ha hbase hfew hline hs rfl
  unfold gPopAt at ge
  split at ge
  · rename_i i
    split at ge
    · rename_i hz
      simp only [Option.bind_eq_some_iff, Option.map_eq_some_iff] at ge
      obtain ⟨k, hk, d, hd, ge⟩ := ge
      cases ge
      obtain ⟨u, t, rfl, r1, r2⟩ := rd.inv
      rw [r2.inv0]
      simp only [Rep] at r1
      subst r1
      obtain ⟨y, hy, ry⟩ := rs.get hd
      exact ⟨_, _, i, k, y, rfl, rfl, hb, hz.1, hz.2, by rw [rs.length]; exact hk, hy, q _ (rs.eraseIdx k) y ry⟩
    · cases ge
  · cases ge
theorem dp_reverse (ho : DP X Wx a ma) (hbase : attributeBase a "reverse" X.env (eval a X.env) = eval a X.env := by rfl) (hline : (apos.endLine == pos.line) = true := by rfl) :
    DP X Wx (.Call (.Attribute a "reverse" apos) [] [] pos) (mMeth gReverse ma aNil) := by
  refine dp_meth0 PySem.F.slot_list_reverse PySem.F.type_list_reverse mt_reverse (fun hb rs ge q => ?_) ho hbase hline
  simp only [gReverse] at ge
  cases ge
  exact ⟨_, _, rfl, rfl, hb, done_non (q _ rs.reverse)⟩
theorem dp_clear (ho : DP X Wx a ma) (hbase : attributeBase a "clear" X.env (eval a X.env) = eval a X.env := by rfl) (hline : (apos.endLine == pos.line) = true := by rfl) :
    DP X Wx (.Call (.Attribute a "clear" apos) [] [] pos) (mMeth gClear ma aNil) := by
  refine dp_meth0 PySem.F.slot_list_clear PySem.F.type_list_clear mt_clear (fun hb rs ge q => ?_) ho hbase hline
  simp only [gClear] at ge
  cases ge
  exact ⟨_, _, rfl, rfl, hb, done_non (q _ Reps.nil)⟩

/-! ### attributes -/
def insD (s : S) (o : O) : Option (Addr × List (Str × D)) := match o with
  | .val (.ref n) => match s.cs[n]? with
    | some (.ins C fs) => some (C, fs)
    | _ => none
  | .val (.ins C ns ds) => some (C, ns.zip ds)
  | _ => none
theorem lookup_rep {K : PySem.W.Frag} {G : Hp} {A : List Addr} {f : Str} {d : D} : ∀ {ns : List Str} {ds : List D} {fv : List (Str × V)}, fv.map (·.1) = ns → Reps K G A ds (fv.map (·.2)) → (ns.zip ds).lookup f = some d → ∃ v, fv.lookup f = some v ∧ Rep K G A d v
  | _, ds, [], e, r, h => by cases e; simp at h
  | _, ds, (k, x) :: fv, e, r, h => by
    subst e
    cases ds with
    | nil => have := r.inv0; simp at this
    | cons d' ds =>
      obtain ⟨v, t, e2, r1, r2⟩ := r.inv
      simp only [List.map_cons, List.cons.injEq] at e2
      obtain ⟨rfl, rfl⟩ := e2
      simp only [List.map_cons, List.zip_cons_cons, List.lookup_cons] at h ⊢
      cases hk : f == k with
      | true => rw [hk] at h; cases h; exact ⟨_, rfl, r1⟩
      | false => rw [hk] at h; exact lookup_rep rfl r2 h
theorem zip_unzip {κ : Type} : ∀ fs : List (κ × D), (fs.map (·.1)).zip (fs.map (·.2)) = fs
  | [] => rfl
  | (k, d) :: r => by simp [zip_unzip r]
theorem insD_ok {K : PySem.W.Frag} {F G H : Hp} {A : List Addr} {σ : L2.St} {s : S} {o : O} {v : V} {C : Addr} {fs : List (Str × D)} (w : WS K F G H A σ s) (r : RO K G A σ o v) (e : insD s o = some (C, fs)) :
    ∃ a dx fv, v = .ref a ∧ H a = some (.ins C dx fv) ∧ ∀ f d, fs.lookup f = some d → ∃ u, fv.lookup f = some u ∧ Rep K G A d u := by
  unfold insD at e
  split at e
  · rename_i n
    split at e
    · rename_i C' fs' hc
      cases e
      simp only [RO, Rep] at r
      obtain ⟨a, rfl, ea⟩ := r
      obtain ⟨dx, fv, q, k, rs⟩ := cell_of w hc ea
      exact ⟨a, dx, fv, rfl, q, fun f d h => lookup_rep k rs (by rw [zip_unzip]; exact h)⟩
    · cases e
  · rename_i C' ns ds
    cases e
    simp only [RO, Rep] at r
    obtain ⟨a, dx, fv, rfl, q, k, rs⟩ := r
    exact ⟨a, dx, fv, rfl, w.rd (fun _ z => nomatch z) q, fun f d h => lookup_rep k rs h⟩
  · cases e
/-- e.f, an attribute of an instance of C -/
def mFld (C : Addr) (f : Str) (m : M RV) : M RV := fz m >>= fun x => fun s => match insD s x with
  | some (C', fs) => if C' = C then (opt (fs.lookup f) >>= fun d => pure (.opd (.val d))) s else .stuck
  | none => .stuck
theorem dp_fld {C : Addr} {f : Str} (ha : DP X Wx a ma) (c : Cls X.K C) (n : NoAttr X.K C f) (hb : attributeBase a f X.env (eval a X.env) = eval a X.env := by rfl) : DP X Wx (.Attribute a f pos) (mFld C f ma) := by
  refine PE.imp (pe_fld ha.fz hb) fun σ H Q ⟨F, G, A, s, h⟩ => ⟨F, G, A, s, h.bind.mono fun v H1 ⟨G1, A1, s1, o, r1, e1, p1, w1, h1⟩ => ?_⟩
  dsimp only at h1
  cases hi : insD s1 o with
  | none => rw [hi] at h1; exact h1.elim
  | some q =>
    obtain ⟨C', fs⟩ := q
    rw [hi] at h1
    dsimp only at h1
    by_cases hC : C' = C
    · subst hC
      rw [if_pos rfl] at h1
      have h1' : At X.K Wx (rP X.K) (opt (fs.lookup f) >>= fun d => pure (.opd (.val d))) F G1 A1 σ s1 H1 Q := ⟨w1, h1⟩
      obtain ⟨d, hd, h2⟩ := opt_at h1'
      obtain ⟨a, dx, fv, rfl, hv, look⟩ := insD_ok w1 r1 hi
      obtain ⟨u, hu, ru⟩ := look f d hd
      exact ⟨a, C', dx, fv, u, rfl, hv, c, n, hu, h2.pure h2.1 Ext.refl Pre.refl ru⟩
    · rw [if_neg hC] at h1; exact h1.elim
end
end DS
/-! The data layer, part h: statements, targets, loops. -/
namespace DS
open PySem L2

inductive RS where
  | next (s : S) | ret (r : RV) (s : S) | brk (s : S) | cont (s : S) | exn (x : Exn) (s : S) | stuck
abbrev MS := S → RS
def AtS (K : PySem.W.Frag) (Wx : WX) (m : MS) (F G : Hp) (A : List Addr) (σ : L2.St) (s : S) (H : Hp) (D : Ends) : Prop :=
  WS K F G H A σ s ∧ match m s with
  | .next s' => ∀ σ' G' H' A', WS K F G' H' A' σ' s' → Ext G G' → Pre A A' → D.nx σ' H'
  | .ret r s' => ∀ v σ' G' H' A', WS K F G' H' A' σ' s' → RP K F G' H' A' σ' s' r v → Ext G G' → Pre A A' → D.rt v H'
  | .brk s' => ∀ σ' G' H' A', WS K F G' H' A' σ' s' → Ext G G' → Pre A A' → D.bk σ' H'
  | .cont s' => ∀ σ' G' H' A', WS K F G' H' A' σ' s' → Ext G G' → Pre A A' → D.ct σ' H'
  | .exn x s' => ∀ cls d σ' G' H' A', WS K F G' H' A' σ' s' → RepX K G' H' A' x cls d → Ext G G' → Pre A A' → Wx cls d σ' H'
  | .stuck => False
def tS (K : PySem.W.Frag) (Wx : WX) (m : MS) : TS := fun D σ H => ∃ F G A s, AtS K Wx m F G A σ s H D
abbrev DSt (X : Cx) (Wx : WX) (st : Stmt) (m : MS) : Prop := PS X st (tS X.K Wx m)
abbrev DSs (X : Cx) (Wx : WX) (sts : List Stmt) (m : MS) : Prop := PSs X sts (tS X.K Wx m)
theorem PSs.imp {X : Cx} {st : List Stmt} {t t' : TS} (h : PSs X st t) (k : ∀ D σ H, t' D σ H → t D σ H) : PSs X st t' := ⟨fun pins s σ H D I q => h.run pins s σ H D I (k D σ H q)⟩
def sSeq (m k : MS) : MS := fun s => match m s with
  | .next s' => k s'
  | r => r
def sNext : MS := fun s => .next s
def sStuck : MS := fun _ => .stuck
def sBrk : MS := fun s => .brk s
def sCont : MS := fun s => .cont s
def sE {α : Type} (m : M α) (k : α → MS) : MS := fun s => match m s with
  | .ok a s' => k a s'
  | .exn x s' => .exn x s'
  | .stuck => .stuck
section
variable {α β : Type} {K : PySem.W.Frag} {Wx : WX} {Rel : Rl α β} {F G H : Hp} {A : List Addr} {σ : L2.St} {s : S} {D D' : Ends}
theorem AtS.mono {m : MS} (h : AtS K Wx m F G A σ s H D) (h1 : ∀ σ H, D.nx σ H → D'.nx σ H) (h2 : ∀ v H, D.rt v H → D'.rt v H) (h3 : ∀ σ H, D.bk σ H → D'.bk σ H) (h4 : ∀ σ H, D.ct σ H → D'.ct σ H) : AtS K Wx m F G A σ s H D' := by
  obtain ⟨w, h⟩ := h
  refine ⟨w, ?_⟩
  revert h
  cases m s with
  | next s' => exact fun h σ' G' H' A' w e p => h1 _ _ (h σ' G' H' A' w e p)
  | ret r s' => exact fun h v σ' G' H' A' w q e p => h2 _ _ (h v σ' G' H' A' w q e p)
  | brk s' => exact fun h σ' G' H' A' w e p => h3 _ _ (h σ' G' H' A' w e p)
  | cont s' => exact fun h σ' G' H' A' w e p => h4 _ _ (h σ' G' H' A' w e p)
  | exn x s' => exact id
  | stuck => exact id
/-- the state has moved on -/
theorem AtS.base {m : MS} {G0 : Hp} {A0 : List Addr} {σ0 : L2.St} {s0 : S} {H0 : Hp} {m0 : MS} (w : WS K F G H A σ s) (e : Ext G0 G) (p : Pre A0 A) (h : AtS K Wx m0 F G0 A0 σ0 s0 H0 D) (hm : m0 s0 = m s) : AtS K Wx m F G A σ s H D := by
  obtain ⟨_, h⟩ := h
  refine ⟨w, ?_⟩
  rw [hm] at h
  revert h
  cases m s with
  | next s' => exact fun h σ' G' H' A' w x y => h σ' G' H' A' w (e.trans x) (p.trans y)
  | ret r s' => exact fun h v σ' G' H' A' w q x y => h v σ' G' H' A' w q (e.trans x) (p.trans y)
  | brk s' => exact fun h σ' G' H' A' w x y => h σ' G' H' A' w (e.trans x) (p.trans y)
  | cont s' => exact fun h σ' G' H' A' w x y => h σ' G' H' A' w (e.trans x) (p.trans y)
  | exn z s' => exact fun h cls d σ' G' H' A' w q x y => h cls d σ' G' H' A' w q (e.trans x) (p.trans y)
  | stuck => exact id
theorem AtS.ofM {m : M α} {k : α → MS} (h : AtS K Wx (sE m k) F G A σ s H D) :
    At K Wx Rel m F G A σ s H (fun v H1 => ∃ G1 A1 s1 r, Rel F G1 H1 A1 σ s1 r v ∧ Ext G G1 ∧ Pre A A1 ∧ AtS K Wx (k r) F G1 A1 σ s1 H1 D) := by
  refine ⟨h.1, ?_⟩
  cases hm : m s with
  | stuck => have := h.2; unfold sE at this; rw [hm] at this; exact this
  | exn x s' => have := h.2; unfold sE at this; rw [hm] at this; exact fun cls d G' H' A' w q x y => this cls d σ G' H' A' w q x y
  | ok r s' =>
    intro v G' H' A' w' r' e p
    exact ⟨G', A', s', r, r', e, p, h.base w' e p (by unfold sE; rw [hm])⟩
theorem AtS.seq {m k : MS} (h : AtS K Wx (sSeq m k) F G A σ s H D) : AtS K Wx m F G A σ s H { D with nx := fun σ' H' => ∃ F G A s, AtS K Wx k F G A σ' s H' D } := by
  refine ⟨h.1, ?_⟩
  cases hm : m s with
  | next s' =>
    intro σ' G' H' A' w e p
    exact ⟨F, G', A', s', h.base w e p (by unfold sSeq; rw [hm])⟩
  | ret r s' => have := h.2; unfold sSeq at this; rw [hm] at this; exact this
  | brk s' => have := h.2; unfold sSeq at this; rw [hm] at this; exact this
  | cont s' => have := h.2; unfold sSeq at this; rw [hm] at this; exact this
  | exn x s' => have := h.2; unfold sSeq at this; rw [hm] at this; exact this
  | stuck => have := h.2; unfold sSeq at this; rw [hm] at this; exact this
theorem AtS.next (h : AtS K Wx sNext F G A σ s H D) {σ' : L2.St} {G' H' : Hp} {A' : List Addr} (w : WS K F G' H' A' σ' s) (e : Ext G G') (p : Pre A A') : D.nx σ' H' := h.2 σ' G' H' A' w e p
end

/-! ### slots -/
section
variable {K : PySem.W.Frag} {F G H : Hp} {A : List Addr} {σ : L2.St} {s : S} {i : Nat}
theorem look_set {sl : Sl} {i j : Nat} {x : Option SV} {y : SV} (h : (sl.set i x)[j]? = some (some y)) : (j = i ∧ x = some y) ∨ (j ≠ i ∧ sl[j]? = some (some y)) := by
  by_cases q : i = j
  · subst q
    by_cases hi : i < sl.length
    · rw [List.getElem?_set_self hi] at h; exact .inl ⟨rfl, by simpa using h⟩
    · rw [List.getElem?_eq_none (by simpa using hi)] at h; cases h
  · rw [List.getElem?_set_ne q] at h; exact .inr ⟨fun z => q z.symm, h⟩
theorem WS.setFz (w : WS K F G H A σ s) (hi : i < σ.length) {d : D} {v : V} (r : Rep K G A d v) : WS K F G H A (σ.set i (some v)) { s with sl := s.sl.set i (some (.fz d)) } := by
  refine ⟨w.sub, w.fr, w.len, w.nd, w.cell, fun j e q => ?_, fun j c q => ?_, fun j k c d' a n q1 q2 z1 z2 => ?_⟩
  · rcases look_set q with ⟨rfl, z⟩ | ⟨nj, z⟩
    · cases z; exact ⟨v, by rw [List.getElem?_set_self hi], r⟩
    · obtain ⟨u, h1, h2⟩ := w.fz j e z
      exact ⟨u, by rw [List.getElem?_set_ne (Ne.symm nj)]; exact h1, h2⟩
  · rcases look_set q with ⟨rfl, z⟩ | ⟨nj, z⟩
    · cases z
    · obtain ⟨a, h1, h2⟩ := w.own j c z
      exact ⟨a, by rw [List.getElem?_set_ne (Ne.symm nj)]; exact h1, h2⟩
  · rcases look_set q1 with ⟨rfl, z⟩ | ⟨nj, z⟩
    · cases z
    · rcases look_set q2 with ⟨rfl, y⟩ | ⟨nk, y⟩
      · cases y
      · rw [List.getElem?_set_ne (Ne.symm nj)] at z1
        rw [List.getElem?_set_ne (Ne.symm nk)] at z2
        exact w.apart j k c d' a n z y z1 z2
theorem WS.setOwn (w : WS K F G H A σ s) (hi : i < σ.length) {c : Cont} {a : Addr} (l : Lone K F G H A σ s c a) : WS K F G H A (σ.set i (some (.ref a))) { s with sl := s.sl.set i (some (.own c)) } := by
  refine ⟨w.sub, w.fr, w.len, w.nd, w.cell, fun j e q => ?_, fun j c' q => ?_, fun j k c' d' b n q1 q2 z1 z2 => ?_⟩
  · rcases look_set q with ⟨rfl, z⟩ | ⟨nj, z⟩
    · cases z
    · obtain ⟨u, h1, h2⟩ := w.fz j e z
      exact ⟨u, by rw [List.getElem?_set_ne (Ne.symm nj)]; exact h1, h2⟩
  · rcases look_set q with ⟨rfl, z⟩ | ⟨nj, z⟩
    · cases z; exact ⟨a, by rw [List.getElem?_set_self hi], l.g, l.f, l.sh, l.rep⟩
    · obtain ⟨b, h1, h2⟩ := w.own j c' z
      exact ⟨b, by rw [List.getElem?_set_ne (Ne.symm nj)]; exact h1, h2⟩
  · rcases look_set q1 with ⟨rfl, z⟩ | ⟨nj, z⟩
    · rcases look_set q2 with ⟨rfl, y⟩ | ⟨nk, y⟩
      · exact n rfl
      · rw [List.getElem?_set_self hi] at z1
        cases z1
        rw [List.getElem?_set_ne (Ne.symm nk)] at z2
        exact l.sl k d' y z2
    · rcases look_set q2 with ⟨rfl, y⟩ | ⟨nk, y⟩
      · rw [List.getElem?_set_self hi] at z2
        cases z2
        rw [List.getElem?_set_ne (Ne.symm nj)] at z1
        exact l.sl j c' z z1
      · rw [List.getElem?_set_ne (Ne.symm nj)] at z1
        rw [List.getElem?_set_ne (Ne.symm nk)] at z2
        exact w.apart j k c' d' b n z y z1 z2
/-- a slot is forgotten -/
theorem WS.forget (w : WS K F G H A σ s) (x : Option V) : WS K F G H A (σ.set i x) { s with sl := s.sl.set i none } := by
  refine ⟨w.sub, w.fr, w.len, w.nd, w.cell, fun j e q => ?_, fun j c' q => ?_, fun j k c' d' b n q1 q2 z1 z2 => ?_⟩
  · rcases look_set q with ⟨rfl, z⟩ | ⟨nj, z⟩
    · cases z
    · obtain ⟨u, h1, h2⟩ := w.fz j e z
      exact ⟨u, by rw [List.getElem?_set_ne (Ne.symm nj)]; exact h1, h2⟩
  · rcases look_set q with ⟨rfl, z⟩ | ⟨nj, z⟩
    · cases z
    · obtain ⟨b, h1, h2⟩ := w.own j c' z
      exact ⟨b, by rw [List.getElem?_set_ne (Ne.symm nj)]; exact h1, h2⟩
  · rcases look_set q1 with ⟨rfl, z⟩ | ⟨nj, z⟩
    · cases z
    · rcases look_set q2 with ⟨rfl, y⟩ | ⟨nk, y⟩
      · cases y
      · rw [List.getElem?_set_ne (Ne.symm nj)] at z1
        rw [List.getElem?_set_ne (Ne.symm nk)] at z2
        exact w.apart j k c' d' b n z y z1 z2
theorem WS.forget0 (w : WS K F G H A σ s) : WS K F G H A σ { s with sl := s.sl.set i none } := by
  refine ⟨w.sub, w.fr, w.len, w.nd, w.cell, fun j e q => ?_, fun j c' q => ?_, fun j k c' d' b n q1 q2 z1 z2 => ?_⟩
  · rcases look_set q with ⟨rfl, z⟩ | ⟨nj, z⟩
    · cases z
    · exact w.fz j e z
  · rcases look_set q with ⟨rfl, z⟩ | ⟨nj, z⟩
    · cases z
    · exact w.own j c' z
  · rcases look_set q1 with ⟨rfl, z⟩ | ⟨nj, z⟩
    · cases z
    · rcases look_set q2 with ⟨rfl, y⟩ | ⟨nk, y⟩
      · cases y
      · exact w.apart j k c' d' b n z y z1 z2
end
def putSl (i : Nat) (x : SV) : MS := fun s => .next { s with sl := s.sl.set i (some x) }
def setRV (i : Nat) (r : RV) : MS := match r with
  | .own c => putSl i (.own c)
  | .opd o => sE (force1 o) fun d => putSl i (.fz d)
def sSet (i : Nat) (m : M RV) : MS := sE m (setRV i)
theorem setRV_ok {K : PySem.W.Frag} {Wx : WX} {F G H : Hp} {A : List Addr} {σ : L2.St} {s : S} {i : Nat} {r : RV} {v : V} {D : Ends} (hi : i < σ.length) (h : AtS K Wx (setRV i r) F G A σ s H D) (q : RP K F G H A σ s r v) : D.nx (σ.set i (some v)) H := by
  cases r with
  | own c =>
    obtain ⟨a, rfl, l⟩ := q
    exact h.2 _ G H A (h.1.setOwn hi l) Ext.refl Pre.refl
  | opd o =>
    have h1 := AtS.ofM (Rel := rD K) (show AtS K Wx (sE (force1 o) fun d => putSl i (.fz d)) F G A σ s H D from h)
    obtain ⟨G1, A1, s1, d, r1, e1, p1, h2⟩ := force_ok h1 q
    exact h2.2 _ G1 H A1 (h2.1.setFz hi r1) Ext.refl Pre.refl
section
variable {X : Cx} {Wx : WX} {st : Stmt} {sts : List Stmt} {e a b c : Expr} {es : List Expr} {m ma mb mc : M RV} {mo : M (List D)} {ms mk : MS} {tc : M Bool} {x : Str} {p apos pos : Pos} {i j : Nat}
theorem slot_lt {pins : List (Addr × Obj)} {s : Shared} {σ : L2.St} {H : Hp} (I : Inv X pins σ H s) (hi : X.N[i]? = some x) : i < σ.length := by
  rw [I.len]; exact (List.getElem?_eq_some_iff.mp hi).1
theorem dss_nil : DSs X Wx [] sNext := PSs.imp pss_nil fun D σ H ⟨_, _, _, _, h⟩ => h.next h.1 Ext.refl Pre.refl
theorem dss_cons (h1 : DSt X Wx st ms) (h2 : DSs X Wx sts mk) : DSs X Wx (st :: sts) (sSeq ms mk) :=
  PSs.imp (pss_cons h1 h2) fun D σ H ⟨F, G, A, s, h⟩ => ⟨F, G, A, s, h.seq⟩
theorem dss_one (h1 : DSt X Wx st ms) : DSs X Wx [st] ms := pss_one h1
theorem ds_never : DSt X Wx st sStuck := PS.imp ps_never fun D σ H ⟨_, _, _, _, h⟩ => h.2
theorem dss_never : DSs X Wx sts sStuck := PSs.imp pss_never fun D σ H ⟨_, _, _, _, h⟩ => h.2
theorem ds_pass : DSt X Wx (.Pass pos) sNext := PS.imp ps_pass fun D σ H ⟨_, _, _, _, h⟩ => h.next h.1 Ext.refl Pre.refl
theorem ds_break : DSt X Wx (.Break pos) sBrk := PS.imp ps_break fun D σ H ⟨_, _, _, _, h⟩ => h.2 _ _ _ _ h.1 Ext.refl Pre.refl
theorem ds_continue : DSt X Wx (.Continue pos) sCont := PS.imp ps_continue fun D σ H ⟨_, _, _, _, h⟩ => h.2 _ _ _ _ h.1 Ext.refl Pre.refl
/-- name = e -/
theorem ds_set {pos' : Pos} (hN : X.N.Nodup) (hi : X.N[i]? = some x) (hx : Loc X.env.scope x) (he : DP X Wx e m) (hs : swapsWith e (some (.Name x pos')) pos.line X.env = pure false := by rfl)
    (hf : X.fn x = true ∨ X.env.scope.names.lookup x = some .local := by first | exact .inl rfl | exact .inr rfl | assumption) : DSt X Wx (.Assign [.Name x pos'] e pos) (sSet i m) := by
  refine ⟨fun pins sh σ H D I ⟨F, G, A, s, h⟩ => ?_⟩
  refine (ps_set (pos := pos) (pos' := pos') hN hi hx he hs hf).run pins sh σ H D I ⟨F, G, A, s, (AtS.ofM h).mono fun v H1 ⟨G1, A1, s1, r, r1, e1, p1, h1⟩ => ?_⟩
  exact setRV_ok (slot_lt I hi) h1 r1
/-- an expression whose value is dropped -/
def sDrop (m : M RV) : MS := sE m fun _ => sNext
theorem ds_expr (he : DP X Wx e m) (hs : swapsWith e none pos.line X.env = pure false := by rfl) : DSt X Wx (.Expr e pos) (sDrop m) :=
  PS.imp (ps_expr he hs) fun D σ H ⟨F, G, A, s, h⟩ => ⟨F, G, A, s, (AtS.ofM h).mono fun v H1 ⟨G1, A1, s1, r, r1, e1, p1, h1⟩ => h1.next h1.1 Ext.refl Pre.refl⟩
def retV (r : RV) : MS := fun s => .ret r s
def sRet (m : M RV) : MS := sE m retV
theorem ds_ret (he : DP X Wx e m) : DSt X Wx (.Return (some e) pos) (sRet m) :=
  PS.imp (ps_ret he) fun D σ H ⟨F, G, A, s, h⟩ => ⟨F, G, A, s, (AtS.ofM h).mono fun v H1 ⟨G1, A1, s1, r, r1, e1, p1, h1⟩ => h1.2 v σ G1 H1 A1 h1.1 r1 Ext.refl Pre.refl⟩
theorem ds_retN : DSt X Wx (.Return none pos) (retV (.opd (.val .non))) :=
  PS.imp ps_retN fun D σ H ⟨F, G, A, s, h⟩ => h.2 .non σ G H A h.1 (by simp only [RP, RO, Rep]) Ext.refl Pre.refl
def sIf (c : M Bool) (a b : MS) : MS := sE c fun k => if k = true then a else b
theorem ds_if {sa sb : List Stmt} {na nb : MS} (hc : DT X Wx c tc) (ha : DSs X Wx sa na) (hb : DSs X Wx sb nb) : DSt X Wx (.If c sa sb pos) (sIf tc na nb) := by
  refine PS.imp (ps_if hc ha hb) fun D σ H ⟨F, G, A, s, h⟩ => ⟨F, G, A, s, (AtS.ofM h).mono fun k H1 ⟨G1, A1, s1, k', r1, e1, p1, h1⟩ => ?_⟩
  cases r1
  cases k with
  | true => exact ⟨F, G1, A1, s1, h1⟩
  | false => exact ⟨F, G1, A1, s1, h1⟩

/-! ### targets -/
abbrev Tg := D → S → Option S
abbrev DG (X : Cx) (tg : Expr) (g : Tg) : Prop := PG X tg (fun v σ H Q => ∃ F G A s d, WS X.K F G H A σ s ∧ Rep X.K G A d v ∧ ∃ s', g d s = some s' ∧ ∀ σ', σ'.length = σ.length → WS X.K F G H A σ' s' → Q σ' H)
abbrev Tgs := List D → S → Option S
abbrev DGs (X : Cx) (tg : List Expr) (g : Tgs) : Prop := PGs X tg (fun vs σ H Q => ∃ F G A s ds, WS X.K F G H A σ s ∧ Reps X.K G A ds vs ∧ ∃ s', g ds s = some s' ∧ ∀ σ', σ'.length = σ.length → WS X.K F G H A σ' s' → Q σ' H)
def gSet (i : Nat) : Tg := fun d s => some { s with sl := s.sl.set i (some (.fz d)) }
theorem dg_name (hN : X.N.Nodup) (hi : X.N[i]? = some x) (hx : Loc X.env.scope x) (hf : X.fn x = true ∨ X.env.scope.names.lookup x = some .local := by first | exact .inl rfl | exact .inr rfl | assumption) : DG X (.Name x pos) (gSet i) := by
  refine ⟨fun pins sh σ H v u Q I r ⟨F, G, A, s, d, w, rd, s', e, q⟩ => ?_⟩
  cases e
  exact (pg_name (pos := pos) hN hi hx hf).run pins sh σ H v u Q I r (q _ (by simp) (w.setFz (slot_lt I hi) rd))
def gNil : Tgs := fun ds s => match ds with
  | [] => some s
  | _ => none
def gCons (g : Tg) (r : Tgs) : Tgs := fun ds s => match ds with
  | d :: t => (g d s).bind fun s' => r t s'
  | _ => none
theorem dgs_nil : DGs X [] gNil := by
  refine ⟨fun pins sh σ H vs us Q I r ⟨F, G, A, s, ds, w, rd, s', e, q⟩ => ?_⟩
  unfold gNil at e
  split at e
  · cases e
    exact pgs_nil.run pins sh σ H vs us Q I r ⟨rd.inv0, q σ rfl w⟩
  · cases e
theorem dgs_cons {g : Tg} {gs : Tgs} (h1 : DG X e g) (h2 : DGs X es gs) (hs : (assignEach (e :: es) X.env).map (·.2) = assign e X.env :: (assignEach es X.env).map (·.2) := by rfl) : DGs X (e :: es) (gCons g gs) := by
  refine ⟨fun pins sh σ H vs us Q I r ⟨F, G, A, s, ds, w, rd, s', e, q⟩ => ?_⟩
  unfold gCons at e
  split at e
  · rename_i d t
    simp only [Option.bind_eq_some_iff] at e
    obtain ⟨s1, e1, e2⟩ := e
    obtain ⟨v, vr, rfl, r1, r2⟩ := rd.inv
    refine (pgs_cons h1 h2 hs).run pins sh σ H _ us Q I r ⟨v, vr, rfl, F, G, A, s, d, w, r1, s1, e1, fun σ' hl w' => ⟨F, G, A, s1, t, w', r2, s', e2, fun σ2 hl2 w2 => q σ2 (hl2.trans hl) w2⟩⟩
  · cases e
def gTup (r : Tgs) : Tg := fun d s => match d with
  | .tup ds => r ds s
  | _ => none
theorem gs_len : True := trivial
theorem dg_tup {k : Nat} {gs : Tgs} {n : Nat} (hc : X.calm = true) (h : DGs X es gs) (hlen : ∀ ds s s', gs ds s = some s' → ds.length = n) (hn : (assignEach es X.env).length = n := by rfl) (hst : (assignEach es X.env).findIdx? (·.1) = none := by rfl) :
    DG X (.Tuple es k pos) (gTup gs) := by
  refine ⟨fun pins sh σ H v u Q I r ⟨F, G, A, s, d, w, rd, s', e, q⟩ => ?_⟩
  unfold gTup at e
  split at e
  · rename_i ds
    simp only [Rep] at rd
    obtain ⟨a, vs, rfl, ht, rs⟩ := rd
    exact (pg_tup (pos := pos) (k := k) hc h hn hst).run pins sh σ H _ u Q I r ⟨a, vs, rfl, w.sqT ht, by rw [rs.length]; exact hlen ds s s' e, F, G, A, s, ds, w, rs, s', e, q⟩
  · cases e
theorem gNil_len {ds : List D} {s s' : S} (h : gNil ds s = some s') : ds.length = 0 := by
  unfold gNil at h
  split at h
  · rfl
  · cases h
theorem gCons_len {g : Tg} {r : Tgs} {n : Nat} (hr : ∀ ds s s', r ds s = some s' → ds.length = n) {ds : List D} {s s' : S} (h : gCons g r ds s = some s') : ds.length = n + 1 := by
  unfold gCons at h
  split at h
  · simp only [Option.bind_eq_some_iff] at h
    obtain ⟨s1, _, h2⟩ := h
    simp [hr _ _ _ h2]
  · cases h
/-- target = e -/
def sAsg (g : Tg) (m : M RV) : MS := sE (fc m) fun d s => match g d s with
  | some s' => .next s'
  | none => .stuck
theorem ds_asg {tg : Expr} {g : Tg} (he : DP X Wx e m) (hg : DG X tg g) (hs : swapsWithSole [tg] e pos.line X.env = pure false := by rfl) (hw : swappedStores [tg] e X.env = pure none := by rfl)
    (h1 : (assignEach [tg] X.env).map (·.2) = [assign tg X.env] := by rfl) : DSt X Wx (.Assign [tg] e pos) (sAsg g m) := by
  refine PS.imp (ps_asg he.fc hg hs hw h1) fun D σ H ⟨F, G, A, s, h⟩ => ⟨F, G, A, s, (AtS.ofM h).mono fun v H1 ⟨G1, A1, s1, d, r1, e1, p1, w1, h1⟩ => ?_⟩
  dsimp only at h1
  cases hg : g d s1 with
  | none => rw [hg] at h1; exact h1.elim
  | some s' =>
    rw [hg] at h1
    exact ⟨F, G1, A1, s1, d, w1, r1, s', hg, fun σ' _ w' => h1 σ' G1 H1 A1 w' Ext.refl Pre.refl⟩
/-- a, b = e1, e2 -/
def sPar (i j : Nat) (m : M (List D)) : MS := sE m fun ds s => match ds with
  | [a, b] => .next { s with sl := (s.sl.set i (some (.fz a))).set j (some (.fz b)) }
  | _ => .stuck
theorem ds_par {y : Str} {px py pt : Pos} {kt k2 pt2} (hc : X.calm = true) (hN : X.N.Nodup) (hi : X.N[i]? = some x) (hj : X.N[j]? = some y) (hij : i ≠ j)
    (hx : X.env.scope.names.lookup x = some .local) (hy : X.env.scope.names.lookup y = some .local) (ha : DA X Wx [a, b] mo)
    (hw : swappedStores [.Tuple [.Name x px, .Name y py] kt pt] (.Tuple [a, b] k2 pt2) X.env = pure (some [x, y]))
    (hs : swapsWithSole [.Tuple [.Name x px, .Name y py] kt pt] (.Tuple [a, b] k2 pt2) pos.line X.env = pure false := by rfl) :
    DSt X Wx (.Assign [.Tuple [.Name x px, .Name y py] kt pt] (.Tuple [a, b] k2 pt2) pos) (sPar i j mo) := by
  refine ⟨fun pins sh σ H D I ⟨F, G, A, s, h⟩ => ?_⟩
  refine (ps_par (pos := pos) hc hN hi hj hij hx hy ha hw hs).run pins sh σ H D I ⟨F, G, A, s, (AtS.ofM h).mono fun vs H1 ⟨G1, A1, s1, ds, r1, e1, p1, w1, h1⟩ => ?_⟩
  have r1 : Reps X.K G1 A1 ds vs := r1
  match ds, r1, h1 with
  | [], _, h1 => exact h1.elim
  | [_], _, h1 => exact h1.elim
  | _ :: _ :: _ :: _, _, h1 => exact h1.elim
  | [d1, d2], r1, h1 =>
    obtain ⟨v, t, rfl, q1, t1⟩ := r1.inv
    obtain ⟨u, t2, rfl, q2, t3⟩ := t1.inv
    rw [t3.inv0]
    refine ⟨v, u, rfl, h1 _ G1 H1 A1 ?_ Ext.refl Pre.refl⟩
    exact (w1.setFz (slot_lt I hi) q1).setFz (by simpa using slot_lt I hj) q2

/-! ### while -/
def turnW (again b : MS) : MS := fun s => match b s with
  | .next s' => again s'
  | .cont s' => again s'
  | .brk s' => .next s'
  | r => r
def sWhile : Nat → M Bool → MS → MS
  | 0, _, _ => sStuck
  | n + 1, c, b => sE c fun k => if k = true then turnW (sWhile n c b) b else sNext
theorem ds_while {body : List Stmt} {mb : MS} (n : Nat) (hp : PassesOwn (model X.prog X.w) X.A X.env X.xe) (hc : DT X Wx c tc) (hb : DSs X Wx body mb) : DSt X Wx (.While c body [] pos) (sWhile n tc mb) := by
  refine PS.imp (ps_while hp hc hb) fun D σ H ⟨F, G, A, s, h⟩ => ?_
  refine ⟨fun k σ H => ∃ F G A s, AtS X.K Wx (sWhile k tc mb) F G A σ s H D, ⟨n, F, G, A, s, h⟩, ?_⟩
  rintro k σ H ⟨F, G, A, s, h⟩
  cases k with
  | zero => exact h.2.elim
  | succ k =>
    refine ⟨F, G, A, s, (AtS.ofM h).mono fun q H1 ⟨G1, A1, s1, q', r1, e1, p1, h1⟩ => ?_⟩
    cases r1
    cases q with
    | false => exact h1.next h1.1 Ext.refl Pre.refl
    | true =>
      rw [if_pos rfl]
      refine ⟨fun σ' H' => ∃ F G A s, AtS X.K Wx (sWhile k tc mb) F G A σ' s H' D, fun σ' H' w => ⟨k, Nat.lt_succ_self k, w⟩, F, G1, A1, s1, h1.1, ?_⟩
      have h1 : AtS X.K Wx (turnW (sWhile k tc mb) mb) F G1 A1 σ s1 H1 D := h1
      have h2 := h1.2
      unfold turnW at h2
      revert h2
      cases hb : mb s1 with
      | next s' =>
        intro h2 σ' G' H' A' w' x y
        exact ⟨F, G', A', s', h1.base w' x y (by unfold turnW; rw [hb])⟩
      | cont s' =>
        intro h2 σ' G' H' A' w' x y
        exact ⟨F, G', A', s', h1.base w' x y (by unfold turnW; rw [hb])⟩
      | brk s' => exact fun h2 σ' G' H' A' w' x y => h2 σ' G' H' A' w' x y
      | ret r s' => exact fun h2 => h2
      | exn x s' => exact fun h2 => h2
      | stuck => exact fun h2 => h2

/-! ### for -/
structure Src where
  xs : List D
  chk : S → Prop
def SrcOk (K : PySem.W.Frag) (G : Hp) (A : List Addr) (src : Src) (J : It) : Prop :=
  ∀ F G' H' A' σ s, WS K F G' H' A' σ s → Ext G G' → Pre A A' → src.chk s → (∀ i, i = src.xs.length → J.stop i H') ∧
    ∀ i d, src.xs[i]? = some d → J.go i H' ∧ ∀ v H2, J.yld i H' v H2 → ∃ G2, WS K F G2 H2 A' σ s ∧ Ext G' G2 ∧ Rep K G2 A' d v
abbrev rSrc (K : PySem.W.Frag) : Rl Src It := fun _ G _ A _ _ src J => SrcOk K G A src J
abbrev DI (X : Cx) (Wx : WX) (tg iter : Expr) (m : M Src) : Prop := PI X tg iter (fun σ H R => ∃ F G A s, At X.K Wx (rSrc X.K) m F G A σ s H R)
theorem PI.imp {tg iter : Expr} {t t' : TI} (h : PI X tg iter t) (k : ∀ σ H R, t' σ H R → t σ H R) : PI X tg iter t' := ⟨fun pins s σ H R I q => h.run pins s σ H R I (k σ H R q)⟩
open Classical in
noncomputable def sFor (chk : S → Prop) (g : Tg) (body : MS) : List D → MS
  | [] => fun s => if chk s then .next s else .stuck
  | d :: ds => fun s => if chk s then (match g d s with
    | some s1 => match body s1 with
      | .next s2 => sFor chk g body ds s2
      | .cont s2 => sFor chk g body ds s2
      | .brk s2 => .next s2
      | r => r
    | none => .stuck) else .stuck
noncomputable def sForM (src : M Src) (g : Tg) (body : MS) : MS := sE src fun q => sFor q.chk g body q.xs
theorem ds_for {tg iter : Expr} {body : List Stmt} {src : M Src} {g : Tg} {mb : MS} (hp : PassesOwn (model X.prog X.w) X.A X.env X.xe) (hc : X.calm = true) (hi : DI X Wx tg iter src) (hg : DG X tg g) (hb : DSs X Wx body mb)
    (hs : ∀ x, foldedSetIterable iter X.env x = pure x := by intro _; rfl) : DSt X Wx (.For tg iter body [] pos) (sForM src g mb) := by
  refine PS.imp (ps_for hp hc hi hg hb hs) fun D σ H ⟨F, G, A, s, h⟩ => ⟨F, G, A, s, (AtS.ofM h).mono fun J H1 ⟨G1, A1, s1, q, sok, e1, p1, h1⟩ => ?_⟩
  refine ⟨fun i m σ H => i ≤ q.xs.length ∧ m = q.xs.length - i ∧ ∃ G2 A2 s2, Ext G1 G2 ∧ Pre A1 A2 ∧ AtS X.K Wx (sFor q.chk g mb (q.xs.drop i)) F G2 A2 σ s2 H D, ⟨q.xs.length, Nat.zero_le _, rfl, G1, A1, s1, Ext.refl, Pre.refl, by simpa using h1⟩, ?_⟩
  rintro i m σ H ⟨hil, rfl, G2, A2, s2, e2, p2, h2⟩
  by_cases hi : i < q.xs.length
  · have hd : q.xs.drop i = q.xs[i] :: q.xs.drop (i + 1) := List.drop_eq_getElem_cons hi
    rw [hd] at h2
    unfold sFor at h2
    have w2 := h2.1
    have h3 := h2.2
    dsimp only at h3
    by_cases hk : q.chk s2
    · rw [if_pos hk] at h3
      obtain ⟨_, go⟩ := sok F G2 H A2 σ s2 w2 e2 p2 hk
      obtain ⟨g1, g2⟩ := go i q.xs[i] (by simp [hi])
      refine .inr ⟨g1, fun σ' H' => i + 1 ≤ q.xs.length ∧ ∃ G2 A2 s2, Ext G1 G2 ∧ Pre A1 A2 ∧ AtS X.K Wx (sFor q.chk g mb (q.xs.drop (i + 1))) F G2 A2 σ' s2 H' D,
        fun σ' H' ⟨l, w⟩ => ⟨q.xs.length - (i + 1), by omega, l, rfl, w⟩, fun v H' y => ?_⟩
      obtain ⟨G3, w3, x3, r3⟩ := g2 v H' y
      cases hgd : g q.xs[i] s2 with
      | none => rw [hgd] at h3; exact h3.elim
      | some s3 =>
        rw [hgd] at h3
        dsimp only at h3
        refine ⟨F, G3, A2, s2, q.xs[i], w3, r3, s3, hgd, fun σ3 _ w4 => ⟨F, G3, A2, s3, w4, ?_⟩⟩
        revert h3
        cases hb3 : mb s3 with
        | next s4 =>
          intro h3 σ' G' H'' A' w' x y
          exact ⟨hi, G', A', s4, e2.trans (x3.trans x), p2.trans y, h2.base w' (x3.trans x) y (by rw [if_pos hk, hgd]; simp only [hb3])⟩
        | cont s4 =>
          intro h3 σ' G' H'' A' w' x y
          exact ⟨hi, G', A', s4, e2.trans (x3.trans x), p2.trans y, h2.base w' (x3.trans x) y (by rw [if_pos hk, hgd]; simp only [hb3])⟩
        | brk s4 => exact fun h3 σ' G' H'' A' w' x y => h3 σ' G' H'' A' w' (x3.trans x) y
        | ret r s4 => exact fun h3 v σ' G' H'' A' w' q x y => h3 v σ' G' H'' A' w' q (x3.trans x) y
        | exn z s4 => exact fun h3 cls d σ' G' H'' A' w' q x y => h3 cls d σ' G' H'' A' w' q (x3.trans x) y
        | stuck => exact fun h3 => h3
    · rw [if_neg hk] at h3; exact h3.elim
  · have e : q.xs.drop i = [] := List.drop_eq_nil_of_le (by omega)
    rw [e] at h2
    unfold sFor at h2
    have w2 := h2.1
    have h3 := h2.2
    dsimp only at h3
    by_cases hk : q.chk s2
    · rw [if_pos hk] at h3
      exact .inl ⟨(sok F G2 H A2 σ s2 w2 e2 p2 hk).1 i (by omega), h3 σ G2 H A2 w2 Ext.refl Pre.refl⟩
    · rw [if_neg hk] at h3; exact h3.elim
end
end DS
/-! The data layer, part i: defs and their calls. -/
namespace DS
open PySem L2
open PyProof.Rows (envOfC)

inductive FV where
  | val (d : D) | own (c : Cont)
inductive FR where
  | ok (r : FV) (cs : List Cont) | exn (x : Exn) (cs : List Cont) | stuck
abbrev Fn := List D → List Cont → FR
def RF (K : PySem.W.Frag) (F G H : Hp) (A : List Addr) (cs : List Cont) : FV → V → Prop
  | .val d, v => Rep K G A d v
  | .own c, v => ∃ a, v = .ref a ∧ Lone K F G H A [] ⟨cs, []⟩ c a
/-- a def's promise: it answers as φ -/
def spD (K : PySem.W.Frag) (φ : Fn) : Sp := fun vs H Q E => ∃ F G A cs ds, WS K F G H A [] ⟨cs, []⟩ ∧ Reps K G A ds vs ∧ match φ ds cs with
  | .ok r cs' => ∀ v G' H' A', WS K F G' H' A' [] ⟨cs', []⟩ → RF K F G' H' A' cs' r v → Ext G G' → Pre A A' → Q v H'
  | .exn x cs' => ∀ cls d G' H' A', WS K F G' H' A' [] ⟨cs', []⟩ → RepX K G' H' A' x cls d → Ext G G' → Pre A A' → E cls d H'
  | .stuck => False
structure RoomG (k : Nat) (A : Around) : Prop where
  r : Room k A
  g : A.guards = some []
theorem RoomG.mono {j k : Nat} {A : Around} (h : RoomG k A) (l : j ≤ k) : RoomG j A := ⟨h.r.mono l, h.g⟩
theorem RoomG.deeper {k : Nat} {A : Around} (h : RoomG (k + 1) A) (env : Env) : RoomG k (A.deeper env) := ⟨h.r.deeper env, h.g⟩
theorem RoomG.in1 {k : Nat} {A : Around} (h : RoomG (k + 1) A) : RoomG k A.in1 := ⟨h.r.in1, h.g⟩
theorem RoomG.make {k : Nat} {A : Around} (h : RoomG (k + 1) A) (C : Addr) (us : List Value) (kw : List (Str × Value)) : RoomG k (A.under (.builtin "type.__call__" ⟨.ref C :: us, kw⟩)) := by
  refine ⟨h.r.make C us kw, ?_⟩
  simp [Around.under, Code.guards, Code.isGuard, guardIds, pushGuards, h.g]
/-- the def at f, called with the keywords kws -/
def FnG (P : Program) (w : World) (K : PySem.W.Frag) (mg : Str → Option Value) (base : Heap) (k : Nat) (f : Addr) (kws : List Str) (φ : Fn) : Prop :=
  ∀ (A : Around) (outer : List Env) (s : Shared) (H : Hp) (us ws : List Value) (vs : List V) (Q : VK) (E : XK), RoomG k A → Env0 P w K mg base A outer s H → Vals vs (us ++ ws) → ws.length = kws.length → spD K φ vs H Q E →
    codeAny (model P w) A (.call (.ref f) ⟨us, kws.zip ws⟩) (CR (L2.CX P w) outer P w H s Q E) s
theorem FnG.mono {P : Program} {w : World} {K : PySem.W.Frag} {mg : Str → Option Value} {base : Heap} {j k : Nat} {f : Addr} {kws : List Str} {φ : Fn} (F : FnG P w K mg base j f kws φ) (h : j ≤ k) : FnG P w K mg base k f kws φ :=
  fun A outer s H us ws vs Q E hr => F A outer s H us ws vs Q E (hr.mono h)

/-! ### a def by its body -/
def retF (r : RV) (s : S) : FR := match r with
  | .own c => .ok (.own c) s.cs
  | .opd (.val d) => .ok (.val d) s.cs
  | .opd (.bor i) => match s.sl[i]? with
    | some (some (.own c)) => .ok (.own c) s.cs
    | some (some (.fz d)) => .ok (.val d) s.cs
    | _ => .stuck
def startS (n : Nat) (ds : List D) (cs : List Cont) : S := ⟨cs, ds.map (fun d => some (.fz d)) ++ List.replicate (n - ds.length) none⟩
/-- n parameters, N names -/
def runDef (n N : Nat) (m : MS) : Fn := fun ds cs => if ds.length = n then (match m (startS N ds cs) with
  | .next s => .ok (.val .non) s.cs
  | .ret r s => retF r s
  | .exn x s => .exn x s.cs
  | _ => .stuck) else .stuck
theorem ws_start {K : PySem.W.Frag} {F G H : Hp} {A : List Addr} {cs : List Cont} {ds : List D} {vs : List V} (w : WS K F G H A [] ⟨cs, []⟩) (r : Reps K G A ds vs) (N : List Str) : WS K F G H A (L2.start N vs) (startS N.length ds cs) := by
  have hl := r.length
  have look : ∀ (i : Nat) (x : SV), (startS N.length ds cs).sl[i]? = some (some x) → ∃ d v, x = .fz d ∧ (L2.start N vs)[i]? = some (some v) ∧ Rep K G A d v := by
    intro i x h
    unfold startS at h
    dsimp only at h
    by_cases hi : i < ds.length
    · rw [List.getElem?_append_left (by simpa using hi)] at h
      simp only [List.getElem?_map, Option.map_eq_some_iff] at h
      obtain ⟨d, hd, e⟩ := h
      cases e
      obtain ⟨v, hv, rv⟩ := r.get hd
      refine ⟨d, v, rfl, ?_, rv⟩
      unfold L2.start
      rw [List.getElem?_append_left (by simp; omega), List.getElem?_map, hv]
      rfl
    · rw [List.getElem?_append_right (by simpa using hi), List.getElem?_replicate] at h
      split at h <;> cases h
  refine ⟨w.sub, w.fr, w.len, w.nd, w.cell, fun i d h => ?_, fun i c h => ?_, fun i j c d a _ h => ?_⟩
  · obtain ⟨d', v, e, h1, h2⟩ := look i _ h
    cases e
    exact ⟨v, h1, h2⟩
  · obtain ⟨d', v, e, _⟩ := look i _ h
    cases e
  · obtain ⟨d', v, e, _⟩ := look i _ h
    cases e
theorem ws_end {K : PySem.W.Frag} {F G H : Hp} {A : List Addr} {σ : L2.St} {s : S} (w : WS K F G H A σ s) : WS K F G H A [] ⟨s.cs, []⟩ :=
  ⟨w.sub, w.fr, w.len, w.nd, w.cell, fun i d h => by simp at h, fun i c h => by simp at h, fun i j c d a _ h => by simp at h⟩
theorem lone_end {K : PySem.W.Frag} {F G H : Hp} {A : List Addr} {σ : L2.St} {s : S} {c : Cont} {a : Addr} (l : Lone K F G H A σ s c a) : Lone K F G H A [] ⟨s.cs, []⟩ c a := ⟨l.g, l.f, l.sh, fun i c h => by simp at h, l.rep⟩
theorem rf_of {K : PySem.W.Frag} {F G H : Hp} {A : List Addr} {σ : L2.St} {s : S} {r : RV} {v : V} {x : FV} {cs : List Cont} (w : WS K F G H A σ s) (h : RP K F G H A σ s r v) (e : retF r s = .ok x cs) : cs = s.cs ∧ RF K F G H A s.cs x v := by
  unfold retF at e
  split at e
  · cases e
    obtain ⟨a, ev, l⟩ := h
    exact ⟨rfl, a, ev, lone_end l⟩
  · cases e; exact ⟨rfl, h⟩
  · rename_i i
    have er : σ[i]? = some (some v) := h
    split at e
    · rename_i c hc
      cases e
      obtain ⟨a, e1, g1, f1, n1, rep⟩ := w.own i _ hc
      rw [er] at e1
      have ev : v = .ref a := by simpa using e1
      exact ⟨rfl, a, ev, g1, f1, n1, fun i c h => by simp at h, rep⟩
    · rename_i d hd
      cases e
      obtain ⟨v', e1, r1⟩ := w.fz i _ hd
      rw [er] at e1
      have ev : v' = v := by simpa using e1.symm
      subst ev
      exact ⟨rfl, r1⟩
    · cases e
section
variable {P : Program} {w : World} {K : PySem.W.Frag} {mg : Str → Option Value} {base : Heap} {k : Nat} {f : Addr} {name qual : Str} {params : Arguments} {body : List Stmt} {scope : Scope} {dV kV doc pm cdv ct oc : Value} {an od : Option Addr}
  {osl : Array (Option Value)} {N ps : List Str} {m : MS}
/-- what the body owes, from the state behind the binding -/
theorem body_owes {A : Around} {outer : List Env} {s : Shared} {H : Hp} {vs : List V} {Q : VK} {E : XK} (hb : DSs (cxOf (L2.CX P w) P w K mg base N qual scope f cdv A outer s H E) (fun cls d _ H => E cls d H) body m)
    (h : spD K (runDef ps.length N.length m) vs H Q E) : ∃ t, PSs (cxOf (L2.CX P w) P w K mg base N qual scope f cdv A outer s H E) body t ∧ t { nx := fun _ H' => Q .non H', rt := Q } (L2.start N vs) H := by
  refine ⟨_, hb, ?_⟩
  obtain ⟨F, G, Ad, cs, ds, w0, r, h⟩ := h
  refine ⟨F, G, Ad, startS N.length ds cs, ws_start w0 r N, ?_⟩
  unfold runDef at h
  by_cases hl : ds.length = ps.length
  · rw [if_pos hl] at h
    revert h
    cases hm : m (startS N.length ds cs) with
    | next s' => exact fun h σ' G' H' A' w' e p => h .non G' H' A' (ws_end w') (by simp only [RF, Rep]) e p
    | ret rv s' =>
      intro h v σ' G' H' A' w' q e p
      dsimp only at h
      revert h
      cases hr : retF rv s' with
      | ok x cs' =>
        intro h
        obtain ⟨rfl, z⟩ := rf_of w' q hr
        exact h v G' H' A' (ws_end w') z e p
      | exn x cs' =>
        unfold retF at hr
        split at hr <;> first | cases hr | (split at hr <;> cases hr)
      | stuck => exact fun h => h.elim
    | brk s' => exact fun h => h.elim
    | cont s' => exact fun h => h.elim
    | exn x s' => exact fun h cls d σ' G' H' A' w' q e p => h cls d G' H' A' (ws_end w') q e p
    | stuck => exact fun h => h
  · rw [if_neg hl] at h; exact h.elim
theorem spD_len {vs : List V} {H : Hp} {Q : VK} {E : XK} {n N : Nat} (h : spD K (runDef n N m) vs H Q E) : vs.length = n := by
  obtain ⟨F, G, Ad, cs, ds, w0, r, h⟩ := h
  unfold runDef at h
  by_cases hl : ds.length = n
  · rw [r.length]; exact hl
  · rw [if_neg hl] at h; exact h.elim
/-- a reordering of arguments -/
structure Perm where
  ap : {α : Type} → List α → List α
  len : Nat
  vals : ∀ {vs : List V} {us : List Value}, Vals vs us → Vals (ap vs) (ap us)
  reps : ∀ {K : PySem.W.Frag} {G : Hp} {A : List Addr} {ds : List D} {vs : List V}, Reps K G A ds vs → Reps K G A (ap ds) (ap vs)
def Perm.id : Perm := ⟨fun l => l, 0, fun h => h, fun h => h⟩
/-- THE RULE for a def -/
theorem fnG_of (lk : K.lookup f = some ⟨oc, od, .func (PySem.W.fnOf name qual params body scope dV kV doc pm an cdv ct), osl⟩) (hcd : PySem.W.codeIn K cdv qual = true) (S : FnScope N ps scope) {kws : List Str} (g : Perm)
    (hb : ∀ (s : Shared) (us ws : List Value), K.In s.heap → ws.length = kws.length → (g.ap (us ++ ws)).length = ps.length → BindsTo s (PySem.W.fnOf name qual params body scope dV kV doc pm an cdv ct) ⟨us, kws.zip ws⟩ (ps.zip (g.ap (us ++ ws))))
    (hbody : ∀ (A : Around) (outer : List Env) (s : Shared) (H : Hp) (E : XK), RoomG k (A.deeper (envOfC qual scope s.heap.objs.size f cdv)) →
      DSs (cxOf (L2.CX P w) P w K mg base N qual scope f cdv A outer s H E) (fun cls d _ H => E cls d H) body m) : FnG P w K mg base (k + 1) f kws (fun ds cs => runDef ps.length N.length m (g.ap ds) cs) := by
  intro A outer s H us ws vs Q E hr e0 r hl h
  have h : spD K (runDef ps.length N.length m) (g.ap vs) H Q E := by
    obtain ⟨F, G, Ad, cs, ds, w0, rs, h⟩ := h
    exact ⟨F, G, Ad, cs, g.ap ds, w0, g.reps rs, h⟩
  have hv := g.vals r
  have hlen : (g.ap (us ++ ws)).length = ps.length := by rw [← hv.length]; exact spD_len h
  refine StX.run_bnd lk hcd S hr.r e0 (G := fun xs H2 => xs = g.ap vs ∧ H2 = H) (fun A' Ex Q' hq => ?_) fun s2 H2 xs ⟨ex, eH⟩ hr' => ?_
  · refine hb s us ws (e0.mod.kin.keeps fun b o e => (e0.bs b o e).1) hl hlen _ _ _ _ ?_
    exact hq s H (g.ap vs) (g.ap (us ++ ws)) e0 Un.refl rfl (fun _ _ z => z) hv (by rw [hv.length]; exact hlen) ⟨rfl, rfl⟩
  · subst ex eH
    exact body_owes (hbody A outer s2 _ E (hr.deeper _)) h
end

/-! ### a call, from a body -/
open Classical in
/-- the caller's own objects belong to others while the callee runs -/
noncomputable def hide (F H : Hp) (σ : L2.St) (s : S) : Hp := fun b => if ∃ (i : Nat) (c : Cont), s.sl[i]? = some (some (.own c)) ∧ σ[i]? = some (some (.ref b)) then H b else F b
theorem call_frame {K : PySem.W.Frag} {F G H : Hp} {A : List Addr} {σ : L2.St} {s : S} (w : WS K F G H A σ s) : WS K (hide F H σ s) G H A [] ⟨s.cs, []⟩ ∧
    ∀ G' H' A' cs', WS K (hide F H σ s) G' H' A' [] ⟨cs', []⟩ → Ext G G' → Pre A A' → WS K F G' H' A' σ ⟨cs', s.sl⟩ ∧ ∀ c a, Lone K (hide F H σ s) G' H' A' [] ⟨cs', []⟩ c a → Lone K F G' H' A' σ ⟨cs', s.sl⟩ c a := by
  have own : ∀ (i : Nat) (c : Cont) (a : Addr), s.sl[i]? = some (some (.own c)) → σ[i]? = some (some (.ref a)) → hide F H σ s a = H a := fun i c a h1 h2 => by unfold hide; exact if_pos ⟨i, c, h1, h2⟩
  have hd : ∀ b o, hide F H σ s b = some o → H b = some o ∧ G b = none ∧ b ∉ A := fun b o e => by
    unfold hide at e
    split at e
    · rename_i q
      obtain ⟨i, c, h1, h2⟩ := q
      obtain ⟨a, e1, g1, f1, n1, _⟩ := w.own i c h1
      rw [h2] at e1
      have : b = a := by simpa using e1
      subst this
      exact ⟨e, g1, n1⟩
    · exact w.fr b o e
  refine ⟨⟨w.sub, hd, w.len, w.nd, w.cell, fun i d h => by simp at h, fun i c h => by simp at h, fun i j c d a _ h => by simp at h⟩, fun G' H' A' cs' w' x p => ⟨⟨w'.sub, fun b o e => ?_, w'.len, w'.nd, w'.cell, fun i d h => ?_, fun i c h => ?_, w.apart⟩, fun c a l => ?_⟩⟩
  · refine w'.fr b o ?_
    unfold hide
    split
    · exact (w.fr b o e).1
    · exact e
  · obtain ⟨v, h1, h2⟩ := w.fz i d h
    exact ⟨v, h1, h2.mono x p⟩
  · obtain ⟨a, h1, g1, f1, n1, rep⟩ := w.own i c h
    obtain ⟨o, ho, _⟩ := rep.obj
    obtain ⟨q1, q2, q3⟩ := w'.fr a o (by rw [own i c a h h1]; exact ho)
    exact ⟨a, h1, q2, f1, q3, rep.mono x p (by rw [q1, ho])⟩
  · have nh : ¬ ∃ (i : Nat) (c : Cont), s.sl[i]? = some (some (.own c)) ∧ σ[i]? = some (some (.ref a)) := fun ⟨i, c', h1, h2⟩ => by
      obtain ⟨b, e1, _, _, _, rep⟩ := w.own i c' h1
      rw [h2] at e1
      have : a = b := by simpa using e1
      subst this
      obtain ⟨o, ho, _⟩ := rep.obj
      have := l.f
      rw [own i c' a h1 h2, ho] at this
      cases this
    refine ⟨l.g, ?_, l.sh, fun i c' h1 h2 => nh ⟨i, c', h1, h2⟩, l.rep⟩
    have := l.f
    unfold hide at this
    rw [if_neg nh] at this
    exact this
def callF (φ : Fn) (ds : List D) : M RV := fun s => match φ ds s.cs with
  | .ok (.val d) cs => .ok (.opd (.val d)) { s with cs := cs }
  | .ok (.own c) cs => .ok (.own c) { s with cs := cs }
  | .exn x cs => .exn x { s with cs := cs }
  | .stuck => .stuck
theorem callF_sp {K : PySem.W.Frag} {Wx : WX} {F G H : Hp} {A : List Addr} {σ : L2.St} {s : S} {φ : Fn} {ds : List D} {vs : List V} {Q : VK} (h : At K Wx (rP K) (callF φ ds) F G A σ s H Q) (r : Reps K G A ds vs) : spD K φ vs H Q (fun cls d H' => Wx cls d σ H') := by
  obtain ⟨w, h⟩ := h
  obtain ⟨w0, back⟩ := call_frame w
  refine ⟨_, G, A, s.cs, ds, w0, r, ?_⟩
  unfold callF at h
  revert h
  cases φ ds s.cs with
  | stuck => exact id
  | exn x cs => exact fun h cls d G' H' A' w' q e p => h cls d G' H' A' (back G' H' A' cs w' e p).1 q e p
  | ok x cs =>
    cases x with
    | val d => exact fun h v G' H' A' w' q e p => h v G' H' A' (back G' H' A' cs w' e p).1 q e p
    | own c =>
      intro h v G' H' A' w' q e p
      obtain ⟨a, ev, l⟩ := q
      obtain ⟨b1, b2⟩ := back G' H' A' cs w' e p
      exact h v G' H' A' b1 ⟨a, ev, b2 c a l⟩ e p
section
variable {X : Cx} {Wx : WX} {e a b c : Expr} {es : List Expr} {m ma mb mc : M RV} {mo mk : M (List D)} {x nm : Str} {p apos pos : Pos} {k : Nat} {f C : Addr} {kws : List Str} {φ : Fn}
/-- the callee runs -/
theorem run_G {pins : List (Addr × Obj)} {σ : L2.St} {H : Hp} {s : Shared} {Q : VK} {us ws : List Value} {vs : List V} (F : FnG X.prog X.w X.K X.mg X.base k f kws φ) (hr : RoomG k X.A) (tk : Takes X Wx) (I : Inv X pins σ H s) (r : Vals vs (us ++ ws)) (hl : ws.length = kws.length)
    (h : spD X.K φ vs H Q (fun cls d H' => Wx cls d σ H')) : wpAny (model X.prog X.w) X.A (call (.ref f) us (kws.zip ws)) (EP X pins σ Q) X.xe s := by
  refine wpAny_call (codeAny_mono (F X.A X.stack s H us ws vs Q _ hr I.env0 r hl h) fun res s' hq => ?_)
  cases res with
  | error er => exact tk er s' (XE.of_call I (fun _ _ _ z => z) hq)
  | ok fl =>
    cases fl with
    | ret u => exact I.after hq
    | next => exact hq.elim
    | brk => exact hq.elim
    | cont => exact hq.elim
def mCall (φ : Fn) (args : M (List D)) : M RV := args >>= callF φ
/-- f(e, ..) -/
theorem dp_call (F : FnG X.prog X.w X.K X.mg X.base k f [] φ) (hr : RoomG k X.A) (tk : Takes X Wx) (hg : Gl X x) (hm : X.mg x = some (.ref f)) (hk : PySem.W.keepIn X.K (.ref f) = true) (ha : DA X Wx (e :: es) mo)
    (hdb : (x == ("__debug__" : Str)) = false := by decide) (he : starEach (e :: es) X.env = (false, eval e X.env) :: starEach es X.env := by rfl) (hpl : (backTo pos (starEach es X.env)).any (·.1) = false := by rfl) :
    DP X Wx (.Call (.Name x p) (e :: es) [] pos) (mCall φ mo) := by
  refine ⟨fun pins s σ H Q I ⟨F0, G, A, s0, h⟩ => ?_⟩
  refine wpAny_Call_Name_kw (ld_glob I hg hm (PySem.W.callWith_K (h₀ := X.base) I.ok.mod.kin hk (thn (ha.run pos pins s σ H _ I ⟨F0, G, A, s0, h.bind⟩) fun us s1 ⟨vs, H1, I1, r, G1, A1, s2, ds, r1, e1, p1, h1⟩ => ⟨I1.kIn, ?_⟩) he hpl) hdb)
  exact run_G (ws := []) F hr tk I1 (by rw [List.append_nil]; exact r) rfl (callF_sp h1 r1)
theorem dp_call0 (F : FnG X.prog X.w X.K X.mg X.base k f [] φ) (hr : RoomG k X.A) (tk : Takes X Wx) (hg : Gl X x) (hm : X.mg x = some (.ref f)) (hk : PySem.W.keepIn X.K (.ref f) = true)
    (hdb : (x == ("__debug__" : Str)) = false := by decide) : DP X Wx (.Call (.Name x p) [] [] pos) (mCall φ aNil) := by
  refine ⟨fun pins s σ H Q I ⟨F0, G, A, s0, h⟩ => ?_⟩
  refine wpAny_Call_Name_kw (ld_glob I hg hm (PySem.W.callWith_K0 I.kIn hk ?_) hdb)
  exact run_G (us := []) (ws := []) F hr tk I .nil rfl (callF_sp (ds := []) h Reps.nil)

theorem At.bindE {α β γ δ : Type} {K : PySem.W.Frag} {Wx : WX} {Rel : Rl α β} {Rel2 : Rl γ δ} {F G H : Hp} {A : List Addr} {σ : L2.St} {s : S} {m : M α} {k : α → M γ} {Q : δ → Hp → Prop} (h : At K Wx Rel2 (m >>= k) F G A σ s H Q) :
    At K Wx Rel m F G A σ s H (fun v H1 => ∃ G1 A1 s1 r, m s = .ok r s1 ∧ Rel F G1 H1 A1 σ s1 r v ∧ Ext G G1 ∧ Pre A A1 ∧ At K Wx Rel2 (k r) F G1 A1 σ s1 H1 Q) := by
  have h0 := At.bind (Rel := Rel) h
  obtain ⟨w, h⟩ := h
  refine ⟨w, ?_⟩
  have h1 := h0.2
  rw [bind_def] at h
  revert h h1
  cases hm : m s with
  | stuck => exact fun _ z => z
  | exn x s' => exact fun _ z => z
  | ok r s' =>
    intro h _ v G' H' A' w' r' e p
    refine ⟨G', A', s', r, rfl, r', e, p, w', ?_⟩
    dsimp only at h
    revert h
    cases k r s' with
    | stuck => exact fun z => z
    | exn x s2 => exact fun h cls d G2 H2 A2 w2 x2 e2 p2 => h cls d G2 H2 A2 w2 x2 (e.trans e2) (p.trans p2)
    | ok r2 s2 => exact fun h v2 G2 H2 A2 w2 r2' e2 p2 => h v2 G2 H2 A2 w2 r2' (e.trans e2) (p.trans p2)
theorem aNil_len {s s' : S} {ds : List D} (h : aNil s = .ok ds s') : ds.length = 0 := by cases h; rfl
theorem aCons_len {m : M RV} {r : M (List D)} {n : Nat} (hr : ∀ s ds s', r s = .ok ds s' → ds.length = n) {s s' : S} {ds : List D} (h : aCons m r s = .ok ds s') : ds.length = n + 1 := by
  unfold aCons at h
  rw [bind_def] at h
  split at h
  · rename_i d s1 _
    rw [bind_def] at h
    split at h
    · rename_i es s2 e2
      cases h
      simp [hr _ _ _ e2]
    · cases h
    · cases h
  · cases h
  · cases h

/-! ### keywords -/
abbrev DK (X : Cx) (Wx : WX) (kw : List Keyword) (m : M (List D)) : Prop := PK X kw (fun σ H Q => ∃ F G A s, At X.K Wx (rDs X.K) m F G A σ s H Q)
theorem PK.imp {kw : List Keyword} {t t' : TA} (h : PK X kw t) (k : ∀ σ H Q, t' σ H Q → t σ H Q) : PK X kw t' := ⟨fun pos pins s σ H Q I q => h.run pos pins s σ H Q I (k σ H Q q)⟩
theorem dk_nil : DK X Wx [] aNil := PK.imp pk_nil fun _ _ _ ⟨_, _, _, _, h⟩ => h.pure h.1 Ext.refl Pre.refl Reps.nil
theorem dk_cons {nm : Option Str} {kpos : Pos} {kw : List Keyword} (ha : DP X Wx a ma) (hr : DK X Wx kw mk) : DK X Wx (⟨nm, a, kpos⟩ :: kw) (aCons ma mk) := by
  refine PK.imp (pk_cons ha.fc hr) fun σ H Q ⟨F, G, A, s, h⟩ => ⟨F, G, A, s, h.bind.mono fun v H1 ⟨G1, A1, s1, d, r1, e1, p1, h1⟩ => ?_⟩
  refine ⟨F, G1, A1, s1, h1.bind.mono fun vs H2 ⟨G2, A2, s2, ds, r2, e2, p2, h2⟩ => ?_⟩
  exact h2.pure h2.1 Ext.refl Pre.refl (Reps.cons (Rep.mono e2 p2 d r1) r2)
def mCallK (φ : Fn) (args kw : M (List D)) : M RV := args >>= fun ds => kw >>= fun es => callF φ (ds ++ es)
theorem vals_app {vs zs : List V} {us ws : List Value} (r : Vals vs us) (q : Vals zs ws) : Vals (vs ++ zs) (us ++ ws) := r.append q
/-- f(e, .., k = v, ..) -/
theorem dp_callK {kw : List Keyword} (F : FnG X.prog X.w X.K X.mg X.base k f kws φ) (hr : RoomG k X.A) (tk : Takes X Wx) (hg : Gl X x) (hm : X.mg x = some (.ref f)) (hk : PySem.W.keepIn X.K (.ref f) = true) (ha : DA X Wx (e :: es) mo) (hkw : DK X Wx kw mk)
    (hall : (backToKw pos (keywordEach kw X.env)).all (·.1.isSome) = true := by rfl) (hks : (backToKw pos (keywordEach kw X.env)).filterMap (·.1) = kws := by rfl)
    (hdb : (x == ("__debug__" : Str)) = false := by decide) (he : starEach (e :: es) X.env = (false, eval e X.env) :: starEach es X.env := by rfl)
    (hpl : ((backTo pos (starEach (e :: es) X.env)).any (·.1) || (backToKw pos (keywordEach kw X.env)).any (·.1.isNone)) = false := by rfl) (hn : ∀ s ds s', mk s = .ok ds s' → ds.length = kws.length) :
    DP X Wx (.Call (.Name x p) (e :: es) kw pos) (mCallK φ mo mk) := by
  refine ⟨fun pins s σ H Q I ⟨F0, G, A, s0, h⟩ => ?_⟩
  refine wpAny_Call_Name_kw (ld_glob I hg hm (PySem.W.callWith_KW (h₀ := X.base) I.ok.mod.kin hk hall (thn (ha.run pos pins s σ H _ I ⟨F0, G, A, s0, h.bind⟩) fun us s1 ⟨vs, H1, I1, r, G1, A1, s2, ds, r1, e1, p1, h1⟩ => ?_) hpl he) hdb)
  refine thn (hkw.run pos pins s1 σ H1 _ I1 ⟨F0, G1, A1, s2, h1.bindE⟩) fun ws s3 ⟨zs, H2, I2, rz, G2, A2, s4, es', em, r2, e2, p2, h2⟩ => ⟨I2.kIn, ?_⟩
  rw [hks]
  exact run_G F hr tk I2 (vals_app r rz) (by rw [← rz.length, r2.length]; exact hn _ _ _ em) (callF_sp h2 ((Reps.mono e2 p2 ds r1).append r2))
end
end DS
/-! The data layer, part j: methods, instances made, properties, classmethods. -/
namespace DS
open PySem L2
open PyProof.Rows (envOfC)

section
variable {X : Cx} {Wx : WX} {e a b c : Expr} {es : List Expr} {m ma mb mc : M RV} {mo mk : M (List D)} {x nm : Str} {p apos pos : Pos} {k : Nat} {f C : Addr} {kws : List Str} {φ : Fn}
/-- f(k = v, ..) -/
theorem dp_callK0 {kw : List Keyword} (F : FnG X.prog X.w X.K X.mg X.base k f kws φ) (hr : RoomG k X.A) (tk : Takes X Wx) (hg : Gl X x) (hm : X.mg x = some (.ref f)) (hk : PySem.W.keepIn X.K (.ref f) = true) (hkw : DK X Wx kw mk)
    (hn : ∀ s ds s', mk s = .ok ds s' → ds.length = kws.length) (hall : (backToKw pos (keywordEach kw X.env)).all (·.1.isSome) = true := by rfl) (hks : (backToKw pos (keywordEach kw X.env)).filterMap (·.1) = kws := by rfl)
    (hdb : (x == ("__debug__" : Str)) = false := by decide) (hpl : ((backTo pos (starEach [] X.env)).any (·.1) || (backToKw pos (keywordEach kw X.env)).any (·.1.isNone)) = false := by rfl) :
    DP X Wx (.Call (.Name x p) [] kw pos) (mCall φ mk) := by
  refine ⟨fun pins s σ H Q I ⟨F0, G, A, s0, h⟩ => ?_⟩
  refine wpAny_Call_Name_kw (ld_glob I hg hm (PySem.W.callWith_KW0 (h₀ := X.base) I.ok.mod.kin hk hall ?_ hpl) hdb)
  refine thn (hkw.run pos pins s σ H _ I ⟨F0, G, A, s0, h.bindE⟩) fun ws s3 ⟨zs, H2, I2, rz, G2, A2, s4, es', em, r2, e2, p2, h2⟩ => ⟨I2.kIn, ?_⟩
  rw [hks]
  exact run_G (us := []) F hr tk I2 rz (by rw [← rz.length, r2.length]; exact hn _ _ _ em) (callF_sp h2 r2)

/-! ### methods -/
/-- an instance of C without an own attribute of the name -/
def insOf (C : Addr) (m : Str) (x : O) : M D := fun s => match insD s x with
  | some (C', fs) => if C' = C ∧ fs.lookup m = none then (match x with | .val d => .ok d s | _ => .stuck) else .stuck
  | none => .stuck
def mMethC (C : Addr) (m : Str) (φ : Fn) (o : M RV) (args : M (List D)) : M RV := fz o >>= fun x => insOf C m x >>= fun d => args >>= fun ds => callF φ (d :: ds)
theorem names_none {f : Str} : ∀ {fv : List (Str × V)} {fs : List (Str × D)}, fv.map (·.1) = fs.map (·.1) → fs.lookup f = none → fv.lookup f = none
  | [], [], _, _ => rfl
  | [], _ :: _, h, _ => by simp at h
  | _ :: _, [], h, _ => by simp at h
  | (k, v) :: fv, (k', d) :: fs, h, hn => by
    simp only [List.map_cons, List.cons.injEq] at h
    obtain ⟨rfl, h⟩ := h
    simp only [List.lookup_cons] at hn ⊢
    cases hk : f == k with
    | true => rw [hk] at hn; cases hn
    | false => rw [hk] at hn; exact names_none h hn
theorem insOf_at {K : PySem.W.Frag} {γ δ : Type} {Rel2 : Rl γ δ} {F G H : Hp} {A : List Addr} {σ : L2.St} {s : S} {o : O} {v : V} {m : Str} {k : D → M γ} {Q : δ → Hp → Prop} (h : At K Wx Rel2 (insOf C m o >>= k) F G A σ s H Q) (r : RO K G A σ o v) :
    ∃ d aa dx fv, v = .ref aa ∧ H aa = some (.ins C dx fv) ∧ fv.lookup m = none ∧ Rep K G A d v ∧ At K Wx Rel2 (k d) F G A σ s H Q := by
  obtain ⟨w, h⟩ := h
  rw [bind_def] at h
  unfold insOf at h
  cases hi : insD s o with
  | none => rw [hi] at h; exact h.elim
  | some q =>
    obtain ⟨C', fs⟩ := q
    rw [hi] at h
    dsimp only at h
    by_cases hc : C' = C ∧ fs.lookup m = none
    · rw [if_pos hc] at h
      obtain ⟨rfl, hn⟩ := hc
      cases o with
      | bor i => exact h.elim
      | val d =>
        dsimp only at h
        have rd : Rep K G A d v := r
        cases d with
        | ref n =>
          unfold insD at hi
          dsimp only at hi
          split at hi
          · rename_i C2 fs2 hcs
            cases hi
            simp only [Rep] at rd
            obtain ⟨aa, rfl, ea⟩ := rd
            obtain ⟨dx, fv, q, kk, rs⟩ := cell_of w hcs ea
            exact ⟨_, aa, dx, fv, rfl, q, names_none kk hn, r, w, h⟩
          · cases hi
        | ins C2 ns ds =>
          unfold insD at hi
          cases hi
          simp only [Rep] at rd
          obtain ⟨aa, dx, fv, rfl, q, kk, rs⟩ := rd
          have hl := rs.length
          have hz : fv.map (·.1) = (ns.zip ds).map (·.1) := by
            rw [kk, List.map_fst_zip]
            have : ns.length = fv.length := by rw [← kk, List.length_map]
            rw [List.length_map] at hl
            omega
          exact ⟨_, aa, dx, fv, rfl, w.rd (fun _ z => nomatch z) q, names_none hz hn, r, w, h⟩
        | _ => cases hi
    · rw [if_neg hc] at h; exact h.elim
/-- o.m(e, ..) -/
theorem dp_method {pl : Sem Bool} (he : DP X Wx a ma) (cl : Cls X.K C) (hm : Meth X.K C nm f) (F : FnG X.prog X.w X.K X.mg X.base k f [] φ) (hr : RoomG k X.A) (tk : Takes X Wx) (ha : DA X Wx (e :: es) mo)
    (hst : starEach (e :: es) X.env = (false, eval e X.env) :: starEach es X.env := by rfl) (hpl : (backTo pos (starEach es X.env)).any (·.1) = false := by rfl)
    (ht : eval (.Call (.Attribute a nm apos) (e :: es) [] pos) X.env = (do
      let ov ← eval a X.env
      standAt apos.atName
      let (f, first) ← holding [ov] (getMethod ov nm pl)
      callWith pos f first (backTo pos (starEach (e :: es) X.env)) (backToKw pos (keywordEach [] X.env))) := by rfl) :
    DP X Wx (.Call (.Attribute a nm apos) (e :: es) [] pos) (mMethC C nm φ ma mo) := by
  refine ⟨fun pins s σ H Q I ⟨F0, G, A, s0, h⟩ => ?_⟩
  refine PySem.W.methodCall_KW (pl := pl) (thn (he.fz.run pins s σ H _ I ⟨F0, G, A, s0, h.bind⟩) fun u s1 ⟨y, H1, I1, rx, G1, A1, s2, o, r1, e1, p1, h1⟩ => ?_) ht
  obtain ⟨d, aa, dx, fv, rfl, ea, l, rd, h2⟩ := insOf_at h1 r1
  obtain rfl : u = Value.ref aa := rx
  refine getmeth_ok I1 ea cl hm l (PySem.W.callWith_K (first := [.ref aa]) (h₀ := X.base) I.ok.mod.kin hm.kp (thn (ha.run pos pins s1 σ H1 _ I1 ⟨F0, G1, A1, s2, h2.bind⟩) fun us s3 ⟨vs, H2, I2, r, G2, A2, s4, ds, r2, e2, p2, h3⟩ => ⟨I2.kIn, ?_⟩) hst hpl)
  exact run_G (us := .ref aa :: us) (ws := []) F hr tk I2 (by rw [List.append_nil]; exact .cons rfl r) rfl (callF_sp h3 (Reps.cons (Rep.mono e2 p2 d rd) r2))
/-- o.m() -/
theorem dp_method0 {pl : Sem Bool} (he : DP X Wx a ma) (cl : Cls X.K C) (hm : Meth X.K C nm f) (F : FnG X.prog X.w X.K X.mg X.base k f [] φ) (hr : RoomG k X.A) (tk : Takes X Wx)
    (ht : eval (.Call (.Attribute a nm apos) [] [] pos) X.env = (do
      let ov ← eval a X.env
      standAt apos.atName
      let (f, first) ← holding [ov] (getMethod ov nm pl)
      callWith pos f first (backTo pos (starEach [] X.env)) (backToKw pos (keywordEach [] X.env))) := by rfl) :
    DP X Wx (.Call (.Attribute a nm apos) [] [] pos) (mMethC C nm φ ma aNil) := by
  refine ⟨fun pins s σ H Q I ⟨F0, G, A, s0, h⟩ => ?_⟩
  refine PySem.W.methodCall_KW (pl := pl) (thn (he.fz.run pins s σ H _ I ⟨F0, G, A, s0, h.bind⟩) fun u s1 ⟨y, H1, I1, rx, G1, A1, s2, o, r1, e1, p1, h1⟩ => ?_) ht
  obtain ⟨d, aa, dx, fv, rfl, ea, l, rd, h2⟩ := insOf_at h1 r1
  obtain rfl : u = Value.ref aa := rx
  refine getmeth_ok I1 ea cl hm l (PySem.W.callWith_K0 (first := [.ref aa]) I1.kIn hm.kp ?_)
  exact run_G (us := [.ref aa]) (ws := []) (vs := [V.ref aa]) F hr tk I1 (.cons rfl .nil) rfl (callF_sp (ds := [d]) h2 (Reps.cons rd Reps.nil))
def callN (φ : Fn) (ds : List D) : M RV := fun s => match φ ds s.cs with
  | .ok (.val d) cs => .ok (.opd (.val d)) { s with cs := cs }
  | .ok (.own c) cs => .ok (.own c) { s with cs := cs }
  | _ => .stuck
theorem callN_sp {K : PySem.W.Frag} {F G H : Hp} {A : List Addr} {σ : L2.St} {s : S} {ds : List D} {vs : List V} {Q : VK} (h : At K Wx (rP K) (callN φ ds) F G A σ s H Q) (r : Reps K G A ds vs) : spD K φ vs H Q (fun _ _ _ => False) := by
  obtain ⟨w, h⟩ := h
  obtain ⟨w0, back⟩ := call_frame w
  refine ⟨_, G, A, s.cs, ds, w0, r, ?_⟩
  unfold callN at h
  revert h
  cases φ ds s.cs with
  | stuck => exact id
  | exn x cs => exact fun h => h.elim
  | ok x cs =>
    cases x with
    | val d => exact fun h v G' H' A' w' q e p => h v G' H' A' (back G' H' A' cs w' e p).1 q e p
    | own c =>
      intro h v G' H' A' w' q e p
      obtain ⟨a, ev, l⟩ := q
      obtain ⟨b1, b2⟩ := back G' H' A' cs w' e p
      exact h v G' H' A' b1 ⟨a, ev, b2 c a l⟩ e p
/-- o.f, a property -/
def mProp (C : Addr) (φ : Fn) (o : M RV) : M RV := fz o >>= fun x => fun s => match insD s x with
  | some (C', _) => if C' = C then (match x with | .val d => callN φ [d] s | _ => .stuck) else .stuck
  | none => .stuck
theorem prop_at {K : PySem.W.Frag} {F G H : Hp} {A : List Addr} {σ : L2.St} {s : S} {o : O} {v : V} {Q : VK} (h : At K Wx (rP K) (fun s => match insD s o with
  | some (C', _) => if C' = C then (match o with | .val d => callN φ [d] s | _ => .stuck) else .stuck
  | none => .stuck) F G A σ s H Q) (r : RO K G A σ o v) : ∃ d aa dx fv, v = .ref aa ∧ H aa = some (.ins C dx fv) ∧ Rep K G A d v ∧ At K Wx (rP K) (callN φ [d]) F G A σ s H Q := by
  obtain ⟨w, h⟩ := h
  dsimp only at h
  cases hi : insD s o with
  | none => rw [hi] at h; exact h.elim
  | some q =>
    obtain ⟨C', fs⟩ := q
    rw [hi] at h
    dsimp only at h
    by_cases hc : C' = C
    · rw [if_pos hc] at h
      subst hc
      obtain ⟨aa, dx, fv, ev, q, _⟩ := insD_ok w r hi
      cases o with
      | bor i => exact h.elim
      | val d => exact ⟨d, aa, dx, fv, ev, q, r, w, h⟩
    · rw [if_neg hc] at h; exact h.elim
theorem dp_prop {pp g : Addr} (he : DP X Wx a ma) (cl : Cls X.K C) (hp : PropOf X.K C nm pp g) (F : FnG X.prog X.w X.K X.mg X.base k g [] φ) (hr : RoomG (k + 1) X.A)
    (hab : attributeBase a nm X.env (eval a X.env) = eval a X.env := by rfl) : DP X Wx (.Attribute a nm pos) (mProp C φ ma) := by
  refine ⟨fun pins s σ H Q I ⟨F0, G, A, s0, h⟩ => ?_⟩
  refine attr_of hab (thn (he.fz.run pins s σ H _ I ⟨F0, G, A, s0, h.bind⟩) fun u s1 ⟨y, H1, I1, rx, G1, A1, s2, o, r1, e1, p1, h1⟩ => ?_)
  obtain ⟨d, aa, dx, fv, rfl, ea, rd, h2⟩ := prop_at h1 r1
  obtain rfl : u = Value.ref aa := rx
  obtain ⟨mA, O, _, _, _, _⟩ := ins_get I1.hok ea
  obtain ⟨od, J, _⟩ := O.look
  obtain ⟨rest, hrec⟩ := hp.rec_
  have I2 := I1.tok (s1.toks + 1)
  have hc : (PySem.W.clsIn X.K C).isSome = true := by
    obtain ⟨cd, hc, _⟩ := PySem.W.any_some cl.hd
    rw [hc]; rfl
  have hsp := callN_sp (vs := [V.ref aa]) h2 (Reps.cons rd Reps.nil)
  refine PySem.W.get_bind I1.kIn J (PySem.W.plainGet_of (cl.get nm)).1 (PySem.W.findObj_data hc hp.at_ hp.get hp.tak) (PySem.W.plainGet_of (cl.get nm)).2 (wpAny_call (PySem.W.prop_get (s := { s1 with toks := s1.toks + 1 }) I1.kIn hrec ?_))
  refine codeAny_mono (F X.A.in1 X.stack { s1 with toks := s1.toks + 1 } H1 [.ref aa] [] [.ref aa] Q _ hr.in1 I2.env0.in1 (.cons rfl .nil) rfl hsp) fun res s' hq => ?_
  cases res with
  | error er => exact absurd (XE.of_call (W := fun _ _ _ _ => False) I2 (fun _ _ _ z => z) hq) (fun ⟨_, _, _, _, _, _, _, _, _, _, _, _, _, _, _, _, z⟩ => z)
  | ok fl =>
    cases fl with
    | ret u2 =>
      obtain ⟨v, H', I3, rv, q3⟩ := I2.after hq
      show wpAny _ _ (handedOut u2) _ _ _
      rw [PySem.W.handedOut_of (handed_of rv)]
      exact wpAny_pure ⟨v, H', I3, rv, q3⟩
    | next => exact hq.elim
    | brk => exact hq.elim
    | cont => exact hq.elim

/-! ### instances made -/
def mMakeC (C : Addr) (φ : Fn) (ds : List D) : M RV := fun s => match φ (.ref s.cs.length :: ds) (s.cs ++ [.ins C []]) with
  | .ok (.val .non) cs => .ok (.opd (.val (.ref s.cs.length))) { s with cs := cs }
  | .exn x cs => .exn x { s with cs := cs }
  | _ => .stuck
theorem make_sp {K : PySem.W.Frag} {F G H : Hp} {A : List Addr} {σ : L2.St} {s : S} {ds : List D} {vs : List V} {Q : VK} (h : At K Wx (rP K) (mMakeC C φ ds) F G A σ s H Q) (r : Reps K G A ds vs) {y dx : Addr} (hy : H y = none) (hdx : H dx = none) (hne : dx ≠ y) :
    spD K φ (.ref y :: vs) (upd (upd H dx (.own y)) y (.ins C dx [])) (fun v H2 => v = .non ∧ Q (.ref y) H2) (fun cls d H' => Wx cls d σ H') := by
  obtain ⟨w, h⟩ := h
  have w1 : WS K F G (upd H dx (.own y)) A σ s := w.newLoose hdx
  have hy1 : upd H dx (.own y) y = none := by rw [upd_ne (Ne.symm hne)]; exact hy
  obtain ⟨gy, fy, ay, oy⟩ := w1.fresh hy1
  have w2 : WS K F G (upd (upd H dx (.own y)) y (.ins C dx [])) A σ s := w1.newLoose hy1
  have l : Lone K F G (upd (upd H dx (.own y)) y (.ins C dx [])) A σ s (.ins C []) y := ⟨gy, fy, ay, oy, dx, [], upd_same, rfl, Reps.nil⟩
  have w3 := w2.share l
  obtain ⟨w0, back⟩ := call_frame w3
  have rn : Rep K G (A ++ [y]) (.ref s.cs.length) (.ref y) := by
    simp only [Rep]
    exact ⟨y, rfl, by rw [← w.len]; simp⟩
  refine ⟨_, G, A ++ [y], s.cs ++ [.ins C []], .ref s.cs.length :: ds, w0, Reps.cons rn (Reps.mono Ext.refl (List.prefix_append _ _) ds r), ?_⟩
  unfold mMakeC at h
  revert h
  cases φ (.ref s.cs.length :: ds) (s.cs ++ [.ins C []]) with
  | stuck => exact id
  | exn x cs => exact fun h cls d G' H' A' w' q e p => h cls d G' H' A' (back G' H' A' cs w' e p).1 q e ((List.prefix_append A [y]).trans p)
  | ok x cs =>
    cases x with
    | own c => exact fun h => h.elim
    | val d =>
      cases d with
      | non =>
        intro h v G' H' A' w' q e p
        have ev : v = .non := by simpa only [RF, Rep] using q
        exact ⟨ev, h (.ref y) G' H' A' (back G' H' A' cs w' e p).1 (Rep.mono e p _ rn) e ((List.prefix_append A [y]).trans p)⟩
      | _ => exact fun h => h.elim
theorem run_makeG {pins : List (Addr × Obj)} {σ : L2.St} {H : Hp} {s : Shared} {Q : VK} {us ws : List Value} {vs : List V} {F0 G : Hp} {A : List Addr} {s0 : S} {ds : List D} (M : Mk X.K C f) (F : FnG X.prog X.w X.K X.mg X.base k f kws φ) (hr : RoomG (k + 1) X.A) (tk : Takes X Wx) (I : Inv X pins σ H s)
    (r : Vals vs (us ++ ws)) (hl : ws.length = kws.length) (h : At X.K Wx (rP X.K) (mMakeC C φ ds) F0 G A σ s0 H Q) (rd : Reps X.K G A ds vs)
    (hmake : ∀ {R : Result → Shared → Prop}, codeAny (model X.prog X.w) (X.A.under (.builtin "type.__call__" ⟨.ref C :: us, kws.zip ws⟩)) (.call (.ref f) ⟨.ref (s.heap.objs.size + 1) :: us, kws.zip ws⟩) (PySem.W.InitBack (s.heap.objs.size + 1) R)
      { s with heap := (s.heap.push PySem.W.emptyDict).push (PySem.W.instObj C s.heap.objs.size) } → codeAny (model X.prog X.w) X.A (.call (.ref C) ⟨us, kws.zip ws⟩) R s) :
    wpAny (model X.prog X.w) X.A (call (.ref C) us (kws.zip ws)) (EP X pins σ Q) X.xe s := by
  have hsp := make_sp (y := s.heap.objs.size + 1) (dx := s.heap.objs.size) h rd (I.hok.fresh (Nat.le_succ _)) (I.hok.fresh (Nat.le_refl _)) (Nat.ne_of_lt (Nat.lt_succ_self _))
  have I2 := Inv.made (C := C) I
  have r2 : Vals (V.ref (s.heap.objs.size + 1) :: vs) (Value.ref (s.heap.objs.size + 1) :: us ++ ws) := .cons rfl r
  have e0 : Env0 X.prog X.w X.K X.mg X.base (X.A.under (.builtin "type.__call__" ⟨.ref C :: us, kws.zip ws⟩)) X.stack { s with heap := (s.heap.push PySem.W.emptyDict).push (PySem.W.instObj C s.heap.objs.size) } _ := I2.env0.make C us (kws.zip ws)
  refine wpAny_call (hmake (codeAny_mono (F _ X.stack _ _ (Value.ref (s.heap.objs.size + 1) :: us) ws _ _ _ (hr.make C us (kws.zip ws)) e0 r2 hl hsp) fun res s' hq => ?_))
  cases res with
  | error er => exact tk er s' (XE.of_call I2 (fun _ _ _ z => z) hq)
  | ok fl =>
    cases fl with
    | ret u =>
      obtain ⟨v, H', I3, rv, ev, q3⟩ := I2.after hq
      subst ev
      exact ⟨rv, ⟨V.ref (s.heap.objs.size + 1), H', I3, rfl, q3⟩⟩
    | next => exact hq.elim
    | brk => exact hq.elim
    | cont => exact hq.elim
def mMake (C : Addr) (φ : Fn) (args : M (List D)) : M RV := args >>= mMakeC C φ
/-- C(e, ..) -/
theorem dp_make (Mk0 : Mk X.K C f) (F : FnG X.prog X.w X.K X.mg X.base k f [] φ) (hr : RoomG (k + 1) X.A) (tk : Takes X Wx) (hg : Gl X x) (hm : X.mg x = some (.ref C)) (ha : DA X Wx (e :: es) mo)
    (hdb : (x == ("__debug__" : Str)) = false := by decide) (he : starEach (e :: es) X.env = (false, eval e X.env) :: starEach es X.env := by rfl) (hpl : (backTo pos (starEach es X.env)).any (·.1) = false := by rfl) :
    DP X Wx (.Call (.Name x p) (e :: es) [] pos) (mMake C φ mo) := by
  refine ⟨fun pins s σ H Q I ⟨F0, G, A, s0, h⟩ => ?_⟩
  refine wpAny_Call_Name_kw (ld_glob I hg hm (PySem.W.callWith_K (h₀ := X.base) I.ok.mod.kin Mk0.kp (thn (ha.run pos pins s σ H _ I ⟨F0, G, A, s0, h.bind⟩) fun us s1 ⟨vs, H1, I1, r, G1, A1, s2, ds, r1, e1, p1, h1⟩ => ⟨I1.kIn, ?_⟩) he hpl) hdb)
  exact run_makeG (ws := []) Mk0 F hr tk I1 (by rw [List.append_nil]; exact r) rfl h1 r1 fun hc => make_map (f := f) I1.kIn Mk0.makes Mk0.init (beq_iff_eq.mp Mk0.fn) hc
theorem dp_make0 (Mk0 : Mk X.K C f) (F : FnG X.prog X.w X.K X.mg X.base k f [] φ) (hr : RoomG (k + 1) X.A) (tk : Takes X Wx) (hg : Gl X x) (hm : X.mg x = some (.ref C))
    (hdb : (x == ("__debug__" : Str)) = false := by decide) : DP X Wx (.Call (.Name x p) [] [] pos) (mMake C φ aNil) := by
  refine ⟨fun pins s σ H Q I ⟨F0, G, A, s0, h⟩ => ?_⟩
  refine wpAny_Call_Name_kw (ld_glob I hg hm (PySem.W.callWith_K0 I.kIn Mk0.kp ?_) hdb)
  exact run_makeG (us := []) (ws := []) (ds := []) Mk0 F hr tk I .nil rfl h Reps.nil fun hc => make_map (f := f) I.kIn Mk0.makes Mk0.init (beq_iff_eq.mp Mk0.fn) hc

/-! ### a class's constants, classmethods -/
theorem dp_cval {d : D} {v : V} {u mc : Value} (hg : Gl X x) (hm : X.mg x = some (.ref C)) (cr : ClX.CRead X.K C mc) (cv : ClX.CVal X.K C mc nm v u) (r : ∀ G A, Rep X.K G A d v) (hd : (x == ("__debug__" : Str)) = false := by decide)
    (hb : attributeBase (.Name x p) nm X.env (eval (.Name x p) X.env) = eval (.Name x p) X.env := by rfl) : DP X Wx (.Attribute (.Name x p) nm pos) (mC d) :=
  PE.imp (ClX.pe_cval (pe_glob (v := .ref C) hg hm rfl hd) hb) fun σ H Q ⟨_, _, _, _, h⟩ => ⟨C, mc, v, u, rfl, cr, cv, h.pure h.1 Ext.refl Pre.refl (r _ _)⟩
/-- a class, as data -/
abbrev cD (C : Addr) : D := .obj (.ref C)
/-- C.m(e, ..), a classmethod -/
theorem dp_cmeth {pp g : Addr} {mc : Value} {pl : Sem Bool} (hg : Gl X x) (hm : X.mg x = some (.ref C)) (cr : ClX.CRead X.K C mc) (cm : ClX.CMet X.K C mc nm pp g) (F : FnG X.prog X.w X.K X.mg X.base k g [] φ) (hr : RoomG k X.A) (tk : Takes X Wx) (ha : DA X Wx (e :: es) mo)
    (hd : (x == ("__debug__" : Str)) = false := by decide) (hst : starEach (e :: es) X.env = (false, eval e X.env) :: starEach es X.env := by rfl) (hpl : (backTo pos (starEach es X.env)).any (·.1) = false := by rfl)
    (ht : eval (.Call (.Attribute (.Name x p) nm apos) (e :: es) [] pos) X.env = (do
      let ov ← eval (.Name x p) X.env
      standAt apos.atName
      let (f, first) ← holding [ov] (getMethod ov nm pl)
      callWith pos f first (backTo pos (starEach (e :: es) X.env)) (backToKw pos (keywordEach [] X.env))) := by rfl) :
    DP X Wx (.Call (.Attribute (.Name x p) nm apos) (e :: es) [] pos) (mCall (fun ds => φ (cD C :: ds)) mo) := by
  refine ⟨fun pins s σ H Q I ⟨F0, G, A, s0, h⟩ => ?_⟩
  refine PySem.W.methodCall_KW (pl := pl) (ld_glob I hg hm ?_ hd) ht
  refine ClX.getmethcm_ok I cr cm fun s2 I2 => ?_
  refine ClX.callwith_cm I2 (ClX.base_none I (Nat.le_refl _)) cm.fi (thn (ha.run pos _ s2 σ H _ I2 ⟨F0, G, A, s0, h.bind⟩) fun us s3 ⟨vs, H2, I3, rv, G1, A1, s4, ds, r1, e1, p1, h1⟩ => ⟨⟨ClX.pin_at I3, I3.kIn⟩, ?_⟩) hst hpl
  have hsp : spD X.K φ (.ref C :: vs) H2 Q (fun cls d H' => Wx cls d σ H') := by
    obtain ⟨F3, G3, A3, cs, dd, w0, rd, hh⟩ := callF_sp h1 r1
    exact ⟨F3, G3, A3, cs, cD C :: dd, w0, Reps.cons (by simp only [Rep]) rd, hh⟩
  have z : wpAny (model X.prog X.w) X.A (call (.ref s.heap.objs.size) us) (EP X ((s.heap.objs.size, PySem.W.methodObj (.ref g) (.ref C)) :: pins) σ Q) X.xe s3 := by
    refine wpAny_call (PySem.W.method_call (ClX.pin_at I3) (codeAny_mono (F X.A X.stack s3 H2 (.ref C :: us) [] (.ref C :: vs) Q _ hr I3.env0 (by rw [List.append_nil]; exact .cons rfl rv) rfl hsp) fun res s' hq => ?_))
    cases res with
    | error er => exact tk er s' (XE.of_call I3 (fun _ _ _ z => z) hq)
    | ok fl =>
      cases fl with
      | ret u => exact I3.after hq
      | next => exact hq.elim
      | brk => exact hq.elim
      | cont => exact hq.elim
  exact thn z fun _ _ y => ClX.unpinE y
end
end DS
/-! The data layer, part k: list comprehensions. -/
namespace DS
open PySem L2

/-! ### an object lent to others and taken back -/
section
variable {K : PySem.W.Frag} {F G H : Hp} {A : List Addr} {σ : L2.St} {s : S}
theorem WS.lendF (w : WS K F G H A σ s) {a : Addr} {o : HO} {c : Cont} (l : Lone K F G H A σ s c a) (h : H a = some o) : WS K (upd F a o) G H A σ s := by
  refine ⟨w.sub, fun b u e => ?_, w.len, w.nd, w.cell, w.fz, fun i c' e => ?_, w.apart⟩
  · by_cases q : b = a
    · subst q; rw [upd_same] at e; cases e; exact ⟨h, l.g, l.sh⟩
    · rw [upd_ne q] at e; exact w.fr b u e
  · obtain ⟨b, h1, h2, h3, h4, h5⟩ := w.own i c' e
    have q : b ≠ a := fun z => l.sl i c' e (z ▸ h1)
    exact ⟨b, h1, h2, by rw [upd_ne q]; exact h3, h4, h5⟩
theorem WS.takeF {a : Addr} {o : HO} (w : WS K (upd F a o) G H A σ s) (hf : F a = none) : WS K F G H A σ s ∧ H a = some o ∧ G a = none ∧ a ∉ A ∧ ∀ (i : Nat) (c : Cont), s.sl[i]? = some (some (.own c)) → σ[i]? ≠ some (some (.ref a)) := by
  obtain ⟨h1, h2, h3⟩ := w.fr a o upd_same
  refine ⟨⟨w.sub, fun b u e => ?_, w.len, w.nd, w.cell, w.fz, fun i c' e => ?_, w.apart⟩, h1, h2, h3, fun i c e z => ?_⟩
  · have q : b ≠ a := fun z => by rw [z, hf] at e; cases e
    exact w.fr b u (by rw [upd_ne q]; exact e)
  · obtain ⟨b, g1, g2, g3, g4, g5⟩ := w.own i c' e
    have q : b ≠ a := fun z => by rw [z, upd_same] at g3; cases g3
    exact ⟨b, g1, g2, by rw [upd_ne q] at g3; exact g3, g4, g5⟩
  · obtain ⟨b, g1, g2, g3, _⟩ := w.own i c e
    rw [z] at g1
    have q : a = b := by simpa using g1
    subst q
    rw [upd_same] at g3; cases g3
theorem WS.setF {a : Addr} {o o' : HO} (w : WS K (upd F a o) G H A σ s) (hf : F a = none) : WS K (upd F a o') G (upd H a o') A σ s := by
  obtain ⟨w1, h1, h2, h3, h4⟩ := w.takeF hf
  refine ⟨fun b u e => ?_, fun b u e => ?_, w.len, w.nd, fun n c b e1 e2 => ?_, w.fz, fun i c e => ?_, w.apart⟩
  · have q : b ≠ a := fun z => by rw [z, h2] at e; cases e
    rw [upd_ne q]; exact w.sub b u e
  · by_cases q : b = a
    · subst q; rw [upd_same] at e ⊢; cases e; exact ⟨rfl, h2, h3⟩
    · rw [upd_ne q] at e ⊢; exact w1.fr b u e
  · obtain ⟨g1, g2⟩ := w.cell n c b e1 e2
    have q : b ≠ a := fun z => h3 (z ▸ List.mem_of_getElem? e2)
    exact ⟨g1, g2.mono Ext.refl Pre.refl (by rw [upd_ne q])⟩
  · obtain ⟨b, g1, g2, g3, g4, g5⟩ := w1.own i c e
    have q : b ≠ a := fun z => h4 i c e (z ▸ g1)
    exact ⟨b, g1, g2, by rw [upd_ne q]; exact g3, g4, g5.mono Ext.refl Pre.refl (by rw [upd_ne q])⟩
end

/-! ### slots forgotten and brought back -/
def wipeS (sl : Sl) : List Nat → Sl
  | [] => sl
  | v :: vs => (wipeS sl vs).set v none
def backS (cur old : Sl) : List Nat → Sl
  | [] => cur
  | v :: vs => (backS cur old vs).set v (old.getD v none)
def noOwn (sl : Sl) : List Nat → Bool
  | [] => true
  | v :: vs => (match sl[v]? with | some (some (.own _)) => false | _ => true) && noOwn sl vs
@[simp] theorem wipeS_length (sl : Sl) : ∀ vs : List Nat, (wipeS sl vs).length = sl.length
  | [] => rfl
  | v :: vs => by unfold wipeS; rw [List.length_set, wipeS_length sl vs]
theorem wipeS_some {sl : Sl} {i : Nat} {x : SV} : ∀ {vs : List Nat}, (wipeS sl vs)[i]? = some (some x) → sl[i]? = some (some x) ∧ i ∉ vs
  | [], h => ⟨h, by simp⟩
  | v :: vs, h => by
    unfold wipeS at h
    by_cases hi : v = i
    · subst hi
      by_cases hv : v < (wipeS sl vs).length
      · rw [List.getElem?_set_self hv] at h; cases h
      · rw [List.getElem?_eq_none (by simpa using hv)] at h; cases h
    · rw [List.getElem?_set_ne hi] at h
      obtain ⟨h1, h2⟩ := wipeS_some h
      exact ⟨h1, by simp only [List.mem_cons, not_or]; exact ⟨fun e => hi e.symm, h2⟩⟩
theorem wipe_off {σ : L2.St} {i : Nat} : ∀ {vs : List Nat}, i ∉ vs → (wipe σ vs)[i]? = σ[i]?
  | [], _ => rfl
  | v :: vs, h => by
    simp only [List.mem_cons, not_or] at h
    unfold wipe
    rw [List.getElem?_set_ne (fun e => h.1 e.symm)]
    exact wipe_off h.2
theorem wipe_on {σ : L2.St} {i : Nat} {x : Option V} : ∀ {vs : List Nat}, i ∈ vs → wipe (σ.set i x) vs = wipe σ vs
  | [], h => by cases h
  | v :: vs, h => by
    unfold wipe
    by_cases hv : v = i
    · subst hv
      by_cases hm : v ∈ vs
      · rw [wipe_on hm]
      · have : ∀ (ws : List Nat) (σ : L2.St), v ∉ ws → wipe (σ.set v x) ws = (wipe σ ws).set v x := by
          intro ws
          induction ws with
          | nil => intro σ _; rfl
          | cons w ws ih =>
            intro σ hn
            simp only [List.mem_cons, not_or] at hn
            unfold wipe
            rw [ih σ hn.2, List.set_comm _ _ hn.1]
        rw [this vs σ hm, List.set_set]
    · rw [wipe_on (by simpa [Ne.symm hv] using h)]
theorem wipe_wipe {σ : L2.St} {vs : List Nat} : wipe (wipe σ vs) vs = wipe σ vs := by
  apply List.ext_getElem?
  intro i
  by_cases h : i ∈ vs
  · have none_at : ∀ (ws : List Nat) (τ : L2.St), i ∈ ws → i < τ.length → (wipe τ ws)[i]? = some none := by
      intro ws
      induction ws with
      | nil => intro _ h; cases h
      | cons w ws ih =>
        intro τ hm hl
        unfold wipe
        by_cases q : w = i
        · subst q; rw [List.getElem?_set_self (by rw [wipe_length]; exact hl)]
        · rw [List.getElem?_set_ne q]; exact ih τ (by simpa [Ne.symm q] using hm) hl
    by_cases hl : i < σ.length
    · rw [none_at vs _ h (by rw [wipe_length]; exact hl), none_at vs _ h hl]
    · rw [List.getElem?_eq_none (by rw [wipe_length, wipe_length]; omega), List.getElem?_eq_none (by rw [wipe_length]; omega)]
  · rw [wipe_off h]
theorem backS_at {cur old : Sl} {i : Nat} {x : SV} : ∀ {vs : List Nat}, (backS cur old vs)[i]? = some (some x) → (i ∈ vs ∧ old[i]? = some (some x)) ∨ (i ∉ vs ∧ cur[i]? = some (some x))
  | [], h => .inr ⟨by simp, h⟩
  | v :: vs, h => by
    unfold backS at h
    by_cases hi : v = i
    · subst hi
      by_cases hv : v < (backS cur old vs).length
      · rw [List.getElem?_set_self hv] at h
        refine .inl ⟨by simp, ?_⟩
        simp only [Option.some.injEq] at h
        rw [List.getD_eq_getElem?_getD] at h
        cases e : old[v]? with
        | none => rw [e] at h; cases h
        | some y => rw [e] at h; exact congrArg some h
      · rw [List.getElem?_eq_none (by simpa using hv)] at h; cases h
    · rw [List.getElem?_set_ne hi] at h
      rcases backS_at h with ⟨h1, h2⟩ | ⟨h1, h2⟩
      · exact .inl ⟨by simp [h1], h2⟩
      · exact .inr ⟨by simp only [List.mem_cons, not_or]; exact ⟨fun e => hi e.symm, h1⟩, h2⟩
theorem noOwn_at {sl : Sl} {i : Nat} {c : Cont} : ∀ {vs : List Nat}, noOwn sl vs = true → i ∈ vs → sl[i]? ≠ some (some (.own c))
  | [], _, h => by cases h
  | v :: vs, h, hm => by
    unfold noOwn at h
    simp only [Bool.and_eq_true] at h
    intro e
    rcases List.mem_cons.mp hm with q | q
    · subst q; rw [e] at h; exact absurd h.1 (by simp)
    · exact noOwn_at h.2 q e
section
variable {K : PySem.W.Frag} {F G H : Hp} {A : List Addr} {σ : L2.St} {s : S}
theorem WS.wipe (w : WS K F G H A σ s) (vs : List Nat) : WS K F G H A (wipe σ vs) { s with sl := wipeS s.sl vs } := by
  refine ⟨w.sub, w.fr, w.len, w.nd, w.cell, fun i d e => ?_, fun i c e => ?_, fun i j c d a n e1 e2 z1 z2 => ?_⟩
  · obtain ⟨h1, h2⟩ := wipeS_some e
    rw [wipe_off h2]
    exact w.fz i d h1
  · obtain ⟨h1, h2⟩ := wipeS_some e
    rw [wipe_off h2]
    exact w.own i c h1
  · obtain ⟨h1, h2⟩ := wipeS_some e1
    obtain ⟨h3, h4⟩ := wipeS_some e2
    rw [wipe_off h2] at z1
    rw [wipe_off h4] at z2
    exact w.apart i j c d a n h1 h3 z1 z2
theorem WS.back {F' G' H' : Hp} {A' : List Addr} {s' : S} {vs : List Nat} (w : WS K F G H A σ s) (w' : WS K F' G' H' A' (L2.wipe σ vs) s') (e : Ext G G') (p : Pre A A') (hn : noOwn s.sl vs = true) :
    WS K F' G' H' A' σ { s' with sl := backS s'.sl s.sl vs } := by
  refine ⟨w'.sub, w'.fr, w'.len, w'.nd, w'.cell, fun i d h => ?_, fun i c h => ?_, fun i j c d a n h1 h2 z1 z2 => ?_⟩
  · rcases backS_at h with ⟨h1, h2⟩ | ⟨h1, h2⟩
    · obtain ⟨v, q, r⟩ := w.fz i d h2
      exact ⟨v, q, r.mono e p⟩
    · rw [← wipe_off h1]
      exact w'.fz i d h2
  · rcases backS_at h with ⟨h1, h2⟩ | ⟨h1, h2⟩
    · exact absurd h2 (noOwn_at hn h1)
    · rw [← wipe_off h1]
      exact w'.own i c h2
  · rcases backS_at h1 with ⟨g1, g2⟩ | ⟨g1, g2⟩
    · exact absurd g2 (noOwn_at hn g1)
    · rcases backS_at h2 with ⟨k1, k2⟩ | ⟨k1, k2⟩
      · exact absurd k2 (noOwn_at hn k1)
      · rw [← wipe_off g1] at z1
        rw [← wipe_off k1] at z2
        exact w'.apart i j c d a n g2 k2 z1 z2
end

/-! ### the block's targets, tests -/
abbrev noX : WX := fun _ _ _ _ => False
abbrev DV (X : Cx) (vs : List Nat) (tg : Expr) (g : Tg) : Prop := PG X tg (fun v σ H Q => ∃ F G A s d, WS X.K F G H A σ s ∧ Rep X.K G A d v ∧ ∃ s', g d s = some s' ∧ ∀ σ', wipe σ' vs = wipe σ vs → WS X.K F G H A σ' s' → Q σ' H)
abbrev DVs (X : Cx) (vs : List Nat) (tg : List Expr) (g : Tgs) : Prop := PGs X tg (fun ws σ H Q => ∃ F G A s ds, WS X.K F G H A σ s ∧ Reps X.K G A ds ws ∧ ∃ s', g ds s = some s' ∧ ∀ σ', wipe σ' vs = wipe σ vs → WS X.K F G H A σ' s' → Q σ' H)
section
variable {X : Cx} {Wx : WX} {e a b c : Expr} {es : List Expr} {x : Str} {pos : Pos} {i : Nat} {vs : List Nat}
theorem dv_name (hN : X.N.Nodup) (hi : X.N[i]? = some x) (hv : i ∈ vs) (hx : Loc X.env.scope x) (hf : X.fn x = true ∨ X.env.scope.names.lookup x = some .local) : DV X vs (.Name x pos) (gSet i) := by
  refine ⟨fun pins sh σ H v u Q I r ⟨F, G, A, s, d, w, rd, s', e, q⟩ => ?_⟩
  cases e
  exact (pg_name (pos := pos) hN hi hx hf).run pins sh σ H v u Q I r (q _ (wipe_on hv) (w.setFz (slot_lt I hi) rd))
theorem dvs_nil : DVs X vs [] gNil := by
  refine ⟨fun pins sh σ H ws us Q I r ⟨F, G, A, s, ds, w, rd, s', e, q⟩ => ?_⟩
  unfold gNil at e
  split at e
  · cases e
    exact pgs_nil.run pins sh σ H ws us Q I r ⟨rd.inv0, q σ rfl w⟩
  · cases e
theorem dvs_cons {g : Tg} {gs : Tgs} (h1 : DV X vs e g) (h2 : DVs X vs es gs) (hs : (assignEach (e :: es) X.env).map (·.2) = assign e X.env :: (assignEach es X.env).map (·.2) := by rfl) : DVs X vs (e :: es) (gCons g gs) := by
  refine ⟨fun pins sh σ H ws us Q I r ⟨F, G, A, s, ds, w, rd, s', e, q⟩ => ?_⟩
  unfold gCons at e
  split at e
  · rename_i d t
    simp only [Option.bind_eq_some_iff] at e
    obtain ⟨s1, e1, e2⟩ := e
    obtain ⟨v, vr, rfl, r1, r2⟩ := rd.inv
    refine (pgs_cons h1 h2 hs).run pins sh σ H _ us Q I r ⟨v, vr, rfl, F, G, A, s, d, w, r1, s1, e1, fun σ' hl w' => ⟨F, G, A, s1, t, w', r2, s', e2, fun σ2 hl2 w2 => q σ2 (hl2.trans hl) w2⟩⟩
  · cases e
theorem dv_tup {k : Nat} {gs : Tgs} {n : Nat} (hc : X.calm = true) (h : DVs X vs es gs) (hlen : ∀ ds s s', gs ds s = some s' → ds.length = n) (hn : (assignEach es X.env).length = n := by rfl) (hst : (assignEach es X.env).findIdx? (·.1) = none := by rfl) :
    DV X vs (.Tuple es k pos) (gTup gs) := by
  refine ⟨fun pins sh σ H v u Q I r ⟨F, G, A, s, d, w, rd, s', e, q⟩ => ?_⟩
  unfold gTup at e
  split at e
  · rename_i ds
    simp only [Rep] at rd
    obtain ⟨a, ws, rfl, ht, rs⟩ := rd
    exact (pg_tup (pos := pos) (k := k) hc h hn hst).run pins sh σ H _ u Q I r ⟨a, ws, rfl, w.sqT ht, by rw [rs.length]; exact hlen ds s s' e, F, G, A, s, ds, w, rs, s', e, q⟩
  · cases e
abbrev DTs (X : Cx) (Wx : WX) (ifs : List Expr) (t : M Bool) : Prop := PTs X ifs (tT X.K Wx t)
def mYes : M Bool := pure true
theorem dts_nil : DTs X Wx [] mYes := ⟨fun pins s σ H Q I ⟨F, G, A, s0, h⟩ => pts_nil.run pins s σ H Q I (h.pure h.1 Ext.refl Pre.refl rfl)⟩
theorem dts_one {t : M Bool} (h : DT X Wx c t) : DTs X Wx [c] t := pts_one h
end

/-! ### the comprehension -/
open Classical in
noncomputable def lcGo (chk : S → Prop) (g : Tg) (t : M Bool) (e : M D) (vs : List Nat) : List D → List D → M (List D)
  | [], acc => fun s => if chk s then .ok acc s else .stuck
  | d :: ds, acc => fun s => if chk s then (match g d s with
    | some s1 => match t s1 with
      | .ok true s2 => match e s2 with
        | .ok x s3 => lcGo chk g t e vs ds (acc ++ [x]) { s3 with sl := wipeS s3.sl vs }
        | _ => .stuck
      | .ok false s2 => lcGo chk g t e vs ds acc { s2 with sl := wipeS s2.sl vs }
      | _ => .stuck
    | none => .stuck) else .stuck
noncomputable def lcRun (g : Tg) (t : M Bool) (e : M D) (vs : List Nat) (q : Src) : M RV := fun s => if q.xs.length ≤ sizeLine ∧ noOwn s.sl vs = true then (match lcGo q.chk g t e vs q.xs [] { s with sl := wipeS s.sl vs } with
  | .ok xs s' => .ok (.own (.lst xs)) { s' with sl := backS s'.sl s.sl vs }
  | _ => .stuck) else .stuck
noncomputable def mLc (src : M Src) (g : Tg) (t : M Bool) (e : M RV) (vs : List Nat) : M RV := src >>= lcRun g t (fc e) vs
/-- what the rest of the turns owes -/
def LcPost (K : PySem.W.Frag) (F G0 : Hp) (A0 : List Addr) (σ : L2.St) (L : Addr) (Q : Hp → Prop) : R (List D) → Prop
  | .ok xs s' => ∀ vs G' H' A', WS K (upd F L (.lst vs)) G' H' A' σ s' → Reps K G' A' xs vs → Ext G0 G' → Pre A0 A' → Q H'
  | _ => False
theorem LcPost.base {K : PySem.W.Frag} {F G0 G1 : Hp} {A0 A1 : List Addr} {σ : L2.St} {L : Addr} {Q : Hp → Prop} {r : R (List D)} (e : Ext G0 G1) (p : Pre A0 A1) (h : LcPost K F G0 A0 σ L Q r) : LcPost K F G1 A1 σ L Q r := by
  cases r with
  | ok xs s' => exact fun vs G' H' A' w q x y => h vs G' H' A' w q (e.trans x) (p.trans y)
  | exn x s' => exact h
  | stuck => exact h
theorem lc_turns {K : PySem.W.Frag} {F G H1 : Hp} {A : List Addr} {σ : L2.St} {s : S} {q : Src} {J : It} {g : Tg} {t : M Bool} {e : M D} {vs : List Nat} {Q : VK} (sok : SrcOk K G A q J) (h : At K Wx (rP K) (lcRun g t e vs q) F G A σ s H1 Q) (L : Addr) (hD : H1 L = none) :
    ∃ W : Nat → Nat → Hp → Prop, (∃ m, W 0 m (upd H1 L (.lst []))) ∧ ∀ i m H, W i m H →
      (J.stop i H ∧ Q (.ref L) H) ∨ (J.go i H ∧ ∃ Nx : Hp → Prop, (∀ H', Nx H' → ∃ m', m' < m ∧ W (i + 1) m' H') ∧ ∀ x H', J.yld i H x H' →
        ∃ F1 G1 A1 s1 d, WS K F1 G1 H' A1 (wipe σ vs) s1 ∧ Rep K G1 A1 d x ∧ ∃ s2, g d s1 = some s2 ∧ ∀ σ2, wipe σ2 vs = wipe (wipe σ vs) vs → WS K F1 G1 H' A1 σ2 s2 → (wipe σ2 vs = wipe σ vs ∧
          ∃ F2 G2 A2 s3, At K noX rB t F2 G2 A2 σ2 s3 H' fun b H3 => if b = true then ∃ F3 G3 A3 s4, At K noX (rD K) e F3 G3 A3 σ2 s4 H3 fun y H4 => ∃ acc, H4 L = some (.lst acc) ∧ acc.length < sizeLine ∧ Nx (upd H4 L (.lst (acc ++ [y]))) else Nx H3)) := by
  obtain ⟨w, h⟩ := h
  unfold lcRun at h
  by_cases hk : q.xs.length ≤ sizeLine ∧ noOwn s.sl vs = true
  · rw [if_pos hk] at h
    obtain ⟨hsz, hno⟩ := hk
    obtain ⟨_, fD, _, _⟩ := w.fresh hD
    obtain ⟨w1, l1⟩ := w.newLone (xs := []) (vs := []) hD Reps.nil
    have w2 := (w1.lendF l1 upd_same).wipe vs
    have post : LcPost K F G A (wipe σ vs) L (Q (.ref L)) (lcGo q.chk g t e vs q.xs [] { s with sl := wipeS s.sl vs }) := by
      revert h
      cases hr : lcGo q.chk g t e vs q.xs [] { s with sl := wipeS s.sl vs } with
      | stuck => exact fun h => h.elim
      | exn x s' => exact fun h => h.elim
      | ok xs s' =>
        intro h vs' G' H' A' w' rs x y
        obtain ⟨w3, h1, h2, h3, h4⟩ := w'.takeF fD
        have w4 := w.back w3 x y hno
        refine h (.ref L) G' H' A' w4 ⟨L, rfl, h2, fD, h3, fun i c e z => ?_, vs', h1, rs⟩ x y
        rcases backS_at e with ⟨g1, g2⟩ | ⟨g1, g2⟩
        · exact absurd g2 (noOwn_at hno g1)
        · exact h4 i c g2 (by rw [wipe_off g1]; exact z)
    clear h
    refine ⟨fun i m H => i ≤ q.xs.length ∧ m = q.xs.length - i ∧ ∃ G2 A2 s2 acc ws, Ext G G2 ∧ Pre A A2 ∧ acc.length ≤ i ∧ WS K (upd F L (.lst ws)) G2 H A2 (wipe σ vs) s2 ∧ Reps K G2 A2 acc ws ∧
      LcPost K F G2 A2 (wipe σ vs) L (Q (.ref L)) (lcGo q.chk g t e vs (q.xs.drop i) acc s2), ⟨q.xs.length, Nat.zero_le _, rfl, G, A, _, [], [], Ext.refl, Pre.refl, Nat.le_refl _, w2, Reps.nil, post⟩, ?_⟩
    rintro i m H ⟨hil, rfl, G2, A2, s2, acc, ws, e2, p2, hacc, w2, rs, h2⟩
    by_cases hi : i < q.xs.length
    · have hd : q.xs.drop i = q.xs[i] :: q.xs.drop (i + 1) := List.drop_eq_getElem_cons hi
      rw [hd] at h2
      unfold lcGo at h2
      by_cases hk : q.chk s2
      · rw [if_pos hk] at h2
        obtain ⟨_, go⟩ := sok _ G2 H A2 (wipe σ vs) s2 w2 e2 p2 hk
        obtain ⟨g1, g2⟩ := go i q.xs[i] (by simp [hi])
        refine .inr ⟨g1, fun H' => ∃ G2 A2 s2 acc ws, Ext G G2 ∧ Pre A A2 ∧ acc.length ≤ i + 1 ∧ WS K (upd F L (.lst ws)) G2 H' A2 (wipe σ vs) s2 ∧ Reps K G2 A2 acc ws ∧
          LcPost K F G2 A2 (wipe σ vs) L (Q (.ref L)) (lcGo q.chk g t e vs (q.xs.drop (i + 1)) acc s2), fun H' z => ⟨q.xs.length - (i + 1), by omega, hi, rfl, z⟩, fun x H' y => ?_⟩
        obtain ⟨G3, w3, x3, r3⟩ := g2 x H' y
        cases hgd : g q.xs[i] s2 with
        | none => rw [hgd] at h2; exact h2.elim
        | some s3 =>
          rw [hgd] at h2
          dsimp only at h2
          refine ⟨_, G3, A2, s2, q.xs[i], w3, r3, s3, hgd, fun σ2 eσ w4 => ?_⟩
          rw [wipe_wipe] at eσ
          refine ⟨eσ, _, G3, A2, s3, w4, ?_⟩
          revert h2
          cases ht : t s3 with
          | stuck => exact fun h => h.elim
          | exn z s4 => exact fun h => h.elim
          | ok b s4 =>
            cases b with
            | false =>
              intro h2 v G' H5 A' w5 ev x5 y5
              subst ev
              show _
              rw [if_neg (by decide)]
              have w6 := w5.wipe vs
              rw [eσ] at w6
              exact ⟨G', A', _, acc, ws, e2.trans (x3.trans x5), p2.trans y5, Nat.le_succ_of_le hacc, w6, rs.mono (x3.trans x5) y5, LcPost.base (x3.trans x5) y5 h2⟩
            | true =>
              intro h2 v G' H5 A' w5 ev x5 y5
              subst ev
              show _
              rw [if_pos rfl]
              refine ⟨_, G', A', s4, w5, ?_⟩
              dsimp only at h2
              revert h2
              cases he : e s4 with
              | stuck => exact fun h => h.elim
              | exn z s5 => exact fun h => h.elim
              | ok d s5 =>
                intro h2 y G6 H6 A6 w6 ry x6 y6
                obtain ⟨_, hD6, _⟩ := w6.takeF fD
                have rs6 := (rs.mono (x3.trans x5) y5).mono x6 y6
                refine ⟨ws, hD6, ?_, ?_⟩
                · rw [rs.length]; omega
                · have w7 := (w6.setF (o' := .lst (ws ++ [y])) fD).wipe vs
                  rw [eσ] at w7
                  exact ⟨G6, A6, _, acc ++ [d], ws ++ [y], e2.trans (x3.trans (x5.trans x6)), p2.trans (y5.trans y6), by simp; omega, w7, rs6.append (Reps.cons ry Reps.nil), LcPost.base (x3.trans (x5.trans x6)) (y5.trans y6) h2⟩
      · rw [if_neg hk] at h2; exact h2.elim
    · have e : q.xs.drop i = [] := List.drop_eq_nil_of_le (by omega)
      rw [e] at h2
      unfold lcGo at h2
      by_cases hk : q.chk s2
      · rw [if_pos hk] at h2
        exact .inl ⟨(sok _ G2 H A2 (wipe σ vs) s2 w2 e2 p2 hk).1 i (by omega), h2 ws G2 H A2 w2 rs Ext.refl Pre.refl⟩
      · rw [if_neg hk] at h2; exact h2.elim
  · rw [if_neg hk] at h; exact h.elim
section
variable {X : Cx} {Wx : WX} {elt tg iter : Expr} {ifs : List Expr} {scope : Scope} {own : List (Str × Nat)} {pos spos : Pos} {src : M Src} {g : Tg} {t : M Bool} {e : M RV} {i : Nat} {y : Str} {py : Pos}
theorem tLc_of {σ : L2.St} {H : Hp} {Q : VK} {F G : Hp} {A : List Addr} {s : S} (h : At X.K Wx (rP X.K) (mLc src g t e (own.map (·.2))) F G A σ s H Q) :
    tLc (fun σ H R => ∃ F G A s, At X.K Wx (rSrc X.K) src F G A σ s H R) (fun v σ H Q => ∃ F G A s d, WS X.K F G H A σ s ∧ Rep X.K G A d v ∧ ∃ s', g d s = some s' ∧ ∀ σ', wipe σ' (own.map (·.2)) = wipe σ (own.map (·.2)) → WS X.K F G H A σ' s' → Q σ' H)
      (tT X.K noX t) (tD X.K noX (fc e)) (own.map (·.2)) σ H Q :=
  ⟨F, G, A, s, h.bind.mono fun J H1 ⟨G1, A1, s1, q, sok, e1, p1, h1⟩ L hL => lc_turns sok h1 L hL⟩
/-- [elt for target in iter if ..] -/
theorem dp_lc (hc : X.calm = true) (hN : X.N.Nodup) (hi : DI X Wx tg iter src) (ok : BlkOk X.N X.env.scope scope own)
    (hg : ∀ (s : Shared) (H : Hp) (C : Addr) (cl : List (Str × Addr)) (fp : List Addr), DV (X.blk s H scope (compEnvC scope cl C X.env) fp) (own.map (·.2)) tg g)
    (ht : ∀ (s : Shared) (H : Hp) (C : Addr) (cl : List (Str × Addr)) (fp : List Addr), DTs (X.blk s H scope (compEnvC scope cl C X.env) fp) noX ifs t)
    (he : ∀ (s : Shared) (H : Hp) (C : Addr) (cl : List (Str × Addr)) (fp : List Addr), DP (X.blk s H scope (compEnvC scope cl C X.env) fp) noX elt e) (hs : ∀ x, foldedSetIterable iter X.env x = pure x := by intro _; rfl) :
    DP X Wx (.ListComp elt [⟨tg, iter, ifs, 0⟩] scope pos) (mLc src g t e (own.map (·.2))) :=
  PE.imp (pe_lc (te := tD X.K noX (fc e)) (tt := tT X.K noX t) hc hN hi ok hg ht (fun s H C cl fp => DP.fc (he s H C cl fp)) hs) fun σ H Q ⟨F, G, A, s, h⟩ => tLc_of h
/-- name = [..] -/
theorem ds_setLc (hc : X.calm = true) (hN : X.N.Nodup) (hy : X.N[i]? = some y) (hyl : X.env.scope.names.lookup y = some .local) (hsw : swapsWith (.ListComp elt [⟨tg, iter, ifs, 0⟩] scope pos) (some (.Name y py)) spos.line X.env = pure true)
    (hi : DI X Wx tg iter src) (ok : BlkOk X.N X.env.scope scope own)
    (hg : ∀ (s : Shared) (H : Hp) (C : Addr) (cl : List (Str × Addr)) (fp : List Addr), DV (X.blk s H scope (compEnvC scope cl C X.env) fp) (own.map (·.2)) tg g)
    (ht : ∀ (s : Shared) (H : Hp) (C : Addr) (cl : List (Str × Addr)) (fp : List Addr), DTs (X.blk s H scope (compEnvC scope cl C X.env) fp) noX ifs t)
    (he : ∀ (s : Shared) (H : Hp) (C : Addr) (cl : List (Str × Addr)) (fp : List Addr), DP (X.blk s H scope (compEnvC scope cl C X.env) fp) noX elt e) (hs : ∀ x, foldedSetIterable iter X.env x = pure x := by intro _; rfl) :
    DSt X Wx (.Assign [.Name y py] (.ListComp elt [⟨tg, iter, ifs, 0⟩] scope pos) spos) (sSet i (mLc src g t e (own.map (·.2)))) := by
  refine ⟨fun pins sh σ H D I ⟨F, G, A, s, h⟩ => ?_⟩
  refine (ps_setLc (g := fun v σ H Q => ∃ F G A s d, WS X.K F G H A σ s ∧ Rep X.K G A d v ∧ ∃ s', g d s = some s' ∧ ∀ σ', wipe σ' (own.map (·.2)) = wipe σ (own.map (·.2)) → WS X.K F G H A σ' s' → Q σ' H) (te := tD X.K noX (fc e)) (tt := tT X.K noX t) hc hN hy hyl hsw hi ok hg ht (fun s H C cl fp => DP.fc (he s H C cl fp)) hs).run pins sh σ H D I ?_
  show tLc _ _ _ _ _ _ _ _
  refine tLc_of (F := F) (G := G) (A := A) (s := s) ((AtS.ofM h).mono fun v H1 ⟨G1, A1, s1, r, r1, e1, p1, h1⟩ => ?_)
  exact setRV_ok (slot_lt I hy) h1 r1
end
end DS
/-! The data layer, part l: what a loop goes over. -/
namespace DS
open PySem L2

def srcL (d : D) (s : S) : Option Src := match d with
  | .lst xs => some ⟨xs, fun _ => True⟩
  | .klst xs => some ⟨xs, fun _ => True⟩
  | .ref n => match s.cs[n]? with
    | some (.lst xs) => some ⟨xs, fun s => s.cs[n]? = some (.lst xs)⟩
    | _ => none
  | _ => none
theorem srcL_ok {K : PySem.W.Frag} {F G H : Hp} {A : List Addr} {σ : L2.St} {s : S} {d : D} {v : V} {q : Src} (w : WS K F G H A σ s) (r : Rep K G A d v) (e : srcL d s = some q) :
    ∃ a, v = .ref a ∧ (∃ xs, SqL K H a xs) ∧ ∀ F G' H' A' σ s, WS K F G' H' A' σ s → Ext G G' → Pre A A' → q.chk s → ∃ vs, SqL K H' a vs ∧ Reps K G' A' q.xs vs := by
  unfold srcL at e
  split at e
  · cases e
    simp only [Rep] at r
    obtain ⟨a, vs, ev, h, rs⟩ := r
    exact ⟨a, ev, ⟨vs, w.sqL (.inl (.inl h))⟩, fun F G' H' A' σ s w' x p _ => ⟨vs, w'.sqL (sqL_ext x (.inl (.inl h))), rs.mono x p⟩⟩
  · cases e
    simp only [Rep] at r
    obtain ⟨a, vs, ev, h, rs⟩ := r
    exact ⟨a, ev, ⟨vs, w.sqL h⟩, fun F G' H' A' σ s w' x p _ => ⟨vs, w'.sqL (sqL_ext x h), rs.mono x p⟩⟩
  · rename_i n
    split at e
    · rename_i xs hc
      cases e
      simp only [Rep] at r
      obtain ⟨a, ev, ha⟩ := r
      obtain ⟨_, vs, h, rs⟩ := w.cell n _ a hc ha
      refine ⟨a, ev, ⟨vs, .inl (.inl h)⟩, fun F G' H' A' σ s w' x p hk => ?_⟩
      obtain ⟨_, vs', h', rs'⟩ := w'.cell n _ a hk (p.get ha)
      exact ⟨vs', .inl (.inl h'), rs'⟩
    · cases e
  · cases e
def srcT (d : D) : Option Src := match d with
  | .tup xs => some ⟨xs, fun _ => True⟩
  | _ => none
def srcS (d : D) : Option Src := match d with
  | .str x => some ⟨x.cps.toList.map fun c => .str ⟨#[c]⟩, fun _ => True⟩
  | _ => none
def oSrc (o : Option Src) : M Src := fun s => match o with
  | some q => .ok q s
  | none => .stuck
noncomputable def mOverL (m : M RV) : M Src := fc m >>= fun d s => oSrc (srcL d s) s
noncomputable def mOverT (m : M RV) : M Src := fc m >>= fun d => oSrc (srcT d)
noncomputable def mOverS (m : M RV) : M Src := fc m >>= fun d => oSrc (srcS d)
/-- a step that needs the state -/
theorem At.osrc {K : PySem.W.Frag} {Wx : WX} {F G H : Hp} {A : List Addr} {σ : L2.St} {s : S} {o : S → Option Src} {Q : It → Hp → Prop} (h : At K Wx (rSrc K) (fun s => oSrc (o s) s) F G A σ s H Q) :
    ∃ q, o s = some q ∧ WS K F G H A σ s ∧ ∀ J, SrcOk K G A q J → Q J H := by
  obtain ⟨w, h⟩ := h
  dsimp only at h
  unfold oSrc at h
  cases e : o s with
  | none => rw [e] at h; exact h.elim
  | some q => rw [e] at h; exact ⟨q, rfl, w, fun J sok => h J G H A w sok Ext.refl Pre.refl⟩
theorem Reps.at {K : PySem.W.Frag} {G : Hp} {A : List Addr} {ds : List D} {vs : List V} (r : Reps K G A ds vs) {i : Nat} {d : D} (h : ds[i]? = some d) : ∃ v, vs[i]? = some v ∧ Rep K G A d v := r.get h
section
variable {X : Cx} {Wx : WX} {tg e a b : Expr} {m ma mb : M RV} {mo : M (List D)} {p pos tpos : Pos} {elts : List Expr} {kk : Nat}
theorem di_list (he : DP X Wx e m) : DI X Wx tg e (mOverL m) := by
  refine PI.imp (pi_list he.fc) fun σ H R ⟨F, G, A, s, h⟩ => ⟨F, G, A, s, h.bind.mono fun v H1 ⟨G1, A1, s1, d, r1, e1, p1, h1⟩ => ?_⟩
  obtain ⟨q, hq, w, h2⟩ := At.osrc h1
  obtain ⟨a, rfl, hx, look⟩ := srcL_ok w r1 hq
  refine ⟨a, rfl, hx, h2 _ fun F' G' H' A' σ s w' x p hk => ?_⟩
  obtain ⟨vs, hs, rs⟩ := look F' G' H' A' σ s w' x p hk
  refine ⟨fun i hi => ⟨vs, hs, by rw [rs.length]; exact Nat.le_of_eq hi.symm⟩, fun i d hd => ?_⟩
  obtain ⟨v, hv, rv⟩ := rs.get hd
  refine ⟨⟨vs, v, hs, hv⟩, fun v2 H2 y => ?_⟩
  obtain ⟨rfl, y⟩ := y
  have := y vs hs
  rw [hv] at this
  cases this
  exact ⟨G', w', Ext.refl, rv⟩
theorem di_tup (he : DP X Wx e m) : DI X Wx tg e (mOverT m) := by
  refine PI.imp (pi_tup he.fc) fun σ H R ⟨F, G, A, s, h⟩ => ⟨F, G, A, s, h.bind.mono fun v H1 ⟨G1, A1, s1, d, r1, e1, p1, h1⟩ => ?_⟩
  obtain ⟨q, hq, w, h2⟩ := At.osrc (o := fun _ => srcT d) h1
  unfold srcT at hq
  split at hq
  · cases hq
    have r1 : Rep X.K G1 A1 (.tup _) v := r1
    simp only [Rep] at r1
    obtain ⟨a, vs, rfl, hs, rs⟩ := r1
    refine ⟨a, rfl, ⟨vs, w.sqT hs⟩, h2 _ fun F' G' H' A' σ s w' x p hk => ?_⟩
    have hs := w'.sqT (sqT_ext x hs)
    have rs := rs.mono x p
    refine ⟨fun i hi => ⟨vs, hs, by rw [rs.length]; exact Nat.le_of_eq hi.symm⟩, fun i d hd => ?_⟩
    obtain ⟨v, hv, rv⟩ := rs.get hd
    refine ⟨⟨vs, v, hs, hv⟩, fun v2 H2 y => ?_⟩
    obtain ⟨rfl, y⟩ := y
    have := y vs hs
    rw [hv] at this
    cases this
    exact ⟨G', w', Ext.refl, rv⟩
  · cases hq
theorem di_str (he : DP X Wx e m) : DI X Wx tg e (mOverS m) := by
  refine PI.imp (pi_str he.fc) fun σ H R ⟨F, G, A, s, h⟩ => ⟨F, G, A, s, h.bind.mono fun v H1 ⟨G1, A1, s1, d, r1, e1, p1, h1⟩ => ?_⟩
  obtain ⟨q, hq, w, h2⟩ := At.osrc (o := fun _ => srcS d) h1
  unfold srcS at hq
  split at hq
  · rename_i x
    cases hq
    have r1 : Rep X.K G1 A1 (.str x) v := r1
    simp only [Rep] at r1
    subst r1
    refine ⟨x, rfl, h2 _ fun F' G' H' A' σ s w' xx p hk => ⟨fun i hi => (show x.cps.size ≤ i by subst hi; simp), fun i d hd => ?_⟩⟩
    simp only [List.getElem?_map, Option.map_eq_some_iff] at hd
    obtain ⟨c, hc, rfl⟩ := hd
    have hc' : x.cps[i]? = some c := by rw [← Array.getElem?_toList]; exact hc
    have hlt : i < x.cps.size := (Array.getElem?_eq_some_iff.mp hc').1
    refine ⟨hlt, fun v2 H2 y => ?_⟩
    obtain ⟨rfl, c', h3, rfl⟩ := y
    rw [hc'] at h3
    cases h3
    exact ⟨G', w', Ext.refl, by simp only [Rep]⟩
  · cases hq
/-! ### range -/
def rngD (lo : Int) (n : Nat) : List D := (List.range n).map fun (k : Nat) => .int (lo + k)
def srcR1 (ds : List D) : Option Src := match ds with
  | [.int j] => if -(2 ^ 62) ≤ j ∧ j < 2 ^ 62 then some ⟨rngD 0 j.toNat, fun _ => True⟩ else none
  | _ => none
def srcR2 (ds : List D) : Option Src := match ds with
  | [.int i, .int j] => if -(2 ^ 62) ≤ i ∧ i < 2 ^ 62 ∧ -(2 ^ 62) ≤ j ∧ j < 2 ^ 62 then some ⟨rngD i (j - i).toNat, fun _ => True⟩ else none
  | _ => none
def mRange1 (m : M (List D)) : M Src := m >>= fun ds => oSrc (srcR1 ds)
def mRange2 (m : M (List D)) : M Src := m >>= fun ds => oSrc (srcR2 ds)
theorem rngD_ok {K : PySem.W.Frag} {G : Hp} {A : List Addr} {lo : Int} {n : Nat} : SrcOk K G A ⟨rngD lo n, fun _ => True⟩ (Itr lo n) := by
  intro F' G' H' A' σ s w' xx p hk
  refine ⟨fun i hi => by have : n ≤ i := by subst hi; simp [rngD]
                         exact this, fun i d hd => ?_⟩
  simp only [rngD, List.getElem?_map, Option.map_eq_some_iff] at hd
  obtain ⟨k, hk, rfl⟩ := hd
  obtain ⟨hlt, rfl⟩ := List.getElem?_eq_some_iff.mp hk
  simp only [List.length_range, List.getElem_range] at hlt ⊢
  refine ⟨hlt, fun v2 H2 y => ?_⟩
  obtain ⟨rfl, rfl⟩ := y
  exact ⟨G', w', Ext.refl, by simp only [Rep]⟩
theorem di_range1 (hg : Gl X "range") (hm : X.mg "range" = none) (ha : DA X Wx [a] mo) (hs : starEach [a] X.env = [(false, eval a X.env)] := by rfl) : DI X Wx tg (.Call (.Name "range" p) [a] [] pos) (mRange1 mo) := by
  refine PI.imp (pi_range1 hg hm ha hs) fun σ H R ⟨F, G, A, s, h⟩ => ⟨F, G, A, s, h.bind.mono fun vs H1 ⟨G1, A1, s1, ds, r1, e1, p1, h1⟩ => ?_⟩
  obtain ⟨q, hq, w, h2⟩ := At.osrc (o := fun _ => srcR1 ds) h1
  unfold srcR1 at hq
  split at hq
  · rename_i j
    split at hq
    · rename_i hj
      cases hq
      obtain ⟨v, t, rfl, r2, r3⟩ := Reps.inv r1
      simp only [Rep] at r2
      subst r2
      rw [r3.inv0]
      exact ⟨j, rfl, hj.1, hj.2, h2 _ rngD_ok⟩
    · cases hq
  · cases hq
theorem di_range2 (hg : Gl X "range") (hm : X.mg "range" = none) (ha : DA X Wx [a, b] mo) (hs : starEach [a, b] X.env = [(false, eval a X.env), (false, eval b X.env)] := by rfl) (hs2 : starEach [b] X.env = [(false, eval b X.env)] := by rfl) :
    DI X Wx tg (.Call (.Name "range" p) [a, b] [] pos) (mRange2 mo) := by
  refine PI.imp (pi_range2 hg hm ha hs hs2) fun σ H R ⟨F, G, A, s, h⟩ => ⟨F, G, A, s, h.bind.mono fun vs H1 ⟨G1, A1, s1, ds, r1, e1, p1, h1⟩ => ?_⟩
  obtain ⟨q, hq, w, h2⟩ := At.osrc (o := fun _ => srcR2 ds) h1
  unfold srcR2 at hq
  split at hq
  · rename_i i j
    split at hq
    · rename_i hj
      cases hq
      obtain ⟨v, t, rfl, r2, r3⟩ := Reps.inv r1
      obtain ⟨v', t', rfl, r4, r5⟩ := r3.inv
      simp only [Rep] at r2 r4
      subst r2 r4
      rw [r5.inv0]
      exact ⟨i, j, rfl, hj, h2 _ rngD_ok⟩
    · cases hq
  · cases hq
/-! ### enumerate, zip -/
def enumD (k : Nat) (xs : List D) : List D := (xs.zipIdx k).map fun q => .tup [.int (q.2 : Nat), q.1]
def srcE (k : Nat) (ds : List D) (s : S) : Option Src := match ds with
  | [d] => (srcL d s).map fun q => ⟨enumD k q.xs, q.chk⟩
  | _ => none
def mEnum (m : M (List D)) : M Src := m >>= fun ds s => oSrc (srcE 0 ds s) s
def zipD (xs ys : List D) : List D := (xs.zip ys).map fun q => .tup [q.1, q.2]
def srcZ (ds : List D) (s : S) : Option Src := match ds with
  | [d, d'] => match srcL d s, srcL d' s with
    | some q, some q' => some ⟨zipD q.xs q'.xs, fun s => q.chk s ∧ q'.chk s⟩
    | _, _ => none
  | _ => none
def srcZT (ds : List D) : Option Src := match ds with
  | [.tup xs, .tup ys] => some ⟨zipD xs ys, fun _ => True⟩
  | _ => none
def mZip (m : M (List D)) : M Src := m >>= fun ds s => oSrc ((srcZ ds s).or (srcZT ds)) s
theorem di_enum (hg : Gl X "enumerate") (hm : X.mg "enumerate" = none) (ha : DA X Wx [e] mo) (hs : starEach [e] X.env = [(false, eval e X.env)] := by rfl) : DI X Wx (.Tuple elts kk tpos) (.Call (.Name "enumerate" p) [e] [] pos) (mEnum mo) := by
  refine PI.imp (pi_enum hg hm ha hs) fun σ H R ⟨F, G, A, s, h⟩ => ⟨F, G, A, s, h.bind.mono fun vs H1 ⟨G1, A1, s1, ds, r1, e1, p1, h1⟩ => ?_⟩
  obtain ⟨q, hq, w, h2⟩ := At.osrc (o := fun s => srcE 0 ds s) h1
  unfold srcE at hq
  split at hq
  · rename_i d
    simp only [Option.map_eq_some_iff] at hq
    obtain ⟨q, hq, rfl⟩ := hq
    obtain ⟨v, t, rfl, r2, r3⟩ := Reps.inv r1
    rw [r3.inv0]
    obtain ⟨a, rfl, ⟨xs, hx⟩, look⟩ := srcL_ok w r2 hq
    refine ⟨a, xs, rfl, hx, h2 _ fun F' G' H' A' σ s w' x p hk => ?_⟩
    obtain ⟨vs, hs, rs⟩ := look F' G' H' A' σ s w' x p hk
    refine ⟨fun i hi => ⟨vs, hs, by rw [rs.length]; subst hi; simp [enumD]⟩, fun i d hd => ?_⟩
    simp only [enumD, List.getElem?_map, Option.map_eq_some_iff, List.getElem?_zipIdx] at hd
    obtain ⟨⟨d1, k1⟩, ⟨d2, hd, e2⟩, rfl⟩ := hd
    cases e2
    obtain ⟨v, hv, rv⟩ := rs.get hd
    refine ⟨⟨vs, v, hs, hv⟩, fun v2 H2 y => ?_⟩
    obtain ⟨T, x1, rfl, hT, rfl, y⟩ := y
    have := y vs hs
    rw [hv] at this
    cases this
    obtain ⟨w2, x2⟩ := w'.newFz (o := .tup [.int (i : Nat), v]) hT
    refine ⟨_, w2, x2, ?_⟩
    simp only [Rep, Nat.zero_add]
    exact ⟨T, _, rfl, .inl (.inl upd_same), Reps.cons (by simp only [Rep]) (Reps.cons (Rep.mono x2 Pre.refl _ rv) Reps.nil)⟩
  · cases hq
theorem di_zip (hg : Gl X "zip") (hm : X.mg "zip" = none) (ha : DA X Wx [e, a] mo) (hs : starEach [e, a] X.env = (false, eval e X.env) :: starEach [a] X.env := by rfl) (hpl : (backTo pos (starEach [a] X.env)).any (·.1) = false := by rfl) :
    DI X Wx (.Tuple elts kk tpos) (.Call (.Name "zip" p) [e, a] [] pos) (mZip mo) := by
  refine PI.imp (RZ.pi_zipA hg hm ha hs hpl) fun σ H R ⟨F, G, A, s, h⟩ => ⟨F, G, A, s, h.bind.mono fun vs H1 ⟨G1, A1, s1, ds, r1, e1, p1, h1⟩ => ?_⟩
  obtain ⟨q, hq, w, h2⟩ := At.osrc (o := fun s => (srcZ ds s).or (srcZT ds)) h1
  cases hz : srcZ ds s1 with
  | some q1 =>
    have hq0 : q1 = q := by rw [hz] at hq; simpa using hq
    clear hq
    subst hq0
    unfold srcZ at hz
    split at hz
    · rename_i d d'
      split at hz
      · rename_i q q' hq hq'
        cases hz
        obtain ⟨v, t, rfl, r2, r3⟩ := Reps.inv r1
        obtain ⟨v', t', rfl, r4, r5⟩ := r3.inv
        rw [r5.inv0]
        obtain ⟨a, rfl, ⟨xs, hx⟩, look⟩ := srcL_ok w r2 hq
        obtain ⟨b, rfl, ⟨ys, hy⟩, look'⟩ := srcL_ok w r4 hq'
        refine ⟨a, b, xs, ys, rfl, .inl ⟨hx, hy, h2 _ fun F' G' H' A' σ s w' x p hk => ?_⟩⟩
        obtain ⟨vs, hs, rs⟩ := look F' G' H' A' σ s w' x p hk.1
        obtain ⟨vs', hs', rs'⟩ := look' F' G' H' A' σ s w' x p hk.2
        refine ⟨fun i hi => ⟨vs, vs', hs, hs', ?_⟩, fun i d hd => ?_⟩
        · rw [rs.length, rs'.length]
          simp only [zipD, List.length_map, List.length_zip] at hi
          omega
        · simp only [zipD, List.getElem?_map, Option.map_eq_some_iff, List.getElem?_zip_eq_some] at hd
          obtain ⟨⟨d1, d2⟩, ⟨hd1, hd2⟩, rfl⟩ := hd
          obtain ⟨v, hv, rv⟩ := rs.get hd1
          obtain ⟨v', hv', rv'⟩ := rs'.get hd2
          refine ⟨⟨vs, vs', v, v', hs, hs', hv, hv'⟩, fun v2 H2 y => ?_⟩
          obtain ⟨T, x1, y1, rfl, hT, rfl, yx, yy⟩ := y
          have := yx vs hs
          rw [hv] at this
          cases this
          have := yy vs' hs'
          rw [hv'] at this
          cases this
          obtain ⟨w2, x2⟩ := w'.newFz (o := .tup [v, v']) hT
          refine ⟨_, w2, x2, ?_⟩
          simp only [Rep]
          exact ⟨T, _, rfl, .inl (.inl upd_same), Reps.cons (Rep.mono x2 Pre.refl _ rv) (Reps.cons (Rep.mono x2 Pre.refl _ rv') Reps.nil)⟩
      · cases hz
    · cases hz
  | none =>
    rw [hz] at hq
    have hq : srcZT ds = some q := by simpa using hq
    unfold srcZT at hq
    split at hq
    · rename_i xs ys
      cases hq
      obtain ⟨v, t, rfl, r2, r3⟩ := Reps.inv r1
      obtain ⟨v', t', rfl, r4, r5⟩ := r3.inv
      rw [r5.inv0]
      simp only [Rep] at r2 r4
      obtain ⟨a, vs, rfl, hs, rs⟩ := r2
      obtain ⟨b, vs', rfl, hs', rs'⟩ := r4
      refine ⟨a, b, vs, vs', rfl, .inr ⟨w.sqT hs, w.sqT hs', h2 _ fun F' G' H' A' σ s w' x p hk => ?_⟩⟩
      have hs := w'.sqT (sqT_ext x hs)
      have hs' := w'.sqT (sqT_ext x hs')
      have rs := rs.mono x p
      have rs' := rs'.mono x p
      refine ⟨fun i hi => ⟨vs, vs', hs, hs', ?_⟩, fun i d hd => ?_⟩
      · rw [rs.length, rs'.length]
        simp only [zipD, List.length_map, List.length_zip] at hi
        omega
      · simp only [zipD, List.getElem?_map, Option.map_eq_some_iff, List.getElem?_zip_eq_some] at hd
        obtain ⟨⟨d1, d2⟩, ⟨hd1, hd2⟩, rfl⟩ := hd
        obtain ⟨v, hv, rv⟩ := rs.get hd1
        obtain ⟨v', hv', rv'⟩ := rs'.get hd2
        refine ⟨⟨vs, vs', v, v', hs, hs', hv, hv'⟩, fun v2 H2 y => ?_⟩
        obtain ⟨T, x1, y1, rfl, hT, rfl, yx, yy⟩ := y
        have := yx vs hs
        rw [hv] at this
        cases this
        have := yy vs' hs'
        rw [hv'] at this
        cases this
        obtain ⟨w2, x2⟩ := w'.newFz (o := .tup [v, v']) hT
        refine ⟨_, w2, x2, ?_⟩
        simp only [Rep]
        exact ⟨T, _, rfl, .inl (.inl upd_same), Reps.cons (Rep.mono x2 Pre.refl _ rv) (Reps.cons (Rep.mono x2 Pre.refl _ rv') Reps.nil)⟩
    · cases hq
end
end DS
/-! The data layer, part m: enumerate with a start. -/
namespace DS
open PySem L2
open PySem.Spec PyProof.Rows

def IteS (K : PySem.W.Frag) (k : Int) (a : Addr) : It :=
  ⟨fun i H => ∃ (xs : List V) (x : V), SqL K H a xs ∧ xs[i]? = some x, fun i H v H' => ∃ T x, v = .ref T ∧ H T = none ∧ H' = upd H T (.tup [.int (k + (i : Nat)), x]) ∧ ∀ xs, SqL K H a xs → xs[i]? = some x, fun i H => ∃ xs : List V, SqL K H a xs ∧ xs.length = i⟩
theorem iter_apart {h : Heap} {a it : Addr} {items : Array Value} {i : Nat} (p : h.IsList a items) (q : h.IsListIter it a i) : a ≠ it := fun z => by
  subst z
  obtain ⟨o, ho, hc, _⟩ := p
  obtain ⟨o', ho', hc', _⟩ := q
  rw [ho] at ho'
  cases ho'
  rw [hc] at hc'
  exact absurd hc' (by decide)
theorem turn_enumS {P : Program} {w : World} {K : PySem.W.Frag} {elts : List Expr} {kk : Nat} {tpos : Pos} (k : Int) (a e it : Addr) :
    Turn P w K (.Tuple elts kk tpos) (IteS K k a) [e, it] e (fun i h => (∃ old, IsEnum h e it (k + ((i : Nat) : Int)) old) ∧ h.IsListIter it a i ∧ e ≠ it) where
  mem := by simp
  obj := fun i h st b hb => by
    obtain ⟨⟨old, he⟩, ⟨o, ho, hc, hd⟩, _⟩ := st
    rcases (show b = e ∨ b = it by simpa using hb) with z | z
    · rw [z]; exact ⟨_, he, fun v q => nomatch q⟩
    · rw [z]; exact ⟨o, ho, fun v q => by rw [hd] at q; cases q⟩
  keep := fun i h h' st k => let ⟨⟨old, he⟩, hi, hne⟩ := st; ⟨⟨old, k e (by simp) _ he⟩, hi.at fun o q => k it (by simp) o q, hne⟩
  item := by
    intro X hP hw hK hc i pins s σ H E I hf st hg
    subst hP hw hK
    obtain ⟨⟨old, he⟩, hit, hne⟩ := st
    obtain ⟨xs, x, hq, hx⟩ := hg
    obtain ⟨its, rv, p, hz⟩ := I.list hq
    obtain ⟨u, hu, ru⟩ := rv.get hx
    have hel : e < s.heap.objs.size := Heap.lt_size he
    have hil : it < s.heap.objs.size := by obtain ⟨_, q, _⟩ := hit; exact Heap.lt_size q
    have hli := (List.getElem?_eq_some_iff.mp hu).1
    have hai : a ≠ it := iter_apart p.isList hit
    have hae : e ≠ a := fun z => by
      obtain ⟨o, ho, hc2, _⟩ := p.isList
      rw [← z] at ho
      have := he.symm.trans ho
      cases this
      exact absurd (show Value.type "enumerate" = .type "list" from hc2) (by decide)
    refine wpAny_pyNext_enum_itemC (D := Draws.list (prog := X.prog) (w := X.w) (A := X.A.in1) (I.ok.hd hc) it a hai its.toArray) he ⟨hit, p.isList⟩ (by simpa using hli) hne (by simp [hne, hae]) fun y h' tk hP ho st' hT hsz hk => ?_
    have ey : y = u := by
      have : its[i]? = some y := by simpa using hP
      rw [hu] at this
      cases this
      rfl
    subst ey
    refine ⟨_, rfl, wpAny_letOwnedTupleGo_enum (s := { s with heap := h', toks := tk + 1 }) ho fun h'' he' sb => ?_⟩
    have hT2 : h''.get? s.heap.objs.size = some { cls := .type "tuple", data := .seq #[.int (k + (i : Nat)) tk, y] } := (sb.2 _ (Nat.ne_of_gt hel)).trans hT
    have new : ObjOk X.prog X.w (upd H s.heap.objs.size (.tup [.int (k + (i : Nat)), x])) h'' s.heap.objs.size (.tup [.int (k + (i : Nat)), x]) :=
      ⟨by show 2 ≤ sizeLine; decide, [.int (k + (i : Nat)) tk, y], .cons ⟨_, rfl⟩ (.cons ru .nil), ⟨_, hT2, rfl, _, rfl⟩⟩
    have I1 : Inv X pins σ (upd H s.heap.objs.size (.tup [.int (k + (i : Nat)), x])) { s with heap := h'', toks := tk + 1 } :=
      I.turnedNew (ch := [e, it]) (fun b ob hb q => (sb.2 b (fun z => hb (by simp [z]))).trans (hk b ob (fun z => hb (by simp [z])) (fun z => hb (by simp [z])) q)) hf (Nat.le_refl _) new
    refine ⟨.ref s.heap.objs.size, _, I1, rfl, ⟨_, x, rfl, I.hok.fresh (Nat.le_refl _), rfl, fun ys hy => by rw [I.list_inj hy hq]; exact hx⟩, ⟨⟨y, ?_⟩, st'.1.at fun o q => (sb.2 it (Ne.symm hne)).trans q, hne⟩, fun b hb => ?_⟩
    · have e1 : k + ((i + 1 : Nat) : Int) = k + (i : Int) + 1 := by omega
      rw [e1]; exact he'
    · have hb' : b < s.heap.objs.size := by
        rcases (show b = e ∨ b = it by simpa using hb) with z | z
        · rw [z]; exact hel
        · rw [z]; exact hil
      rw [upd_ne (Nat.ne_of_lt hb')]
      exact (hf b hb).1
  done := by
    intro X hP hw hK hc i pins s σ H E I hf st hg
    subst hP hw hK
    obtain ⟨⟨old, he⟩, hit, hne⟩ := st
    obtain ⟨xs, hq, hx⟩ := hg
    obtain ⟨its, rv, p, hz⟩ := I.list hq
    obtain ⟨f0, f1, f2, f3, f4, f5⟩ := hf it (by simp)
    have hl := rv.length
    have e2 : i = its.toArray.size := by simp; omega
    subst e2
    exact wpAny_pyNext_enum_endD (D := Draws.list (prog := X.prog) (w := X.w) (A := X.A.in1) (I.ok.hd hc) it a (iter_apart p.isList hit) its.toArray) he ⟨hit, p.isList⟩ fun h' eb => ⟨rfl, I.turned (t' := s.toks) (fun b o hb q => eb b o hb q) f0 f1 f3 f4 f5⟩
  self := fun A i s Q E st h => let ⟨⟨_, he⟩, _⟩ := st; wpAny_pyIter_enum he h
def iEnumS (K : PySem.W.Frag) (ta : TA) : TI := fun σ H R => ta σ H fun vs H1 => ∃ a xs k, vs = [.ref a, .int k] ∧ (-(2 ^ 63) ≤ k ∧ k < 2 ^ 63) ∧ SqL K H1 a xs ∧ R (IteS K k a) H1
theorem pi_enumS {X : Cx} {e a : Expr} {ta : TA} {p pos tpos : Pos} {elts : List Expr} {kk : Nat} (hg : Gl X "enumerate") (hm : X.mg "enumerate" = none) (ha : PA X [e, a] ta) (hs : starEach [e, a] X.env = [(false, eval e X.env), (false, eval a X.env)] := by rfl) (hs2 : starEach [a] X.env = [(false, eval a X.env)] := by rfl) :
    PI X (.Tuple elts kk tpos) (.Call (.Name "enumerate" p) [e, a] [] pos) (iEnumS X.K ta) := by
  refine ⟨fun pins s σ H R I h => ?_⟩
  refine Call_ (ld_blt I hg hm boot_enumerate (PyProof.Rows.callWith_type1 (thn (ha.run pos pins s σ H _ I h) fun us s1 ⟨vs, H1, I1, r1, q1⟩ => ?_) (by rw [hs, hs2]) (by rw [hs2]; rfl)))
  obtain ⟨a, xs, k, ex, ⟨k0, k1⟩, hq, q⟩ := q1
  subst ex
  cases r1 with
  | cons r rr =>
    cases rr with
    | cons r' rr =>
      cases rr
      cases r
      obtain ⟨t, rfl⟩ := r'
      obtain ⟨its, rv, p', hz⟩ := I1.list hq
      refine enum_begins (begins_list a its.toArray) p'.isList k0 k1 fun h' he hit hsz hk => wpAny_pyIter_enum he ?_
      have I2 : Inv X pins σ H1 { s1 with heap := h' } := I1.kept (t' := s1.toks) hk
      refine ⟨s1.heap.objs.size + 1, [s1.heap.objs.size + 1, s1.heap.objs.size], _, _, H1, rfl, I2, turn_enumS k a (s1.heap.objs.size + 1) s1.heap.objs.size, ⟨⟨.none, ?_⟩, ⟨_, hit, rfl, rfl⟩, Nat.succ_ne_self _⟩, fun b hb => ?_, q⟩
      · have e0 : k + ((0 : Nat) : Int) = k := by simp
        rw [e0]; exact he
      have hle : s1.heap.objs.size ≤ b := by
        rcases (show b = s1.heap.objs.size + 1 ∨ b = s1.heap.objs.size by simpa using hb) with z | z
        · rw [z]; exact Nat.le_add_right _ _
        · rw [z]; exact Nat.le_refl _
      exact I1.fpOk hle (I1.hok.fresh hle)
def srcES (ds : List D) (s : S) : Option Src := match ds with
  | [d, .int (.ofNat k)] => if k < 2 ^ 62 then (srcL d s).map fun q => ⟨enumD k q.xs, q.chk⟩ else none
  | _ => none
def mEnumS (m : M (List D)) : M Src := m >>= fun ds s => oSrc (srcES ds s) s
section
variable {X : Cx} {Wx : WX} {tg e a b : Expr} {m ma mb : M RV} {mo : M (List D)} {p pos tpos : Pos} {elts : List Expr} {kk : Nat}
theorem di_enumS (hg : Gl X "enumerate") (hm : X.mg "enumerate" = none) (ha : DA X Wx [e, a] mo) (hs : starEach [e, a] X.env = [(false, eval e X.env), (false, eval a X.env)] := by rfl) (hs2 : starEach [a] X.env = [(false, eval a X.env)] := by rfl) :
    DI X Wx (.Tuple elts kk tpos) (.Call (.Name "enumerate" p) [e, a] [] pos) (mEnumS mo) := by
  refine PI.imp (pi_enumS hg hm ha hs hs2) fun σ H R ⟨F, G, A, s, h⟩ => ⟨F, G, A, s, h.bind.mono fun vs H1 ⟨G1, A1, s1, ds, r1, e1, p1, h1⟩ => ?_⟩
  obtain ⟨q, hq, w, h2⟩ := At.osrc (o := fun s => srcES ds s) h1
  unfold srcES at hq
  split at hq
  · rename_i d k
    split at hq
    · rename_i hk
      simp only [Option.map_eq_some_iff] at hq
      obtain ⟨q, hq, rfl⟩ := hq
      obtain ⟨v, t, rfl, r2, r3⟩ := Reps.inv r1
      obtain ⟨v', t', rfl, r4, r5⟩ := r3.inv
      simp only [Rep] at r4
      subst r4
      rw [r5.inv0]
      obtain ⟨a, rfl, ⟨xs, hx⟩, look⟩ := srcL_ok w r2 hq
      refine ⟨a, xs, (k : Int), rfl, ⟨by omega, by omega⟩, hx, h2 _ fun F' G' H' A' σ s w' x p hk => ?_⟩
      obtain ⟨vs, hs, rs⟩ := look F' G' H' A' σ s w' x p hk
      refine ⟨fun i hi => ⟨vs, hs, by rw [rs.length]; subst hi; simp [enumD]⟩, fun i d hd => ?_⟩
      simp only [enumD, List.getElem?_map, Option.map_eq_some_iff, List.getElem?_zipIdx] at hd
      obtain ⟨⟨d1, k1⟩, ⟨d2, hd, e2⟩, rfl⟩ := hd
      cases e2
      obtain ⟨v, hv, rv⟩ := rs.get hd
      refine ⟨⟨vs, v, hs, hv⟩, fun v2 H2 y => ?_⟩
      obtain ⟨T, x1, rfl, hT, rfl, y⟩ := y
      have := y vs hs
      rw [hv] at this
      cases this
      obtain ⟨w2, x2⟩ := w'.newFz (o := .tup [.int (k + (i : Nat)), v]) hT
      refine ⟨_, w2, x2, ?_⟩
      simp only [Rep]
      exact ⟨T, _, rfl, .inl (.inl upd_same), Reps.cons (by simp only [Rep]; push_cast; rfl) (Reps.cons (Rep.mono x2 Pre.refl _ rv) Reps.nil)⟩
    · cases hq
  · cases hq
end
end DS
/-! The data layer, part n: o[i] = v, o.f = v. -/
namespace DS
open PySem L2

def gSetAt (xs ds : List D) : Option (List D × NV) := match ds with
  | [.int k, d] => (ixN xs.length k).map fun j => (xs.set j d, vN)
  | _ => none
theorem Reps.setAt {K : PySem.W.Frag} {G : Hp} {A : List Addr} {d : D} {v : V} : ∀ {ds : List D} {vs : List V} (j : Nat), Reps K G A ds vs → Rep K G A d v → Reps K G A (ds.set j d) (vs.set j v)
  | [], vs, _, r, _ => by rw [r.inv0]; exact Reps.nil
  | x :: ds, vs, j, r, q => by
    obtain ⟨u, t, rfl, r1, r2⟩ := r.inv
    cases j with
    | zero => exact Reps.cons q r2
    | succ j => exact Reps.cons r1 (Reps.setAt j r2 q)
/-- o[i] = v -/
def sPut (o i v : M RV) : MS := sE (fc v) fun d => sE (fz o) fun x => sE (fc i) fun k => sE (mutC x (onL gSetAt [k, d])) fun _ => sNext
section
variable {X : Cx} {Wx : WX} {e a b c o i : Expr} {es : List Expr} {m ma mb mc mo mi : M RV} {x : Str} {p apos pos pos' : Pos}
theorem ds_put (ho : DP X Wx o mo) (hi : DP X Wx i mi) (he : DP X Wx e m)
    (hs : swapsWithSole [.Subscript o i pos'] e pos.line X.env = pure false := by rfl) (hw : swappedStores [.Subscript o i pos'] e X.env = pure none := by rfl)
    (h1 : (assignEach [.Subscript o i pos'] X.env).map (·.2) = [assign (.Subscript o i pos') X.env] := by rfl)
    (hq : ∀ v, assign (.Subscript o i pos') X.env v = (do
      let ov ← holding [v] (eval o X.env)
      let iv ← holding [v, ov] (eval i X.env)
      standAt pos'
      holding [v, ov, iv] (setItem ov iv v)
      release [v, ov, iv] []) := by intro _; rfl) : DSt X Wx (.Assign [.Subscript o i pos'] e pos) (sPut mo mi m) := by
  refine PS.imp (ps_asg he.fc (pg_sub ho.fz hi.fc set_list hq) hs hw h1) fun D σ H ⟨F, G, A, s, h⟩ => ⟨F, G, A, s, (AtS.ofM h).mono fun v H1 ⟨G1, A1, s1, d, r1, e1, p1, h1⟩ => ?_⟩
  refine ⟨F, G1, A1, s1, (AtS.ofM (Rel := rO X.K) h1).mono fun ov H2 ⟨G2, A2, s2, y, r2, e2, p2, h2⟩ => ?_⟩
  refine ⟨F, G2, A2, s2, (AtS.ofM (Rel := rD X.K) h2).mono fun iv H3 ⟨G3, A3, s3, k, r3, e3, p3, h3⟩ => ?_⟩
  obtain ⟨b, xs, vs, ys, n, rfl, hb, rs, ge, q⟩ := onL_ok (AtS.ofM (Rel := rP X.K) h3) (RO.mono e3 p3 r2)
  unfold gSetAt at ge
  split at ge
  · rename_i k' d' heq
    cases heq
    simp only [Option.map_eq_some_iff] at ge
    obtain ⟨j, hj, ge⟩ := ge
    cases ge
    simp only [rD, Rep] at r3
    subst r3
    have rd : Rep X.K G3 A3 d v := Rep.mono (e2.trans e3) (p2.trans p3) d r1
    obtain ⟨G4, A4, s4, r, _, e4, p4, h4⟩ := done_non (q _ (rs.setAt j rd))
    exact ⟨b, vs, k', j, rfl, rfl, hb, by rw [rs.length]; exact hj, h4.2 _ _ _ _ h4.1 Ext.refl Pre.refl⟩
  · cases ge

/-! ### attributes -/
def putD (f : Str) (d : D) : List (Str × D) → List (Str × D)
  | [] => [(f, d)]
  | (g, x) :: r => if g = f then (g, d) :: r else (g, x) :: putD f d r
theorem putD_names {f : Str} {d : D} {v : V} : ∀ {fs : List (Str × D)} {fv : List (Str × V)}, fv.map (·.1) = fs.map (·.1) → (putF f v fv).map (·.1) = (putD f d fs).map (·.1)
  | [], [], _ => rfl
  | [], _ :: _, h => by simp at h
  | _ :: _, [], h => by simp at h
  | (g, x) :: fs, (g', y) :: fv, h => by
    simp only [List.map_cons, List.cons.injEq] at h
    obtain ⟨rfl, h⟩ := h
    unfold putD putF
    by_cases hg : g' = f
    · rw [if_pos hg, if_pos hg]; simp [h]
    · rw [if_neg hg, if_neg hg]; exact congrArg (g' :: ·) (putD_names h)
theorem putD_reps {K : PySem.W.Frag} {G : Hp} {A : List Addr} {f : Str} {d : D} {v : V} (q : Rep K G A d v) : ∀ {fs : List (Str × D)} {fv : List (Str × V)}, fv.map (·.1) = fs.map (·.1) → Reps K G A (fs.map (·.2)) (fv.map (·.2)) → Reps K G A ((putD f d fs).map (·.2)) ((putF f v fv).map (·.2))
  | [], [], _, _ => Reps.cons q Reps.nil
  | [], _ :: _, h, _ => by simp at h
  | _ :: _, [], h, _ => by simp at h
  | (g, x) :: fs, (g', y) :: fv, h, r => by
    simp only [List.map_cons, List.cons.injEq] at h
    obtain ⟨rfl, h⟩ := h
    simp only [List.map_cons] at r
    obtain ⟨u, t, e, r1, r2⟩ := r.inv
    simp only [List.cons.injEq] at e
    obtain ⟨rfl, rfl⟩ := e
    unfold putD putF
    by_cases hg : g' = f
    · rw [if_pos hg, if_pos hg]; exact Reps.cons q r2
    · rw [if_neg hg, if_neg hg]; exact Reps.cons r1 (putD_reps q h r2)
def fldSet (C : Addr) (f : Str) (d : D) : Cont → Option (Cont × NV) := fun c => match c with
  | .ins C' fs => if C' = C ∧ fs.length < 1000 then some (.ins C (putD f d fs), vN) else none
  | _ => none
/-- o.f = v, o an instance of C -/
def sPutF (C : Addr) (f : Str) (o v : M RV) : MS := sE (fc v) fun d => sE (fz o) fun x => sE (mutC x (fldSet C f d)) fun _ => sNext
theorem ds_putF {C : Addr} {f : Str} (ho : DP X Wx o mo) (he : DP X Wx e m) (c : Cls X.K C) (n : NoAttr X.K C f) (hs : swapsWith e (some (.Attribute o f pos')) pos.line X.env = pure false := by rfl) :
    DSt X Wx (.Assign [.Attribute o f pos'] e pos) (sPutF C f mo m) := by
  refine PS.imp (ps_fld ho.fz he.fc hs) fun D σ H ⟨F, G, A, s, h⟩ => ⟨F, G, A, s, (AtS.ofM h).mono fun v H1 ⟨G1, A1, s1, d, r1, e1, p1, h1⟩ => ?_⟩
  refine ⟨F, G1, A1, s1, (AtS.ofM (Rel := rO X.K) h1).mono fun ov H2 ⟨G2, A2, s2, y, r2, e2, p2, h2⟩ => ?_⟩
  obtain ⟨b, cc, cc', nn, rfl, rep, ge, q⟩ := mutC_ok (AtS.ofM (Rel := rP X.K) h2) r2
  unfold fldSet at ge
  split at ge
  · rename_i C' fs
    split at ge
    · rename_i hc
      obtain ⟨rfl, hl⟩ := hc
      cases ge
      obtain ⟨dx, fv, hb, k, rs⟩ := rep
      have rd : Rep X.K G2 A2 d v := Rep.mono e2 p2 d r1
      have hlen : fv.length = fs.length := by have := congrArg List.length k; simpa using this
      refine ⟨b, C', dx, fv, rfl, hb, c, n, by omega, ?_⟩
      obtain ⟨G4, A4, s4, r, _, e4, p4, h4⟩ := done_non (q (upd H2 b (.ins C' dx (putF f v fv))) (fun z nz => upd_ne nz) ⟨dx, _, upd_same, putD_names k, putD_reps rd k rs⟩)
      exact h4.2 _ _ _ _ h4.1 Ext.refl Pre.refl
    · cases ge
  · cases ge
end
end DS
/-! The data layer, part o: name, *rest = a list; match over a list. -/
namespace DS
open PySem L2 PySem.Spec PyProof.Rows

/-! ### name, *rest = .. -/
theorem unpack_star {prog : Program} {w : World} {A : Around} {E : Value → Shared → Prop} {s : Shared} {l : Addr} {x : Value} {r : List Value} {Q : List Value → Shared → Prop} (hd : A.handled = none) (hl : s.heap.IsList l (x :: r).toArray) (hz : (x :: r).length ≤ sizeLine)
    (hQ : ∀ h' tk, Heap.ExtBut s.heap.objs.size s.heap h' → Q [x, .ref h'.objs.size] { s with heap := h'.push { cls := .type "list", data := .seq r.toArray }, toks := tk }) : wpAny (model prog w) A (unpackItems (.ref l) 2 (some 1)) Q E s := by
  have hla : l ≠ s.heap.objs.size := by obtain ⟨o, ho, _⟩ := hl; exact Nat.ne_of_lt (Heap.lt_size ho)
  unfold unpackItems
  refine wpAny_bind ?_
  unfold notIterableAtAll
  refine wpAny_bind (wpAny_specialOf hl.typeIs slot_list_iter.lookup (wpAny_pure ?_))
  rw [if_neg (by decide)]
  refine wpAny_bind (wpAny_holding (wpAny_pyIter_list hl ?_))
  refine wpAny_bind (wpAny_holding (PySem.W.kun_draw hla 1 0 _ _ ⟨_, Heap.get?_push_size _ rfl, rfl, rfl⟩ (hl.push _) (by simp) fun h1 it1 sb1 => ?_))
  have hl1 : h1.IsList l (x :: r).toArray := (hl.push _).extBut sb1.extBut hla
  have i1 : h1.IsListIter s.heap.objs.size l 1 := it1
  obtain ⟨oi, hoi, _⟩ := id i1
  obtain ⟨ol, hol, _⟩ := id hl1
  show wpAny _ _ (if ([x] : List Value).length < 1 then _ else _) _ _ _
  rw [if_neg (by simp)]
  refine wpAny_bind (wpAny_holding (PySem.W.kun_collect (s := { s with heap := h1 }) (T := "list_iterator") (.inr (.inr (.inl rfl))) (Walks.list (A := A.in1) hd s.heap.objs.size l hla (x :: r).toArray) (fun j u st => st.1.typeIs) (k := 1) (by simp) ⟨i1, hl1⟩ (Heap.lt_size hoi) (Heap.lt_size hol) (fun h2 tk hk => ?_) (by simpa using hz)))
  have he : Heap.ExtBut s.heap.objs.size s.heap h2 := fun b o hb e => hk b o hb (sb1.extBut b o hb (Heap.get?_push_of_some _ e))
  have er : (x :: r).toArray.toList.drop 1 = r := rfl
  rw [er]
  show wpAny _ _ (if r.length < 2 - 1 - 1 then _ else _) _ _ _
  rw [if_neg (by omega)]
  have et : r.take (r.length - (2 - 1 - 1)) = r := by simp
  have ed : r.drop (r.length - (2 - 1 - 1)) = [] := by simp
  show wpAny _ _ (newList (r.take (r.length - (2 - 1 - 1))) >>= fun q => pure ([x] ++ [q] ++ r.drop (r.length - (2 - 1 - 1)))) _ _ _
  rw [et, ed]
  refine wpAny_bind (wpAny_newList ?_ (by simp only [List.length_cons] at hz; omega))
  exact wpAny_pure (hQ h2 tk he)
def gStar (K : PySem.W.Frag) (i j : Nat) : TG := fun v σ H Q => ∃ a x r, v = .ref a ∧ SqL K H a (x :: r) ∧ ∀ L, H L = none → Q ((σ.set i (some x)).set j (some (.ref L))) (upd H L (.lst r))
theorem pg_star {X : Cx} {i j kk : Nat} {x y : Str} {p1 p2 p3 pos : Pos} (hc : X.calm = true) (hN : X.N.Nodup) (hi : X.N[i]? = some x) (hj : X.N[j]? = some y) (hx : Loc X.env.scope x) (hy : Loc X.env.scope y)
    (hfx : X.fn x = true ∨ X.env.scope.names.lookup x = some .local) (hfy : X.fn y = true ∨ X.env.scope.names.lookup y = some .local) :
    PG X (.Tuple [.Name x p1, .Starred (.Name y p2) p3] kk pos) (gStar X.K i j) := by
  refine ⟨fun pins s σ H v u Q I rv ⟨a, x0, r, ev, hq, q⟩ => ?_⟩
  subst ev
  cases rv
  obtain ⟨its, rs, pl, hz⟩ := I.list hq
  cases rs with
  | cons r1 r2 =>
    rename_i u0 us
    rw [assign_Tuple]
    refine wpAny_bind (wpAny_standAt ?_)
    unfold unpack
    refine wpAny_bind (wpAny_holding ?_)
    show wpAny _ _ (unpackItems (.ref a) 2 (some 1)) _ _ _
    have hlen := r2.length
    refine unpack_star (I.ok.hd hc) pl.isList (by simp only [List.length_cons] at hz ⊢; omega) fun h' tk he => ?_
    have I1 : Inv X pins σ H { s with heap := h', toks := tk } := I.kept fun b o e => he b o (Nat.ne_of_lt (Heap.lt_size e)) e
    have nw : H h'.objs.size = none := I1.hok.fresh (Nat.le_refl _)
    have I2 : Inv X pins σ (upd H h'.objs.size (.lst r)) { s with heap := h'.push { cls := .type "list", data := .seq us.toArray }, toks := tk } := by
      refine I1.laid (fun b o e => Heap.get?_push_of_some _ e) (Nat.le_refl _) ⟨by simp only [List.length_cons] at hz; omega, us, 0, r2, ?_⟩
      exact Heap.get?_push_size _ rfl
    exact (pgs_cons (es := [.Name y p2]) (pg_name (pos := p1) hN hi hx hfx) (pgs_cons (es := []) (pg_name (pos := p2) hN hj hy hfy) pgs_nil)).run pins _ σ _ _ _ Q I2 (.cons r1 (.cons (show RelV (V.ref h'.objs.size) (Value.ref h'.objs.size) from rfl) .nil)) ⟨_, _, rfl, _, _, rfl, rfl, q _ nw⟩
def sStar (i j : Nat) (m : M RV) : MS := sE (fc m) fun d s => match d with
  | .lst (x :: r) => .next { s with sl := (s.sl.set i (some (.fz x))).set j (some (.own (.lst r))) }
  | _ => .stuck
section
variable {X : Cx} {Wx : WX} {e a b c o : Expr} {es : List Expr} {m ma mb mc mo mi : M RV} {x y : Str} {p p1 p2 p3 apos pos pos' : Pos} {i j kk : Nat}
theorem ds_star (hc : X.calm = true) (hN : X.N.Nodup) (hi : X.N[i]? = some x) (hj : X.N[j]? = some y) (hx : Loc X.env.scope x) (hy : Loc X.env.scope y)
    (hfx : X.fn x = true ∨ X.env.scope.names.lookup x = some .local) (hfy : X.fn y = true ∨ X.env.scope.names.lookup y = some .local) (he : DP X Wx e m)
    (hs : swapsWithSole [.Tuple [.Name x p1, .Starred (.Name y p2) p3] kk pos'] e pos.line X.env = pure false := by rfl) (hw : swappedStores [.Tuple [.Name x p1, .Starred (.Name y p2) p3] kk pos'] e X.env = pure none := by rfl) :
    DSt X Wx (.Assign [.Tuple [.Name x p1, .Starred (.Name y p2) p3] kk pos'] e pos) (sStar i j m) := by
  refine ⟨fun pins sh σ H D I ⟨F, G, A, s, h⟩ => ?_⟩
  refine (ps_asg he.fc (pg_star hc hN hi hj hx hy hfx hfy) hs hw rfl).run pins sh σ H D I ⟨F, G, A, s, (AtS.ofM h).mono fun v H1 ⟨G1, A1, s1, d, r1, e1, p1, w1, h1⟩ => ?_⟩
  dsimp only at h1
  split at h1
  · rename_i s' heq
    split at heq
    · rename_i x0 r
      cases heq
      simp only [rD, Rep] at r1
      obtain ⟨a, vs, rfl, ga, rs⟩ := r1
      obtain ⟨v0, vr, rfl, q1, q2⟩ := rs.inv
      refine ⟨a, v0, vr, rfl, w1.sqL (.inl (.inl ga)), fun L hL => ?_⟩
      obtain ⟨w2, l2⟩ := w1.newLone hL q2
      have w3 := w2.setFz (slot_lt I hi) q1
      refine h1 _ G1 _ A1 (w3.setOwn (by simpa using slot_lt I hj) ?_) Ext.refl Pre.refl
      refine ⟨l2.g, l2.f, l2.sh, fun k c e z => ?_, l2.rep⟩
      obtain ⟨b, z1, z2⟩ := w3.own k c e
      rw [z] at z1
      have : L = b := by simpa using z1
      subst this
      have e2 : (s1.sl.set i (some (.fz x0)))[k]? = some (some (.own c)) := e
      by_cases hik : i = k
      · subst hik
        by_cases hl : i < s1.sl.length
        · rw [List.getElem?_set_self hl] at e2; cases e2
        · rw [List.getElem?_eq_none (by simpa using hl)] at e2; cases e2
      · rw [List.getElem?_set_ne hik] at e2
        rw [List.getElem?_set_ne hik] at z
        exact l2.sl k c e2 z
    · cases heq
  all_goals first
    | exact h1.elim
    | (rename_i heq; split at heq <;> cases heq)

/-! ### match -/
def DMc (X : Cx) (Wx : WX) (cs : List MatchCase) (k : List D → MS) : Prop := ∀ (pins : List (Addr × Obj)) (s : Shared) (σ : L2.St) (H : Hp) (a : Addr) (first : Bool) (D : Ends) (F G : Hp) (A : List Addr) (s0 : S) (ds : List DS.D) (vs : List V), Inv X pins σ H s → SqL X.K G a vs → Reps X.K G A ds vs →
  AtS X.K Wx (k ds) F G A σ s0 H D → wpAny (model X.prog X.w) X.A (matchCases cs X.env (.ref a) first) (SP X pins D) X.xe s
theorem mc_any {body : List Stmt} {mb : MS} {rest : List MatchCase} (hb : DSs X Wx body mb) : DMc X Wx (⟨.MatchAs none none p, none, body⟩ :: rest) (fun _ => mb) := by
  intro pins s σ H a first D F G A s0 ds vs I hq rs h
  refine wpAny_matchCases_cons (wpAny_matchPattern_Capture ?_)
  show wpAny _ _ (assignInOrder [] []) _ _ _
  exact wpAny_assignInOrder_none (hb.run pins s σ H D I ⟨F, G, A, s0, h⟩)
theorem items_of {pins : List (Addr × Obj)} {s : Shared} {σ : L2.St} {H : Hp} {F G : Hp} {A : List Addr} {s0 : S} {a : Addr} {vs : List V} (I : Inv X pins σ H s) (w : WS X.K F G H A σ s0) (hq : SqL X.K G a vs) :
    ∃ its : List Value, Vals vs its ∧ s.heap.IsList a its.toArray ∧ ((its.toArray.size : Nat) : Int) < 2 ^ 63 ∧ its.toArray.size = vs.length := by
  obtain ⟨its, rv, pl, hz⟩ := I.list (w.sqL hq)
  have h := rv.length
  have hn := line63
  exact ⟨its, rv, pl.isList, by simp only [List.size_toArray]; omega, by simp [h]⟩
def kSeq1 (i : Nat) (mb : MS) (k : List D → MS) : List D → MS := fun ds s => match ds with
  | [d] => mb { s with sl := s.sl.set i (some (.fz d)) }
  | ds => k ds s
theorem mc_seq1 {body : List Stmt} {mb : MS} {rest : List MatchCase} {k : List D → MS} (hc : X.calm = true) (hN : X.N.Nodup) (hi : X.N[i]? = some x) (hx : Loc X.env.scope x) (hfx : X.fn x = true ∨ X.env.scope.names.lookup x = some .local) (hb : DSs X Wx body mb) (hr : DMc X Wx rest k) :
    DMc X Wx (⟨.MatchSequence [.MatchAs none (some x) p1] p, none, body⟩ :: rest) (kSeq1 i mb k) := by
  intro pins s σ H a first D F G A s0 ds vs I hq rs h
  obtain ⟨its, rv, pl, h63, hsz⟩ := items_of I h.1 hq
  refine wpAny_matchCases_cons ?_
  by_cases hl : vs.length = 1
  · refine matchSeq_list_hit pl h63 (by rw [hsz, hl]; rfl) ?_
    have e1 : ([Pattern.MatchAs none (some x) p1] : List Pattern).length = its.toArray.size := by rw [hsz, hl]; rfl
    rw [e1]
    refine PySem.W.kun_itemsOf (I.ok.hd hc) pl fun h' he => ?_
    have I1 : Inv X pins σ H { s with heap := h', toks := s.toks + 1 + 1 } := I.kept fun b o e => he b o (Nat.ne_of_lt (Heap.lt_size e)) e
    obtain ⟨v, rfl⟩ := List.length_eq_one_iff.mp hl
    cases rv with
    | cons r1 r2 =>
      rename_i u us
      cases r2
      obtain ⟨d, rs2, e2⟩ : ∃ d, ds = [d] ∧ Rep X.K G A d v := by
        cases ds with
        | nil => have := rs.inv0; cases this
        | cons d t =>
          obtain ⟨v', t', e, q1, q2⟩ := rs.inv
          cases e
          cases t with
          | nil => exact ⟨d, rfl, q1⟩
          | cons _ _ => obtain ⟨_, _, e, _⟩ := q2.inv; cases e
      subst rs2
      refine wpAny_matchEach_cons (wpAny_matchPattern_Capture (wpAny_matchEach_nil ?_))
      show wpAny _ _ (assignInOrder [bindName X.env x] [u]) _ _ _
      refine wpAny_assignInOrder_more (wpAny_bindName (store_ok I1 hN hi hx r1 (fun s' I' => wpAny_assignInOrder_none ?_) hfx))
      refine hb.run pins s' _ H D I' ⟨F, G, A, { s0 with sl := s0.sl.set i (some (.fz d)) }, h.1.setFz (slot_lt I hi) e2, ?_⟩
      exact h.2
  · refine matchSeq_list_miss pl h63 (by rw [hsz]; exact hl) ?_
    refine hr pins _ σ H a false D F G A s0 ds vs (I.tok _) hq rs ⟨h.1, ?_⟩
    have h2 := h.2
    unfold kSeq1 at h2
    split at h2
    · rename_i r s' heq
      split at heq
      · exact absurd (by rw [rs.length]; rfl) hl
      · rw [heq]; exact h2
    all_goals
      rename_i heq
      split at heq
      · exact absurd (by rw [rs.length]; rfl) hl
      · rw [heq]; exact h2
def kSeq2 (i j : Nat) (mb : MS) (k : List D → MS) : List D → MS := fun ds s => match ds with
  | [d, d'] => mb { s with sl := (s.sl.set i (some (.fz d))).set j (some (.fz d')) }
  | ds => k ds s
theorem mc_seq2 {body : List Stmt} {mb : MS} {rest : List MatchCase} {k : List D → MS} (hc : X.calm = true) (hN : X.N.Nodup) (hi : X.N[i]? = some x) (hj : X.N[j]? = some y) (hx : Loc X.env.scope x) (hfx : X.fn x = true ∨ X.env.scope.names.lookup x = some .local)
    (hy : Loc X.env.scope y) (hfy : X.fn y = true ∨ X.env.scope.names.lookup y = some .local) (hb : DSs X Wx body mb) (hr : DMc X Wx rest k) :
    DMc X Wx (⟨.MatchSequence [.MatchAs none (some x) p1, .MatchAs none (some y) p2] p, none, body⟩ :: rest) (kSeq2 i j mb k) := by
  intro pins s σ H a first D F G A s0 ds vs I hq rs h
  obtain ⟨its, rv, pl, h63, hsz⟩ := items_of I h.1 hq
  refine wpAny_matchCases_cons ?_
  by_cases hl : vs.length = 2
  · refine matchSeq_list_hit pl h63 (by rw [hsz, hl]; rfl) ?_
    have e1 : ([Pattern.MatchAs none (some x) p1, .MatchAs none (some y) p2] : List Pattern).length = its.toArray.size := by rw [hsz, hl]; rfl
    rw [e1]
    refine PySem.W.kun_itemsOf (I.ok.hd hc) pl fun h' he => ?_
    have I1 : Inv X pins σ H { s with heap := h', toks := s.toks + 1 + 1 } := I.kept fun b o e => he b o (Nat.ne_of_lt (Heap.lt_size e)) e
    obtain ⟨v, v', rfl⟩ : ∃ v v', vs = [v, v'] := by
      match vs, hl with
      | [v, v'], _ => exact ⟨v, v', rfl⟩
    cases rv with
    | cons r1 r2 =>
      rename_i u us
      cases r2 with
      | cons r3 r4 =>
        rename_i u' us'
        cases r4
        obtain ⟨d, d', rs2, e2, e3⟩ : ∃ d d', ds = [d, d'] ∧ Rep X.K G A d v ∧ Rep X.K G A d' v' := by
          cases ds with
          | nil => have := rs.inv0; cases this
          | cons d t =>
            obtain ⟨_, _, e, q1, q2⟩ := rs.inv
            cases e
            cases t with
            | nil => have := q2.inv0; cases this
            | cons d' t =>
              obtain ⟨_, _, e, q3, q4⟩ := q2.inv
              cases e
              cases t with
              | nil => exact ⟨d, d', rfl, q1, q3⟩
              | cons _ _ => obtain ⟨_, _, e, _⟩ := q4.inv; cases e
        subst rs2
        refine wpAny_matchEach_cons (wpAny_matchPattern_Capture (wpAny_matchEach_cons (wpAny_matchPattern_Capture (wpAny_matchEach_nil ?_))))
        show wpAny _ _ (assignInOrder [bindName X.env x, bindName X.env y] [u, u']) _ _ _
        refine wpAny_assignInOrder_more (wpAny_bindName (store_ok I1 hN hi hx r1 (fun s' I' => ?_) hfx))
        refine wpAny_assignInOrder_more (wpAny_bindName (store_ok I' hN hj hy r3 (fun s'' I'' => wpAny_assignInOrder_none ?_) hfy))
        refine hb.run pins s'' _ H D I'' ⟨F, G, A, { s0 with sl := (s0.sl.set i (some (.fz d))).set j (some (.fz d')) }, (h.1.setFz (slot_lt I hi) e2).setFz (by simpa using slot_lt I hj) e3, ?_⟩
        exact h.2
  · refine matchSeq_list_miss pl h63 (by rw [hsz]; exact hl) ?_
    refine hr pins _ σ H a false D F G A s0 ds vs (I.tok _) hq rs ⟨h.1, ?_⟩
    have h2 := h.2
    unfold kSeq2 at h2
    split at h2
    · rename_i r s' heq
      split at heq
      · exact absurd (by rw [rs.length]; rfl) hl
      · rw [heq]; exact h2
    all_goals
      rename_i heq
      split at heq
      · exact absurd (by rw [rs.length]; rfl) hl
      · rw [heq]; exact h2
/-- match e: .., e a list -/
def sMatch (m : M RV) (k : List D → MS) : MS := sE (fc m) fun d s => match d with
  | .lst xs => k xs s
  | _ => .stuck
theorem ds_match {cs : List MatchCase} {k : List D → MS} (he : DP X Wx e m) (hm : DMc X Wx cs k) : DSt X Wx (.Match e cs pos) (sMatch m k) := by
  refine ⟨fun pins sh σ H D I ⟨F, G, A, s, h⟩ => ?_⟩
  refine wpAny_Match (thn (he.fc.run pins sh σ H _ I ⟨F, G, A, s, AtS.ofM h⟩) fun u s1 ⟨v, H1, I1, rv, G1, A1, s2, d, r1, e1, p1, w1, h1⟩ => ?_)
  dsimp only at h1
  cases d with
  | lst xs =>
    simp only [rD, Rep] at r1
    obtain ⟨a, vs, rfl, ga, rs⟩ := r1
    obtain rfl : u = Value.ref a := rv
    exact hm pins s1 σ H1 a true D F G1 A1 s2 xs vs I1 (.inl (.inl ga)) rs ⟨w1, h1⟩
  | _ => exact h1.elim
end
end DS
/-! The data layer, part p: C( *e, k = v). -/
namespace DS
open PySem L2 PySem.Spec PyProof.Rows

section
variable {M : Model} {A : Around} {E : Value → Shared → Prop} {s : Shared}
theorem args_late {f : Value} {x : Sem Value} {pos : Pos} {ks : List (Option Str × Sem Value)} {Q : Args → Shared → Prop} (hall : ks.all (·.1.isSome) = true)
    (h : wpAny M A x (fun v s1 => wpAny M A (evalAll (ks.map (·.2))) (fun ws s2 => PySem.W.StarOf M A E v (fun us s3 => Q ⟨us, (ks.filterMap (·.1)).zip ws⟩ s3) s2) E s1) E s) :
    wpAny M A (evalArgs f true [(true, (do let v ← x; standAt pos; pure v))] ks) Q E s := by
  unfold evalArgs
  refine wpAny_bind (wpAny_bind (wpAny_mono h (fun v s1 h1 => ?_) fun _ _ z => z))
  refine wpAny_bind (wpAny_standAt (wpAny_pure (wpAny_bind (wpAny_pure ?_))))
  refine wpAny_holding ?_
  simp only [hall, if_true]
  refine wpAny_bind (wpAny_mono h1 (fun ws s2 h2 => ?_) fun _ _ z => z)
  unfold PySem.W.StarOf at h2
  refine wpAny_bind (wpAny_bind (wpAny_mono h2 (fun b s3 h3 => ?_) fun _ _ z => z))
  obtain ⟨rfl, h3⟩ := h3
  simp only [Bool.false_eq_true, if_false]
  refine wpAny_bind (wpAny_pure ?_)
  exact wpAny_holding (wpAny_mono h3 (fun us s4 h4 => wpAny_pure h4) fun _ _ z => z)
end

section
variable {M : Model} {A : Around} {E : Value → Shared → Prop} {s : Shared} {K : PySem.W.Frag}
theorem call_late {f : Value} {first : List Value} {args : List (Bool × Sem Value)} {ks : List (Option Str × Sem Value)} {pos : Pos} {Q : Value → Shared → Prop} (hk : PySem.W.keepIn K f = true) (hst : args.any (·.1) = true)
    (h : wpAny M A (evalArgs f true args ks) (fun a s1 => K.In s1.heap ∧ wpAny M A (call f (first ++ a.pos) a.kw) Q E s1) E s) : wpAny M A (callWith pos f first args ks) Q E s := by
  unfold callWith
  refine wpAny_bind (wpAny_holding (wpAny_mono h (fun a s1 h1 => wpAny_bind (wpAny_standAt ?_)) fun _ _ z => z))
  obtain ⟨k, hk', look⟩ := PySem.W.keeps_K (M := M) hk _ h1.1
  rw [hst, Bool.true_or]
  refine wpAny_bind (look.here ?_)
  have last : ∀ {t : Sem Value}, wpAny M A t Q E s1 → wpAny M A (t >>= fun r => holding [r] point >>= fun _ => pure r) Q E s1 :=
    fun ht => wpAny_bind (wpAny_mono ht (fun r s2 hr => wpAny_bind (wpAny_holding (wpAny_point (wpAny_pure hr)))) fun _ _ z => z)
  have marked (mk : Value) : wpAny M A (callMarked mk f (first ++ a.pos) a.kw) Q E s1 := by unfold callMarked; exact Calls.wpAny_keep h1.2
  rcases hk' with rfl | rfl | rfl <;> dsimp only <;> first | exact last (marked _) | exact last (wpAny_operating h1.2)
end
def seqD (d : D) : Option (List D) := match d with
  | .lst xs => some xs
  | .klst xs => some xs
  | .tup xs => some xs
  | _ => none
theorem seqD_ok {K : PySem.W.Frag} {F G H : Hp} {A : List Addr} {σ : L2.St} {s : S} {d : D} {xs : List D} {v : V} (r : Rep K G A d v) (e : seqD d = some xs) : ∃ a vs, v = .ref a ∧ Reps K G A xs vs ∧ ∀ {F G' H' : Hp} {A' : List Addr} {σ : L2.St} {s : S}, WS K F G' H' A' σ s → Ext G G' → SqT K H' a vs ∨ SqL K H' a vs := by
  unfold seqD at e
  split at e
  · cases e
    simp only [Rep] at r
    obtain ⟨a, vs, ev, h, rs⟩ := r
    exact ⟨a, vs, ev, rs, fun w x => .inr (w.sqL (sqL_ext x (.inl (.inl h))))⟩
  · cases e
    simp only [Rep] at r
    obtain ⟨a, vs, ev, h, rs⟩ := r
    exact ⟨a, vs, ev, rs, fun w x => .inr (w.sqL (sqL_ext x h))⟩
  · cases e
    simp only [Rep] at r
    obtain ⟨a, vs, ev, h, rs⟩ := r
    exact ⟨a, vs, ev, rs, fun w x => .inl (w.sqT (sqT_ext x h))⟩
  · cases e
def isCls (C : Addr) (d : D) : M Unit := fun s => match d with
  | .obj (.ref C') => if C' = C then .ok () s else .stuck
  | _ => .stuck
def oSeq (d : D) : M (List D) := fun s => match seqD d with
  | some xs => .ok xs s
  | none => .stuck
/-- c( *e, k = v, ..), c the class C -/
def mMakeS (C : Addr) (φ : Fn) (c a : M RV) (kw : M (List D)) : M RV := fc c >>= fun q => isCls C q >>= fun _ => fc a >>= fun d => oSeq d >>= fun xs => kw >>= fun es => mMakeC C φ (xs ++ es)
section
variable {X : Cx} {Wx : WX} {e a b c : Expr} {es : List Expr} {m ma mb mc : M RV} {mo mk : M (List D)} {x nm : Str} {p p2 apos pos : Pos} {k : Nat} {f C : Addr} {kws : List Str} {φ : Fn}
theorem isCls_at {γ δ : Type} {K : PySem.W.Frag} {Rel2 : Rl γ δ} {F G H : Hp} {A : List Addr} {σ : L2.St} {s : S} {d : D} {v : V} {q : Unit → M γ} {Q : δ → Hp → Prop} (h : At K Wx Rel2 (isCls C d >>= q) F G A σ s H Q) (r : Rep K G A d v) :
    v = .ref C ∧ At K Wx Rel2 (q ()) F G A σ s H Q := by
  have key : isCls C d s = .stuck ∨ (d = .obj (.ref C) ∧ isCls C d s = .ok () s) := by
    unfold isCls
    split
    · rename_i C'
      by_cases hc : C' = C
      · subst hc; exact .inr ⟨rfl, if_pos rfl⟩
      · exact .inl (if_neg hc)
    · exact .inl rfl
  obtain ⟨w, h⟩ := h
  rw [bind_def] at h
  rcases key with e | ⟨e1, e2⟩
  · rw [e] at h; exact h.elim
  · rw [e2] at h
    subst e1
    exact ⟨by simpa only [Rep] using r, w, h⟩
theorem oSeq_at {γ δ : Type} {K : PySem.W.Frag} {Rel2 : Rl γ δ} {F G H : Hp} {A : List Addr} {σ : L2.St} {s : S} {d : D} {q : List D → M γ} {Q : δ → Hp → Prop} (h : At K Wx Rel2 (oSeq d >>= q) F G A σ s H Q) :
    ∃ xs, seqD d = some xs ∧ At K Wx Rel2 (q xs) F G A σ s H Q := by
  obtain ⟨w, h⟩ := h
  rw [bind_def] at h
  unfold oSeq at h
  cases e : seqD d with
  | none => rw [e] at h; exact h.elim
  | some xs => rw [e] at h; exact ⟨xs, rfl, w, h⟩
theorem dp_makeS {kw : List Keyword} (he : DP X Wx (.Name x p) mc) (Mk0 : Mk X.K C f) (F : FnG X.prog X.w X.K X.mg X.base k f kws φ) (hr : RoomG (k + 1) X.A) (tk : Takes X Wx) (ha : DP X Wx a ma) (hkw : DK X Wx kw mk) (hn : ∀ s ds s', mk s = .ok ds s' → ds.length = kws.length)
    (hall : (backToKw pos (keywordEach kw X.env)).all (·.1.isSome) = true := by rfl) (hks : (backToKw pos (keywordEach kw X.env)).filterMap (·.1) = kws := by rfl)
    (hst : starEach [.Starred a p2] X.env = [(true, eval a X.env)] := by rfl) : DP X Wx (.Call (.Name x p) [.Starred a p2] kw pos) (mMakeS C φ mc ma mk) := by
  refine ⟨fun pins s σ H Q I ⟨F0, G, A, s0, h⟩ => ?_⟩
  refine wpAny_Call_Name_kw (thn (he.fc.run pins s σ H _ I ⟨F0, G, A, s0, h.bind⟩) fun u s1 ⟨v, H1, I1, rv, G1, A1, s2, d, r1, e1, p1, h1⟩ => ?_)
  obtain ⟨ev, h1⟩ := isCls_at h1 r1
  subst ev
  obtain rfl : u = Value.ref C := rv
  rw [hst]
  refine call_late (K := X.K) Mk0.kp rfl (args_late hall (thn (ha.fc.run pins s1 σ H1 _ I1 ⟨F0, G1, A1, s2, h1.bind⟩) fun u2 s3 ⟨v2, H2, I2, rv2, G2, A2, s4, d2, r2, e2, p2', h2⟩ => ?_))
  obtain ⟨xs, hx, h2⟩ := oSeq_at h2
  obtain ⟨b, vs, ev2, rs, look⟩ := seqD_ok (F := F0) (H := H2) (σ := σ) (s := s4) r2 hx
  subst ev2
  obtain rfl : u2 = Value.ref b := rv2
  refine thn (hkw.run pos pins s3 σ H2 _ I2 ⟨F0, G2, A2, s4, h2.bindE⟩) fun ws s5 ⟨zs, H3, I3, rz, G3, A3, s6, es', em, r3, e3, p3, h3⟩ => ?_
  refine StX.star_any I3 (look h3.1 e3) fun us s7 I4 rus => ⟨I4.kIn, ?_⟩
  rw [hks]
  refine run_makeG (us := us) (ws := ws) Mk0 F hr tk I4 (vals_app rus rz) (by rw [← rz.length, r3.length]; exact hn _ _ _ em) h3 ((Reps.mono e3 p3 xs rs).append r3) fun hc => make_map (f := f) I4.kIn Mk0.makes Mk0.init (beq_iff_eq.mp Mk0.fn) hc
end

/-! ### def f(a, *v, q) -/
theorem vals_snoc {q : Value} : ∀ {ut : List Value} {vt : List V}, Vals vt (ut ++ [q]) → ∃ vm vq, vt = vm ++ [vq] ∧ Vals vm ut ∧ RelV vq q
  | [], _, .cons r .nil => ⟨[], _, rfl, .nil, r⟩
  | _ :: ut, _, .cons r rr => by
    obtain ⟨vm, vq, rfl, h1, h2⟩ := vals_snoc rr
    exact ⟨_ :: vm, vq, rfl, .cons r h1, h2⟩
theorem reps_snoc {K : PySem.W.Frag} {G : Hp} {A : List Addr} {vq : V} : ∀ {vm : List V} {dt : List D}, Reps K G A dt (vm ++ [vq]) → ∃ dm dq, dt = dm ++ [dq] ∧ Reps K G A dm vm ∧ Rep K G A dq vq
  | [], [], r => by have := r.inv0; simp at this
  | [], d :: t, r => by
    obtain ⟨v, w, e, r1, r2⟩ := r.inv
    simp only [List.nil_append, List.cons.injEq] at e
    obtain ⟨rfl, rfl⟩ := e
    cases t with
    | nil => exact ⟨[], d, rfl, Reps.nil, r1⟩
    | cons d' t' => obtain ⟨_, _, e, _⟩ := r2.inv; cases e
  | v :: vm, [], r => by have := r.inv0; simp at this
  | v :: vm, d :: t, r => by
    obtain ⟨v', w, e, r1, r2⟩ := r.inv
    simp only [List.cons_append, List.cons.injEq] at e
    obtain ⟨rfl, rfl⟩ := e
    obtain ⟨dm, dq, rfl, h1, h2⟩ := reps_snoc r2
    exact ⟨d :: dm, dq, rfl, Reps.cons r1 h1, h2⟩
def skFn (N : Nat) (m : MS) : Fn := fun ds cs => match ds with
  | d :: t => match t.getLast? with
    | some q => if t.length ≤ sizeLine then runDef 3 N m [d, q, .tup t.dropLast] cs else .stuck
    | none => .stuck
  | [] => .stuck
section
variable {P : Program} {w : World} {K : PySem.W.Frag} {mg : Str → Option Value} {base : Heap} {k : Nat} {f : Addr} {name qual : Str} {params : Arguments} {body : List Stmt} {scope : Scope} {dV kV doc pm cdv ct oc : Value} {an od : Option Addr}
  {osl : Array (Option Value)} {N : List Str} {m : MS}
theorem fnG_sk {pa pq pv : Str} (lk : K.lookup f = some ⟨oc, od, .func (PySem.W.fnOf name qual params body scope dV kV doc pm an cdv ct), osl⟩) (hcd : PySem.W.codeIn K cdv qual = true) (S : FnScope N [pa, pq, pv] scope)
    (hb : ∀ (a q : Value) (rest : List Value), bindArgs (PySem.W.fnOf name qual params body scope dV kV doc pm an cdv ct) ⟨a :: rest, [(pq, q)]⟩ = (newTuple rest >>= fun t => pure [(pa, a), (pq, q), (pv, t)]))
    (hbody : ∀ (A : Around) (outer : List Env) (s : Shared) (H : Hp) (E : XK), RoomG k (A.deeper (envOfC qual scope s.heap.objs.size f cdv)) →
      DSs (cxOf (L2.CX P w) P w K mg base N qual scope f cdv A outer s H E) (fun cls d _ H => E cls d H) body m) : FnG P w K mg base (k + 1) f [pq] (skFn N.length m) := by
  intro A outer s H us ws vs Q E hr e0 r hl ⟨F, G, Ad, cs, ds, w0, rs, h⟩
  obtain ⟨q, rfl⟩ := List.length_eq_one_iff.mp hl
  cases us with
  | nil =>
    cases r with
    | cons r1 r2 =>
      cases r2
      cases ds with
      | nil => exact h.elim
      | cons d t =>
        obtain ⟨_, _, e, _, r4⟩ := rs.inv
        cases e
        cases t with
        | nil => exact h.elim
        | cons _ _ => obtain ⟨_, _, e, _⟩ := r4.inv; cases e
  | cons u ut =>
    cases r with
    | cons r1 r2 =>
      rename_i v0 vt
      obtain ⟨vm, vq, rfl, hm, hq⟩ := vals_snoc r2
      cases ds with
      | nil => exact h.elim
      | cons d t =>
        obtain ⟨_, _, e, q1, q2⟩ := rs.inv
        cases e
        obtain ⟨dm, dq, rfl, q3, q4⟩ := reps_snoc q2
        unfold skFn at h
        simp only [List.getLast?_append, List.getLast?_singleton, Option.some_or, List.dropLast_concat] at h
        by_cases hz : (dm ++ [dq]).length ≤ sizeLine
        · rw [if_pos hz] at h
          have hzm : vm.length ≤ sizeLine := by rw [q3.length]; simp only [List.length_append, List.length_singleton] at hz; omega
          have hzu : ut.length ≤ sizeLine := by rw [← hm.length]; exact hzm
          have hn : H s.heap.objs.size = none := e0.hok.fresh (Nat.le_refl _)
          refine StX.run_bnd lk hcd S hr.r e0 (G := fun xs H2 => ∃ y, H y = none ∧ xs = [v0, vq, V.ref y] ∧ H2 = upd H y (.tup vm)) (fun A' Ex Q' hq' => ?_) fun s2 H2 xs ⟨y, hy, ex, eH⟩ hr' => ?_
          · show wpAny _ _ (bindArgs _ ⟨u :: ut, [(pq, q)]⟩) _ _ _
            rw [hb u q ut]
            refine wpAny_bind (wpAny_newTuple (wpAny_pure ?_) hzu)
            have new : ObjOk P w (upd H s.heap.objs.size (.tup vm)) (s.heap.push ({ cls := .type "tuple", data := .seq ut.toArray } : Obj)) s.heap.objs.size (.tup vm) := ⟨hzm, ut, hm, ⟨_, Heap.get?_push_size _ rfl, rfl, _, rfl⟩⟩
            have un := StX.un_laid (fs := frs outer) (s := s) (o := ({ cls := .type "tuple", data := .seq ut.toArray } : Obj)) (u := .tup vm) hn
            exact hq' _ _ [v0, vq, V.ref s.heap.objs.size] [u, q, Value.ref s.heap.objs.size] (StX.env0_laid e0 new) un rfl (fun e s' => StX.cxUp outer s H _ _ E e s' un (fun b o q => Heap.get?_push_of_some _ q) rfl) (.cons r1 (.cons hq (.cons (show RelV (V.ref s.heap.objs.size) (Value.ref s.heap.objs.size) from rfl) .nil))) rfl ⟨_, hn, rfl, rfl⟩
          · subst ex eH
            obtain ⟨w2, x2⟩ := w0.newFz (o := .tup vm) hy
            refine body_owes (ps := [pa, pq, pv]) (hbody A outer s2 _ E (hr.deeper _)) ⟨F, _, Ad, cs, [d, dq, .tup dm], w2, ?_, ?_⟩
            · refine Reps.cons (Rep.mono x2 Pre.refl _ q1) (Reps.cons (Rep.mono x2 Pre.refl _ q4) (Reps.cons ?_ Reps.nil))
              simp only [Rep]
              exact ⟨y, vm, rfl, .inl (.inl upd_same), q3.mono x2 Pre.refl⟩
            · revert h
              cases hrd : runDef 3 N.length m [d, dq, .tup dm] cs with
              | ok r cs' => exact fun h v G' H' A' w' q e p => h v G' H' A' w' q (x2.trans e) p
              | exn x cs' => exact fun h cls d G' H' A' w' q e p => h cls d G' H' A' w' q (x2.trans e) p
              | stuck => exact fun h => h.elim
        · rw [if_neg hz] at h; exact h.elim
end
end DS
/-! The data layer, part q: the law's end. -/
namespace DS
open PySem L2 PySem.Spec PyProof.Rows

theorem vals_dInts : ∀ {us : List Value} {ns : List Int}, IntsAre us ns → Vals (ns.map V.int) us
  | _, _, .nil => .nil
  | _, _, .cons n t h => .cons ⟨t, rfl⟩ (vals_dInts h)
/-- the law's answer -/
def LawTrue (φ : Fn) (n : Nat) : Prop := ∀ ns : List Int, ns.length ≤ n → ∃ cs, φ [.klst (ns.map D.int)] [] = .ok (.val (.bl true)) cs
section
variable {P : Program} {w : World} {K : PySem.W.Frag} {mg mb : Str → Option Value} {k n : Nat} {fa a : Addr} {φ : Fn} {s1 : Shared} {us : List Value} {ns : List Int}
theorem run_lawG (Ht : Hp) (hT : Ht = (fun _ => none) ∨ ((∀ b, b ≠ a → Ht b = none) ∧ ∃ o, Ht a = some (.frz o (.lst (ns.map V.int)))) )
    (hS : SqL K Ht a (ns.map V.int)) (hok : HOk P w Ht s1.heap) (hK : Ht a ≠ none → K.lookup a = none)
    (KX : K.In s1.heap) (hns : s1.heap.Ns mainGlobals mg) (hb : s1.heap.Ns builtinsNs mb) (hbb : ∀ x : Str, x ≠ "__name__" → mb x = bootBuiltins x) (hlim : s1.heap.NoLimit) (hg : s1.gens = #[])
    (ha : s1.heap.get? a = some { cls := .type "list", data := .seq us.toArray }) (hr : RoomG k callerA) (F : ∀ base : Heap, K.In base → base.Ns mainGlobals mg → FnG P w K mg base k fa [] φ) (hφ : LawTrue φ n) (hl : ns.length ≤ n) :
    codeAny (model P w) callerA (.call (.ref fa) ⟨[.ref a], []⟩) (fun r s' => r = .ok (.ret (.bool true)) ∧ OldK s1.heap s'.heap ∧ s'.os = s1.os ∧ AllBare s'.gens) s1 := by
  have only : ∀ b u, Ht b = some u → b = a := fun b u e => by
    rcases hT with z | ⟨z, _⟩
    · subst z; cases e
    · exact Classical.byContradiction fun q => by rw [z b q] at e; cases e
  have up : ∀ {b : Addr} {o : Obj}, s1.heap.get? b = some o → Ht b = none → (hidT s1.heap Ht).get? b = some o := fun e z => hidT_get e z
  have dictNo : ∀ {b : Addr} {o : Obj} {es : Array DictEntry} {ep : Nat}, s1.heap.get? b = some o → o.data = .dict es ep → Ht b = none := fun {b o es ep} e d => by
    cases q : Ht b with
    | none => rfl
    | some u =>
      obtain rfl := only b u q
      rw [ha] at e; cases e
      exact absurd d (fun z => nomatch z)
  have nsUp : ∀ {b : Addr} {m : Str → Option Value}, s1.heap.Ns b m → (hidT s1.heap Ht).Ns b m := fun {b m} ⟨o, es, ep, e, d, r⟩ => ⟨o, es, ep, up e (dictNo e d), d, r⟩
  have Kb : K.In (hidT s1.heap Ht) := fun b o e => up (KX b o e) (by
    cases q : Ht b with
    | none => rfl
    | some u =>
      obtain rfl := only b u q
      rw [hK (by rw [q]; simp)] at e; cases e)
  have hM : Mod K mg (hidT s1.heap Ht) := ⟨Kb, nsUp hns, ⟨mb, nsUp hb, hbb⟩, let ⟨mc, h1, h2⟩ := hlim; ⟨mc, nsUp h1, h2⟩⟩
  have e0 : Env0 P w K mg (hidT s1.heap Ht) callerA [] s1 Ht := ⟨rfl, hM, fun b o e => of_hidT e, Nat.le_of_eq (hidT_size _ _), trivial, fun b hb => absurd (show b ∈ ([] : List Addr) from hb) (by simp), hok, .of_eq hg⟩
  obtain ⟨cs, hcs⟩ := hφ ns hl
  have sp : spD K φ [.ref a] Ht (fun v _ => v = .bl true) (fun _ _ _ => False) := by
    have w0 : WS K (fun _ => none) Ht Ht [] [] ⟨[], []⟩ := by
      refine ⟨fun b o e => .inl e, fun b o e => ?_, rfl, List.nodup_nil, fun i c b e => ?_, fun i d e => ?_, fun i c e => ?_, fun i j c d b _ e => ?_⟩
      · cases e
      all_goals simp at e
    refine ⟨fun _ => none, Ht, [], [], [.klst (ns.map D.int)], w0, ?_, ?_⟩
    · refine Reps.cons ?_ Reps.nil
      simp only [Rep]
      exact ⟨a, _, rfl, hS, Reps.ints ns⟩
    · rw [hcs]
      intro v G' H' A' w' q e p
      simpa only [RF, Rep] using q
  refine codeAny_mono (F _ Kb (nsUp hns) callerA [] s1 Ht [.ref a] [] [.ref a] _ _ hr e0 (.cons rfl .nil) rfl sp) fun r s' h => ?_
  cases r with
  | error e =>
    obtain ⟨_, _, _, _, _, _, _, _, _, _, _, _, z⟩ := h
    exact z.elim
  | ok fl =>
    cases fl with
    | next => exact h.elim
    | brk => exact h.elim
    | cont => exact h.elim
    | ret u =>
      obtain ⟨v, H', os, bare, un, hok', r', q⟩ := h
      have ev : v = .bl true := q
      subst ev
      obtain rfl : u = Value.bool true := r'
      refine ⟨rfl, OldK.of_keep fun b o e => ?_, os, bare⟩
      cases q : Ht b with
      | none => exact un.keep b o e q (by intro z; exact absurd (show b ∈ ([] : List Addr) from z) (by simp)) (by simp)
      | some u =>
        rcases hT with z | ⟨_, ob, z⟩
        · subst z; cases q
        · obtain rfl := only b u q
          obtain ⟨e1, _⟩ := hok b _ z
          obtain ⟨e2, _⟩ := hok' b _ (un.frzs b ob _ z)
          rw [e] at e1; cases e1
          exact e2
theorem law_callG (KX : K.In s1.heap) (hns : s1.heap.Ns mainGlobals mg) (hb : s1.heap.Ns builtinsNs mb) (hbb : ∀ x : Str, x ≠ "__name__" → mb x = bootBuiltins x) (hlim : s1.heap.NoLimit) (hg : s1.gens = #[])
    (ha : s1.heap.get? a = some { cls := .type "list", data := .seq us.toArray }) (hi : IntsAre us ns) (hz : ns.length ≤ sizeLine) (hr : RoomG k callerA) (F : ∀ base : Heap, K.In base → base.Ns mainGlobals mg → FnG P w K mg base k fa [] φ) (hφ : LawTrue φ n) (hl : ns.length ≤ n) :
    codeAny (model P w) callerA (.call (.ref fa) ⟨[.ref a], []⟩) (fun r s' => r = .ok (.ret (.bool true)) ∧ OldK s1.heap s'.heap ∧ s'.os = s1.os ∧ AllBare s'.gens) s1 := by
  have rv := vals_dInts hi
  cases hk : K.lookup a with
  | some o =>
    have e := KX a o hk
    rw [ha] at e
    cases e
    refine run_lawG (fun _ => none) (.inl rfl) (.inr ⟨_, us.toArray, _, hk, rfl, rfl, rfl, by rw [List.size_toArray, hi.length]; exact hz, by simpa using rv⟩) (fun b u z => nomatch z) (fun z => absurd rfl z) KX hns hb hbb hlim hg ha hr F hφ hl
  | none =>
    have eq : ∀ (u : HO), (fun b => if b = a then some u else none : Hp) a = some u := fun u => if_pos rfl
    refine run_lawG (fun b => if b = a then some (.frz { cls := .type "list", data := .seq us.toArray } (.lst (ns.map V.int))) else none) (.inr ⟨fun b q => if_neg q, _, if_pos rfl⟩) (.inl (.inr ⟨{ cls := .type "list", data := .seq us.toArray }, if_pos rfl⟩)) (fun b u z => ?_) (fun _ => hk) KX hns hb hbb hlim hg ha hr F hφ hl
    by_cases q : b = a
    · subst q
      have z' := (if_pos rfl).symm.trans z
      cases z'
      exact ⟨ha, by rw [List.length_map]; exact hz, us, _, rv, ha⟩
    · have z' := (if_neg q).symm.trans z
      cases z'
end
theorem walk_G {l : PySem.W.OpenLaw} {n k : Nat} {q : Program} {loose : List Str} {XP : (Str → Option Value) → Heap → Prop} {YP : World → Heap → Prop} {d : DefRec} {K : Params → PySem.W.Frag} {φ : Fn} (hn : l.most = some n) (hn2 : n ≤ sizeLine) (hdf : d.params.defaults = []) (hr : RoomG k callerA)
    (hY : ∀ (w : World) (h : Heap), YP w h → (K w.params).In h)
    (F : ∀ (w : World) (mg : Str → Option Value) (fa : Addr) (h : Heap), (K w.params).In h → h.Ns mainGlobals mg → mg d.name = some (.ref fa) →
      ∀ base : Heap, (K w.params).In base → base.Ns mainGlobals mg → FnG l.prog w (K w.params) mg base k fa [] φ) (hφ : LawTrue φ n) :
    PySem.W.WalkO q loose XP YP l.row.toRowW d [] (fun f vs => PySem.call f vs) := by
  refine Att.attach_call hn hdf fun w s0 s1 mg mb fa o pm cd doc a vs ns G Y ho hd hcd hmg hobj hints hlen hg => ?_
  exact law_callG (hY w _ Y) G.T.g G.T.b G.T.builtins G.T.nolimit hg hobj hints (Nat.le_trans hlen hn2) hr (F w mg fa _ (hY w _ Y) G.T.g hmg) hφ hlen
/-- where K hangs on the world's parameters, so may the promise -/
theorem walk_GP {l : PySem.W.OpenLaw} {n k : Nat} {q : Program} {loose : List Str} {XP : (Str → Option Value) → Heap → Prop} {YP : World → Heap → Prop} {d : DefRec} {K : Params → PySem.W.Frag} (hn : l.most = some n) (hn2 : n ≤ sizeLine) (hdf : d.params.defaults = []) (hr : RoomG k callerA)
    (hY : ∀ (w : World) (h : Heap), YP w h → (K w.params).In h)
    (F : ∀ (w : World) (mg : Str → Option Value) (fa : Addr) (h : Heap), (K w.params).In h → h.Ns mainGlobals mg → mg d.name = some (.ref fa) →
      ∃ φ, LawTrue φ n ∧ ∀ base : Heap, (K w.params).In base → base.Ns mainGlobals mg → FnG l.prog w (K w.params) mg base k fa [] φ) :
    PySem.W.WalkO q loose XP YP l.row.toRowW d [] (fun f vs => PySem.call f vs) := by
  refine Att.attach_call hn hdf fun w s0 s1 mg mb fa o pm cd doc a vs ns G Y ho hd hcd hmg hobj hints hlen hg => ?_
  obtain ⟨φ, hφ, F2⟩ := F w mg fa _ (hY w _ Y) G.T.g hmg
  exact law_callG (hY w _ Y) G.T.g G.T.b G.T.builtins G.T.nolimit hg hobj hints (Nat.le_trans hlen hn2) hr F2 hφ hlen
theorem room_caller {k : Nat} (h : Room k callerA) : RoomG k callerA := ⟨h, rfl⟩
end DS
/-! The data layer, part r: unary minus; == of instances. -/
namespace DS
open PySem L2 PySem.Spec PyProof.Rows

def mNeg (m : M RV) : M RV := fz m >>= fun o => match o with
  | .val (.int i) => pure (.opd (.val (.int (-i))))
  | _ => M.stuck
section
variable {X : Cx} {Wx : WX} {e a b : Expr} {m : M RV} {pos : Pos}
theorem dp_neg (h : DP X Wx e m) : DP X Wx (.UnaryOp .USub e pos) (mNeg m) := by
  refine PE.imp (pe_un un_neg h.fz) fun σ H Q ⟨F, G, A, s, h⟩ => ⟨F, G, A, s, h.bind.mono fun v H1 ⟨G1, A1, s1, o, r1, e1, p1, h1⟩ => ?_⟩
  cases o with
  | bor i => exact h1.2.elim
  | val d =>
    cases d with
    | int i =>
      have ev : v = .int i := by simpa only [rO, RO, Rep] using r1
      subst ev
      exact ⟨i, rfl, h1.pure h1.1 Ext.refl Pre.refl (by simp only [rP, RP, RO, Rep])⟩
    | _ => exact h1.2.elim
end

/-! ### two instances -/
section
variable {M : Model} {prog : Program} {w : World} {A : Around} {E : Value → Shared → Prop} {s : Shared} {K : PySem.W.Frag} {x y C : Addr} {ox oy : Obj} {od od' : Option Obj}
theorem same_no {R : Bool → Shared → Prop} (hne : x ≠ y) (I : PySem.W.InstAt s.heap x ox C od) (J : PySem.W.InstAt s.heap y oy C od') (h : R false s) : wpAny M A (isSame (.ref x) (.ref y)) R E s := by
  have hb : (x == y) = false := beq_false_of_ne hne
  obtain ⟨c1, d1, dt1, sl1⟩ := ox
  obtain ⟨c2, d2, dt2, sl2⟩ := oy
  have e1 : c1 = .ref C := I.cls
  have e2 : c2 = .ref C := J.cls
  subst e1 e2
  unfold isSame
  dsimp only
  rw [hb]
  simp only [Bool.false_eq_true, if_false]
  refine wpAny_bind (wpAny_load I.at_ (wpAny_bind (wpAny_load J.at_ ?_)))
  exact wpAny_pure h
theorem objEq_two {Q : Value → Shared → Prop} (hne : x ≠ y) (X : K.In s.heap) (I : PySem.W.InstAt s.heap x ox C od) (J : PySem.W.InstAt s.heap y oy C od') (hm : PySem.W.mroIn K C (.type "object") = some true) (hq : Q .notImplemented s) :
    wpAny (model prog w) A (call (.builtin "object.__eq__") [.ref x, .ref y]) Q E s := by
  refine wpAny_call (codeAny_call_builtin PySem.F.cmp_object.eq.plain PySem.F.cmpEntry_eq (PySem.W.check_slot PySem.F.cmpKind_eq PySem.F.cmpSplit_eq (I.type.andThen (PySem.W.looks_mroIn X hm)) (PySem.F.cmpArgs_eq _ _) ?_))
  unfold Builtin.«object.__eq__»
  repeat (first | with_reducible refine same_no hne I J ?_ | wp_step)
  exact hq
theorem rc_two (hne : x ≠ y) (hu : A.units < cLine) (X : K.In s.heap) (I : PySem.W.InstAt s.heap x ox C od) (J : PySem.W.InstAt s.heap y oy C od') (hm : PySem.W.mroIn K C (.type "object") = some true) (hs : PySem.W.findIn K (.ref C) "__eq__" = some (some (.builtin "object.__eq__"))) :
    SeqAt.RcAt A s (.ref x) (.ref y) false := fun prog w E Q h => by
  have try1 : ∀ {a b : Addr} {oa ob : Obj} {da db : Option Obj}, a ≠ b → PySem.W.InstAt s.heap a oa C da → PySem.W.InstAt s.heap b ob C db → wpAny (model prog w) A (tryCompare (.ref a) "__eq__" (.ref b)) (fun r s' => r = none ∧ s' = s) E s := by
    intro a b oa ob da db n I J
    unfold tryCompare
    exact wpAny_bind (HN.ifBound_objEq X I hs (objEq_two n X I J hm (wpAny_pure ⟨rfl, rfl⟩)))
  simp only [richCompare, cmpInfo_Eq, oneThing_ref]
  refine wpAny_holding (wpAny_bind (wpAny_cRoomFor hu ?_))
  refine wpAny_bind (I.type.here ?_)
  refine wpAny_bind (J.type.here ?_)
  split
  · rename_i q
    exact absurd q (by simp)
  · refine wpAny_bind (wpAny_pure ?_)
    simp only [Bool.false_eq_true, if_false, Bool.not_false, if_true]
    refine wpAny_bind (m := tryCompare (.ref x) _ (.ref y)) (wpAny_mono (try1 hne I J) (fun r s1 z => ?_) fun _ _ e => e)
    obtain ⟨z1, z2⟩ := z
    subst z1
    subst z2
    refine wpAny_bind (m := tryCompare (.ref y) _ (.ref x)) (wpAny_mono (try1 (Ne.symm hne) J I) (fun r s2 z => ?_) fun _ _ e => e)
    obtain ⟨z1, z2⟩ := z
    subst z1
    subst z2
    exact wpAny_bind (wpAny_rule (wpAny_bind (same_no hne I J (wpAny_pure h))))
end
def rEqI (K : PySem.W.Frag) (C : Addr) : R2 := fun x y H Q => ∃ a b dx dy fs gs, x = .ref a ∧ y = .ref b ∧ a ≠ b ∧ H a = some (.ins C dx fs) ∧ H b = some (.ins C dy gs) ∧ Q (.bl false) H
theorem op_eqI {X : Cx} {C : Addr} (hu : X.A.units + 64 < cLine) (hm : PySem.W.mroIn X.K C (.type "object") = some true) (hs : PySem.W.findIn X.K (.ref C) "__eq__" = some (some (.builtin "object.__eq__"))) : OpR X (compareOp .Eq) (rEqI X.K C) := by
  intro pins s σ H x y v u Q I rx ry ⟨a, b, dx, dy, fs, gs, ex, ey, hne, ha, hb, q⟩
  subst ex ey
  cases rx
  cases ry
  obtain ⟨_, O1, _⟩ := ins_get I.hok ha
  obtain ⟨_, J1, _⟩ := O1.look
  obtain ⟨_, O2, _⟩ := ins_get I.hok hb
  obtain ⟨_, J2, _⟩ := O2.look
  exact rc_two hne (by omega) I.kIn J1 J2 hm hs _ _ _ _ ⟨.bl false, H, I, rfl, q⟩
/-- two instances of C, not the same -/
def fEqI (C : Addr) : S → O → O → Option NV := fun s x y => match x, y with
  | .val (.ref n), .val (.ref m) => match s.cs[n]?, s.cs[m]? with
    | some (.ins C1 _), some (.ins C2 _) => if n ≠ m ∧ C1 = C ∧ C2 = C then some (vB false) else none
    | _, _ => none
  | _, _ => none
theorem op2_eqI {K : PySem.W.Frag} {C : Addr} : Op2 K (fEqI C) (rEqI K C) := by
  intro F G H A σ s x y v u n Q w rx ry e q
  unfold fEqI at e
  split at e
  · rename_i i j
    split at e
    · rename_i C1 f1 C2 f2 h1 h2
      split at e
      · rename_i hc
        obtain ⟨hne, rfl, rfl⟩ := hc
        cases e
        simp only [RO, Rep] at rx ry
        obtain ⟨a, rfl, ea⟩ := rx
        obtain ⟨b, rfl, eb⟩ := ry
        obtain ⟨dx, fv, g1, _⟩ := cell_of w h1 ea
        obtain ⟨dy, gv, g2, _⟩ := cell_of w h2 eb
        refine ⟨a, b, dx, dy, fv, gv, rfl, rfl, fun z => ?_, g1, g2, q _ (by simp only [RO, Rep])⟩
        subst z
        obtain ⟨l1, q1⟩ := List.getElem?_eq_some_iff.mp ea
        obtain ⟨l2, q2⟩ := List.getElem?_eq_some_iff.mp eb
        exact hne ((List.getElem_inj w.nd).mp (q1.trans q2.symm))
      · cases e
    · cases e
  · cases e
end DS
/-! The data layer, part s: the rules, packed for a printer. -/
namespace DS
open PySem L2 PySem.Spec PyProof.Rows

/-- a op b is worth f -/
def BinK (X : Cx) (op : Operator) (f : S → O → O → Option NV) : Prop := ∃ r, OpR X (binaryOp op) r ∧ Op2 X.K f r
def CmpK (X : Cx) (op : CmpOp) (f : S → O → O → Option NV) : Prop := ∃ r, OpR X (compareOp op) r ∧ Op2 X.K f r
section
variable {X : Cx} {Wx : WX} {e a b c : Expr} {es : List Expr} {m ma mb mc : M RV} {mo : M (List D)} {x : Str} {p apos pos : Pos} {op op' : Operator} {cp cp' : CmpOp} {f g : S → O → O → Option NV}
theorem kAdd : BinK X .Add fAdd := ⟨_, (op_add.or op_add_str).or (op_cat.or op_catT), op2_add⟩
theorem kSub : BinK X .Sub fSub := ⟨_, op_sub, op2_sub⟩
theorem kMod : BinK X .Mod fMod := ⟨_, op_mod, op2_mod⟩
theorem kDiv : BinK X .FloorDiv fDiv := ⟨_, op_fdivW, op2_div⟩
theorem kMul : BinK X .Mult fMul := ⟨_, op_mul.or op_mulW, op2_mul⟩
theorem kPow : BinK X .Pow fPow := ⟨_, op_powW, op2_pow⟩
abbrev pLt : Int → Int → Bool := fun i j => decide (i < j)
abbrev pLe : Int → Int → Bool := fun i j => decide (i ≤ j)
abbrev pGt : Int → Int → Bool := fun i j => decide (j < i)
abbrev pGe : Int → Int → Bool := fun i j => decide (j ≤ i)
theorem kLt : CmpK X .Lt (fCmp pLt) := ⟨_, op_lt, op2_cmp⟩
theorem kLe : CmpK X .LtE (fCmp pLe) := ⟨_, op_le, op2_cmp⟩
theorem kGt : CmpK X .Gt (fCmp pGt) := ⟨_, op_gt, op2_cmp⟩
theorem kGe : CmpK X .GtE (fCmp pGe) := ⟨_, op_ge, op2_cmp⟩
theorem kEq (hu : X.A.units + 64 < cLine) : CmpK X .Eq fEq := ⟨_, op_eq.or (op_eqD hu), op2_eq⟩
theorem kNe (hu : X.A.units + 64 < cLine) : CmpK X .NotEq fNe := ⟨_, op_ne.or (op_neD hu), op2_ne⟩
theorem kEqI {C : Addr} (hu : X.A.units + 64 < cLine) (hm : PySem.W.mroIn X.K C (.type "object") = some true) (hs : PySem.W.findIn X.K (.ref C) "__eq__" = some (some (.builtin "object.__eq__"))) : CmpK X .Eq (fEqI C) := ⟨_, op_eqI hu hm hs, op2_eqI⟩
theorem kIn : CmpK X .In fIn := ⟨_, op_in_seq.or op_in_sign, op2_in⟩
theorem kNotIn : CmpK X .NotIn fNotIn := ⟨_, op_notIn_seq, fInF_ok⟩
theorem kIs : CmpK X .Is (fIsN false) := ⟨_, op_isN, fIsN_ok⟩
theorem kIsNot : CmpK X .IsNot (fIsN true) := ⟨_, op_notN, fIsN_ok⟩
theorem bBin (h : BinK X op f) (ha : DP X Wx a ma) (hb : DP X Wx b mb) : DP X Wx (.BinOp a op b pos) (mBin f ma mb) := let ⟨_, h1, h2⟩ := h; dp_bin h1 h2 ha hb
theorem bCmp (h : CmpK X cp f) (ha : DP X Wx a ma) (hb : DP X Wx b mb) (hm : behindInMarks cp b = false := by rfl) : DP X Wx (.Compare a [cp] [b] pos) (mBin f ma mb) := let ⟨_, h1, h2⟩ := h; dp_cmp h1 h2 ha hb hm
theorem tCmp (h : CmpK X cp f) (ha : DP X Wx a ma) (hb : DP X Wx b mb) (hm : behindInMarks cp b = false := by rfl) : DT X Wx (.Compare a [cp] [b] pos) (mCmpB f ma mb) := let ⟨_, h1, h2⟩ := h; dt_cmp h1 h2 ha hb hm
theorem bChain (h : CmpK X cp f) (h' : CmpK X cp' g) (ha : DP X Wx a ma) (hb : DP X Wx b mb) (hc : DP X Wx c mc) (hm : lastMarks [cp, cp'] [b, c] = false := by rfl) : DP X Wx (.Compare a [cp, cp'] [b, c] pos) (mChain f g ma mb mc) :=
  let ⟨_, h1, h2⟩ := h; let ⟨_, h3, h4⟩ := h'; dp_chain h1 h2 h3 h4 ha hb hc hm
theorem tChain (h : CmpK X cp f) (h' : CmpK X cp' g) (ha : DP X Wx a ma) (hb : DP X Wx b mb) (hc : DP X Wx c mc) (hm : lastMarks [cp, cp'] [b, c] = false := by rfl) : DT X Wx (.Compare a [cp, cp'] [b, c] pos) (mChainB f g ma mb mc) :=
  let ⟨_, h1, h2⟩ := h; let ⟨_, h3, h4⟩ := h'; dt_chain h1 h2 h3 h4 ha hb hc hm
theorem bIx (ha : DP X Wx a ma) (hb : DP X Wx b mb) (hs : PlainIx b := by intro _ _; rfl) : DP X Wx (.Subscript a b pos) (mBin fIx ma mb) := dp_ix ha hb hs
end
/-! ### built-in functions -/
section
variable {X : Cx} {Wx : WX} {e a b c : Expr} {es : List Expr} {m ma mb mc : M RV} {x : Str} {p apos pos : Pos}
abbrev o1 (m : M RV) : M (List O) := oCons m oNil
theorem b1 {id : String} {f : S → List O → Option NV} {r : List V → Hp → VK → Prop} (hc : CallR X (.builtin id) r) (hf : OpN X.K f r) (hg : Gl X x) (hm : X.mg x = none) (hv : bootBuiltins x = some (.builtin id)) (ha : DP X Wx a ma)
    (hn : x ≠ "__name__" := by decide) (hdb : (x == ("__debug__" : Str)) = false := by decide) (he : starEach [a] X.env = (false, eval a X.env) :: starEach [] X.env := by rfl) : DP X Wx (.Call (.Name x p) [a] [] pos) (fnN f (o1 ma)) :=
  dp_blt hc hf hg hm hv (dao_cons ha dao_nil he) hn hdb he rfl
theorem b2 {id : String} {f : S → List O → Option NV} {r : List V → Hp → VK → Prop} (hc : CallR X (.builtin id) r) (hf : OpN X.K f r) (hg : Gl X x) (hm : X.mg x = none) (hv : bootBuiltins x = some (.builtin id)) (ha : DP X Wx a ma) (hb : DP X Wx b mb)
    (hn : x ≠ "__name__" := by decide) (hdb : (x == ("__debug__" : Str)) = false := by decide) (he : starEach [a, b] X.env = (false, eval a X.env) :: starEach [b] X.env := by rfl) (he2 : starEach [b] X.env = (false, eval b X.env) :: starEach [] X.env := by rfl) (hpl : (backTo pos (starEach [b] X.env)).any (·.1) = false := by rfl) :
    DP X Wx (.Call (.Name x p) [a, b] [] pos) (fnN f (oCons ma (o1 mb))) :=
  dp_blt hc hf hg hm hv (dao_cons ha (dao_cons hb dao_nil he2) he) hn hdb he hpl
theorem t1 {T : String} {f : S → List O → Option NV} {r : List V → Hp → VK → Prop} (hc : CallR X (.type T) r) (hf : OpN X.K f r) (hg : Gl X x) (hm : X.mg x = none) (hv : bootBuiltins x = some (.type T)) (ha : DP X Wx a ma)
    (hn : x ≠ "__name__" := by decide) (hdb : (x == ("__debug__" : Str)) = false := by decide) (he : starEach [a] X.env = (false, eval a X.env) :: starEach [] X.env := by rfl) : DP X Wx (.Call (.Name x p) [a] [] pos) (fnN f (o1 ma)) :=
  dp_bty hc hf hg hm hv (dao_cons ha dao_nil he) hn hdb he rfl
theorem c_len (hm : X.mg "len" = none) (ha : DP X Wx a ma) (hg : Gl X "len" := by rfl) (he : starEach [a] X.env = (false, eval a X.env) :: starEach [] X.env := by rfl) :
    DP X Wx (.Call (.Name "len" p) [a] [] pos) (fnN (f1 fLen) (o1 ma)) := b1 call_len opN_len hg hm (by decide +kernel) ha (by decide) (by decide) he
theorem c_all (hc : X.calm = true) (hm : X.mg "all" = none) (ha : DP X Wx a ma) (hg : Gl X "all" := by rfl) (he : starEach [a] X.env = (false, eval a X.env) :: starEach [] X.env := by rfl) :
    DP X Wx (.Call (.Name "all" p) [a] [] pos) (fnN (f1 fAll) (o1 ma)) := b1 (cr_all hc) opN_all hg hm (by decide +kernel) ha (by decide) (by decide) he
theorem c_any (hc : X.calm = true) (hm : X.mg "any" = none) (ha : DP X Wx a ma) (hg : Gl X "any" := by rfl) (he : starEach [a] X.env = (false, eval a X.env) :: starEach [] X.env := by rfl) :
    DP X Wx (.Call (.Name "any" p) [a] [] pos) (fnN (f1 fAny) (o1 ma)) := b1 (cr_any hc) opN_any hg hm (by decide +kernel) ha (by decide) (by decide) he
theorem c_sum (hc : X.calm = true) (hm : X.mg "sum" = none) (ha : DP X Wx a ma) (hg : Gl X "sum" := by rfl) (he : starEach [a] X.env = (false, eval a X.env) :: starEach [] X.env := by rfl) :
    DP X Wx (.Call (.Name "sum" p) [a] [] pos) (fnN (f1 fSum) (o1 ma)) := b1 (cr_sum hc) opN_sum hg hm (by decide +kernel) ha (by decide) (by decide) he
theorem c_sorted (hm : X.mg "sorted" = none) (ha : DP X Wx a ma) (hg : Gl X "sorted" := by rfl) (he : starEach [a] X.env = (false, eval a X.env) :: starEach [] X.env := by rfl) :
    DP X Wx (.Call (.Name "sorted" p) [a] [] pos) (fnN (f1 fSorted) (o1 ma)) := b1 cr_sortedI opN_sorted hg hm (by decide +kernel) ha (by decide) (by decide) he
theorem c_abs (hm : X.mg "abs" = none) (ha : DP X Wx a ma) (hg : Gl X "abs" := by rfl) (he : starEach [a] X.env = (false, eval a X.env) :: starEach [] X.env := by rfl) :
    DP X Wx (.Call (.Name "abs" p) [a] [] pos) (fnN (f1 fAbs) (o1 ma)) := b1 call_abs opN_abs hg hm (by decide +kernel) ha (by decide) (by decide) he
theorem c_repr (hgd : X.A.guards = some []) (hu : X.A.units + 64 < cLine) (hm : X.mg "repr" = none) (ha : DP X Wx a ma) (hg : Gl X "repr" := by rfl) (he : starEach [a] X.env = (false, eval a X.env) :: starEach [] X.env := by rfl) :
    DP X Wx (.Call (.Name "repr" p) [a] [] pos) (fnN (f1 fRepr) (o1 ma)) := b1 (call_reprD hgd hu) opN_repr hg hm (by decide +kernel) ha (by decide) (by decide) he
theorem c_int (hm : X.mg "int" = none) (ha : DP X Wx a ma) (hg : Gl X "int" := by rfl) (he : starEach [a] X.env = (false, eval a X.env) :: starEach [] X.env := by rfl) :
    DP X Wx (.Call (.Name "int" p) [a] [] pos) (fnN (f1 fInt) (o1 ma)) := t1 (call_int1.or call_int_str) opN_int hg hm (by decide +kernel) ha (by decide) (by decide) he
theorem c_str (hm : X.mg "str" = none) (ha : DP X Wx a ma) (hg : Gl X "str" := by rfl) (he : starEach [a] X.env = (false, eval a X.env) :: starEach [] X.env := by rfl) :
    DP X Wx (.Call (.Name "str" p) [a] [] pos) (fnN (f1 fStrI) (o1 ma)) := t1 call_str_int opN_str hg hm (by decide +kernel) ha (by decide) (by decide) he
theorem c_list (hm : X.mg "list" = none) (ha : DP X Wx a ma) (hg : Gl X "list" := by rfl) (he : starEach [a] X.env = (false, eval a X.env) :: starEach [] X.env := by rfl) :
    DP X Wx (.Call (.Name "list" p) [a] [] pos) (fnN (f1 fListOf) (o1 ma)) := t1 call_list_of opN_listOf hg hm (by decide +kernel) ha (by decide) (by decide) he
theorem c_max (hc : X.calm = true) (hm : X.mg "max" = none) (ha : DP X Wx a ma) (hb : DP X Wx b mb) (hg : Gl X "max" := by rfl) (he : starEach [a, b] X.env = (false, eval a X.env) :: starEach [b] X.env := by rfl) (he2 : starEach [b] X.env = (false, eval b X.env) :: starEach [] X.env := by rfl) (hpl : (backTo pos (starEach [b] X.env)).any (·.1) = false := by rfl) :
    DP X Wx (.Call (.Name "max" p) [a, b] [] pos) (fnN fMax2 (oCons ma (o1 mb))) := b2 (call_max2 hc) opN_max2 hg hm (by decide +kernel) ha hb (by decide) (by decide) he he2 hpl
theorem c_min (hc : X.calm = true) (hm : X.mg "min" = none) (ha : DP X Wx a ma) (hb : DP X Wx b mb) (hg : Gl X "min" := by rfl) (he : starEach [a, b] X.env = (false, eval a X.env) :: starEach [b] X.env := by rfl) (he2 : starEach [b] X.env = (false, eval b X.env) :: starEach [] X.env := by rfl) (hpl : (backTo pos (starEach [b] X.env)).any (·.1) = false := by rfl) :
    DP X Wx (.Call (.Name "min" p) [a, b] [] pos) (fnN fMin2 (oCons ma (o1 mb))) := b2 (call_min2 hc) opN_min2 hg hm (by decide +kernel) ha hb (by decide) (by decide) he he2 hpl
theorem c_isi (hm : X.mg "isinstance" = none) (ha : DP X Wx a ma) (hb : DP X Wx b mb) (hg : Gl X "isinstance" := by rfl) (he : starEach [a, b] X.env = (false, eval a X.env) :: starEach [b] X.env := by rfl) (he2 : starEach [b] X.env = (false, eval b X.env) :: starEach [] X.env := by rfl) (hpl : (backTo pos (starEach [b] X.env)).any (·.1) = false := by rfl) :
    DP X Wx (.Call (.Name "isinstance" p) [a, b] [] pos) (fnN fIsi (oCons ma (o1 mb))) := b2 call_isi opN_isi hg hm (by decide +kernel) ha hb (by decide) (by decide) he he2 hpl
theorem c_ty_int (hm : X.mg "int" = none) (hg : Gl X "int" := by rfl) : DP X Wx (.Name "int" pos) (mC (.obj (.ty "int"))) := dp_tyName hg hm (by decide +kernel)
theorem c_ty_bool (hm : X.mg "bool" = none) (hg : Gl X "bool" := by rfl) : DP X Wx (.Name "bool" pos) (mC (.obj (.ty "bool"))) := dp_tyName hg hm (by decide +kernel)
theorem c_ty_str (hm : X.mg "str" = none) (hg : Gl X "str" := by rfl) : DP X Wx (.Name "str" pos) (mC (.obj (.ty "str"))) := dp_tyName hg hm (by decide +kernel)
theorem c_ty_list (hm : X.mg "list" = none) (hg : Gl X "list" := by rfl) : DP X Wx (.Name "list" pos) (mC (.obj (.ty "list"))) := dp_tyName hg hm (by decide +kernel)
theorem c_ty_tuple (hm : X.mg "tuple" = none) (hg : Gl X "tuple" := by rfl) : DP X Wx (.Name "tuple" pos) (mC (.obj (.ty "tuple"))) := dp_tyName hg hm (by decide +kernel)
theorem c_ty_dict (hm : X.mg "dict" = none) (hg : Gl X "dict" := by rfl) : DP X Wx (.Name "dict" pos) (mC (.obj (.ty "dict"))) := dp_tyName hg hm (by decide +kernel)
end
/-! ### for the printed walks -/
theorem RoomG.hu {k : Nat} {A : Around} (h : RoomG k A) : A.units + 64 < cLine := by have := h.r.un; omega
theorem takes_no {X : Cx} : Takes X noX := fun _ _ ⟨_, _, _, _, _, _, _, _, _, _, _, _, _, _, _, _, z⟩ => z.elim
theorem takes_cx {P : Program} {w : World} {K : PySem.W.Frag} {mg : Str → Option Value} {base : Heap} {N : List Str} {qual : Str} {scope : Scope} {f : Addr} {cd : Value} {A : Around} {outer : List Env} {s : Shared} {H : Hp} {E : XK} :
    Takes (cxOf (L2.CX P w) P w K mg base N qual scope f cd A outer s H E) (fun cls d _ H => E cls d H) := takes_of rfl rfl rfl rfl
theorem hb0 {K : PySem.W.Frag} {fd : FuncData} {ps : List Str} (h : ∀ (s : Shared) (us : List Value), us.length = ps.length → BindsTo s fd ⟨us, []⟩ (ps.zip us)) (s : Shared) (us ws : List Value) (_ : K.In s.heap) (hl : ws.length = ([] : List Str).length) (hp : (Perm.id.ap (us ++ ws)).length = ps.length) :
    BindsTo s fd ⟨us, ([] : List Str).zip ws⟩ (ps.zip (Perm.id.ap (us ++ ws))) := by
  obtain rfl : ws = [] := List.length_eq_zero_iff.mp hl
  have e : Perm.id.ap (us ++ []) = us := List.append_nil us
  rw [e] at hp ⊢
  exact h s us hp
theorem hbK {K : PySem.W.Frag} {fd : FuncData} {ps : List Str} (h : ∀ (s : Shared) (ws : List Value), ws.length = ps.length → BindsTo s fd ⟨[], ps.zip ws⟩ (ps.zip ws)) (s : Shared) (us ws : List Value) (_ : K.In s.heap) (hl : ws.length = ps.length) (hp : (Perm.id.ap (us ++ ws)).length = ps.length) :
    BindsTo s fd ⟨us, ps.zip ws⟩ (ps.zip (Perm.id.ap (us ++ ws))) := by
  have e0 : (us ++ ws).length = ps.length := hp
  obtain rfl : us = [] := List.length_eq_zero_iff.mp (by rw [List.length_append] at e0; omega)
  exact h s ws hl
end DS
/-! The data layer, part t: running the semantics. -/
namespace DS
open PySem L2

/-! ### loops -/
/-- a loop by an invariant on the state, by the turn -/
theorem sFor_inv {chk : S → Prop} {g : Tg} {body : MS} {xs : List D} (inv : Nat → S → Prop) (hc : ∀ i s, i ≤ xs.length → inv i s → chk s)
    (hs : ∀ i d s, xs[i]? = some d → inv i s → ∃ s1, g d s = some s1 ∧ ∃ s2, (body s1 = .next s2 ∨ body s1 = .cont s2) ∧ inv (i + 1) s2) {s : S} (h0 : inv 0 s) : ∃ s', sFor chk g body xs s = .next s' ∧ inv xs.length s' := by
  suffices h : ∀ (n i : Nat) (s : S), n = xs.length - i → i ≤ xs.length → inv i s → ∃ s', sFor chk g body (xs.drop i) s = .next s' ∧ inv xs.length s' by
    have := h xs.length 0 s rfl (Nat.zero_le _) h0
    simpa using this
  intro n
  induction n with
  | zero =>
    intro i s hn hi h
    have e : i = xs.length := by omega
    subst e
    refine ⟨s, ?_, h⟩
    rw [List.drop_length]
    unfold sFor
    rw [if_pos (hc _ s (Nat.le_refl _) h)]
  | succ n ih =>
    intro i s hn hi h
    have hlt : i < xs.length := by omega
    have hd : xs.drop i = xs[i] :: xs.drop (i + 1) := List.drop_eq_getElem_cons hlt
    obtain ⟨s1, e1, s2, e2, h2⟩ := hs i xs[i] s (by simp [hlt]) h
    obtain ⟨s', e3, h3⟩ := ih (i + 1) s2 (by omega) hlt h2
    refine ⟨s', ?_, h3⟩
    rw [hd]
    unfold sFor
    rw [if_pos (hc _ s hi h), e1]
    dsimp only
    rcases e2 with e2 | e2
    · rw [e2]; exact e3
    · rw [e2]; exact e3
/-- a comprehension by an invariant on the state and what is gathered, by the turn -/
theorem lcGo_inv {chk : S → Prop} {g : Tg} {t : M Bool} {e : M D} {vs : List Nat} {xs : List D} (inv : Nat → List D → S → Prop) (hc : ∀ i acc s, i ≤ xs.length → inv i acc s → chk s)
    (hs : ∀ i d acc s, xs[i]? = some d → inv i acc s → ∃ s1, g d s = some s1 ∧ ((∃ s2 x s3, t s1 = .ok true s2 ∧ e s2 = .ok x s3 ∧ inv (i + 1) (acc ++ [x]) { s3 with sl := wipeS s3.sl vs }) ∨
      ∃ s2, t s1 = .ok false s2 ∧ inv (i + 1) acc { s2 with sl := wipeS s2.sl vs })) {s : S} {acc : List D} (h0 : inv 0 acc s) : ∃ ys s', lcGo chk g t e vs xs acc s = .ok ys s' ∧ inv xs.length ys s' := by
  suffices h : ∀ (n i : Nat) (acc : List D) (s : S), n = xs.length - i → i ≤ xs.length → inv i acc s → ∃ ys s', lcGo chk g t e vs (xs.drop i) acc s = .ok ys s' ∧ inv xs.length ys s' by
    have := h xs.length 0 acc s rfl (Nat.zero_le _) h0
    simpa using this
  intro n
  induction n with
  | zero =>
    intro i acc s hn hi h
    have e : i = xs.length := by omega
    subst e
    refine ⟨acc, s, ?_, h⟩
    rw [List.drop_length]
    unfold lcGo
    rw [if_pos (hc _ acc s (Nat.le_refl _) h)]
  | succ n ih =>
    intro i acc s hn hi h
    have hlt : i < xs.length := by omega
    have hd : xs.drop i = xs[i] :: xs.drop (i + 1) := List.drop_eq_getElem_cons hlt
    obtain ⟨s1, e1, h2⟩ := hs i xs[i] acc s (by simp [hlt]) h
    rcases h2 with ⟨s2, x, s3, e2, e3, h2⟩ | ⟨s2, e2, h2⟩
    · obtain ⟨ys, s', e4, h3⟩ := ih (i + 1) _ _ (by omega) hlt h2
      refine ⟨ys, s', ?_, h3⟩
      rw [hd]
      unfold lcGo
      rw [if_pos (hc _ acc s hi h), e1]
      dsimp only
      rw [e2]
      dsimp only
      rw [e3]
      exact e4
    · obtain ⟨ys, s', e4, h3⟩ := ih (i + 1) _ _ (by omega) hlt h2
      refine ⟨ys, s', ?_, h3⟩
      rw [hd]
      unfold lcGo
      rw [if_pos (hc _ acc s hi h), e1]
      dsimp only
      rw [e2]
      exact e4
/-- a comprehension that only reads: [f(x) for x in xs] -/
theorem lcRun_map {g : Tg} {t : M Bool} {e : M D} {vs : List Nat} {q : Src} {s : S} (f : D → D) (hz : q.xs.length ≤ sizeLine) (hn : noOwn s.sl vs = true) (hb : backS (wipeS s.sl vs) s.sl vs = s.sl) (hk : ∀ sl, q.chk ⟨s.cs, sl⟩)
    (h : ∀ d ∈ q.xs, ∃ s1 s2 s3, g d { s with sl := wipeS s.sl vs } = some s1 ∧ t s1 = .ok true s2 ∧ e s2 = .ok (f d) s3 ∧ s3.cs = s.cs ∧ wipeS s3.sl vs = wipeS s.sl vs) :
    lcRun g t e vs q s = .ok (.own (.lst (q.xs.map f))) s := by
  obtain ⟨ys, s', e1, e2, e3⟩ := lcGo_inv (chk := q.chk) (g := g) (t := t) (e := e) (vs := vs) (xs := q.xs) (fun i acc s' => acc = (q.xs.take i).map f ∧ s' = { s with sl := wipeS s.sl vs })
    (fun i acc s' _ ⟨_, h⟩ => by subst h; exact hk _) (fun i d acc s' hd ⟨ha, hs⟩ => by
      subst hs ha
      obtain ⟨s1, s2, s3, h1, h2, h3, h4, h5⟩ := h d (List.mem_of_getElem? hd)
      refine ⟨s1, h1, .inl ⟨s2, f d, s3, h2, h3, ?_, ?_⟩⟩
      · obtain ⟨hl, he⟩ := List.getElem?_eq_some_iff.mp hd
        rw [List.take_succ_eq_append_getElem hl, he]
        simp
      · rw [h5, h4]) (s := { s with sl := wipeS s.sl vs }) (acc := []) ⟨by simp, rfl⟩
  unfold lcRun
  rw [if_pos ⟨hz, hn⟩, e1]
  dsimp only
  rw [e3, e2]
  simp only [List.take_length]
  rw [hb]
def isFz (x : Option (Option SV)) : Bool := match x with
  | some none => true
  | some (some (.fz _)) => true
  | _ => false
theorem noOwn1 {sl : Sl} {i : Nat} (h : isFz sl[i]? = true) : noOwn sl [i] = true := by
  unfold noOwn noOwn
  simp only [Bool.and_true]
  split
  · rename_i c e; rw [e] at h; cases h
  · rfl
theorem noOwn2 {sl : Sl} {i j : Nat} (h : isFz sl[i]? = true) (h2 : isFz sl[j]? = true) : noOwn sl [i, j] = true := by
  have e2 := noOwn1 h2
  unfold noOwn
  rw [e2, Bool.and_true]
  split
  · rename_i c e; rw [e] at h; cases h
  · rfl
theorem isFz_lt {sl : Sl} {i : Nat} (h : isFz sl[i]? = true) : i < sl.length := by
  rcases Nat.lt_or_ge i sl.length with h' | h'
  · exact h'
  · rw [List.getElem?_eq_none h'] at h; cases h
theorem set_back {sl : Sl} {i : Nat} (h : i < sl.length) : sl.set i (sl.getD i none) = sl := by
  apply List.ext_getElem?
  intro j
  by_cases hj : i = j
  · subst hj; rw [List.getElem?_set_self h, List.getD_eq_getElem?_getD, List.getElem?_eq_getElem h]; rfl
  · rw [List.getElem?_set_ne hj]
/-- [e for x in xs] that only reads -/
theorem lcRun_map1 {i : Nat} {e : M D} {xs : List D} {chk : S → Prop} {cs : List Cont} {sl : Sl} (f : D → D) (hz : xs.length ≤ sizeLine) (hi : isFz sl[i]? = true) (hk : ∀ sl, chk ⟨cs, sl⟩)
    (h : ∀ d ∈ xs, e ⟨cs, sl.set i (some (.fz d))⟩ = .ok (f d) ⟨cs, sl.set i (some (.fz d))⟩) : lcRun (gSet i) mYes e [i] ⟨xs, chk⟩ ⟨cs, sl⟩ = .ok (.own (.lst (xs.map f))) ⟨cs, sl⟩ := by
  have hl := isFz_lt hi
  refine lcRun_map (s := ⟨cs, sl⟩) f hz (noOwn1 hi) ?_ hk fun d hd => ⟨⟨cs, sl.set i (some (.fz d))⟩, ⟨cs, sl.set i (some (.fz d))⟩, ⟨cs, sl.set i (some (.fz d))⟩, ?_, rfl, h d hd, rfl, ?_⟩
  · show ((sl.set i none).set i (sl.getD i none)) = sl
    rw [List.set_set, set_back hl]
  · show some (⟨cs, (sl.set i none).set i (some (.fz d))⟩ : S) = _
    rw [List.set_set]
  · show (sl.set i (some (.fz d))).set i none = sl.set i none
    rw [List.set_set]
/-- [e for x, y in xs] that only reads -/
theorem lcRun_map2 {i j : Nat} {e : M D} {xs : List (D × D)} {chk : S → Prop} {cs : List Cont} {sl : Sl} (f : D × D → D) (hij : i ≠ j) (hz : xs.length ≤ sizeLine) (hi : isFz sl[i]? = true) (hj : isFz sl[j]? = true) (hk : ∀ sl, chk ⟨cs, sl⟩)
    (h : ∀ d ∈ xs, e ⟨cs, (sl.set i (some (.fz d.1))).set j (some (.fz d.2))⟩ = .ok (f d) ⟨cs, (sl.set i (some (.fz d.1))).set j (some (.fz d.2))⟩) :
    lcRun (gTup (gCons (gSet i) (gCons (gSet j) gNil))) mYes e [i, j] ⟨xs.map fun d => .tup [d.1, d.2], chk⟩ ⟨cs, sl⟩ = .ok (.own (.lst (xs.map f))) ⟨cs, sl⟩ := by
  have hl := isFz_lt hi
  have hl2 := isFz_lt hj
  have key := lcRun_map (g := gTup (gCons (gSet i) (gCons (gSet j) gNil))) (t := mYes) (e := e) (vs := [i, j]) (q := ⟨xs.map fun d => D.tup [d.1, d.2], chk⟩) (s := ⟨cs, sl⟩)
    (fun d => match d with | .tup [x, y] => f (x, y) | _ => .non) (by simpa using hz) (noOwn2 hi hj) ?_ hk fun d hd => ?_
  · rw [key]
    simp
  · show ((((sl.set j none).set i none).set j (sl.getD j none)).set i (sl.getD i none)) = sl
    rw [List.set_comm _ _ (Ne.symm hij), List.set_set, List.set_comm _ _ hij, List.set_set, set_back hl2, set_back hl]
  · simp only [List.mem_map] at hd
    obtain ⟨p, hp, rfl⟩ := hd
    refine ⟨⟨cs, (sl.set i (some (.fz p.1))).set j (some (.fz p.2))⟩, ⟨cs, (sl.set i (some (.fz p.1))).set j (some (.fz p.2))⟩, ⟨cs, (sl.set i (some (.fz p.1))).set j (some (.fz p.2))⟩, ?_, rfl, h p hp, rfl, ?_⟩
    · show some (⟨cs, (((sl.set j none).set i none).set i (some (.fz p.1))).set j (some (.fz p.2))⟩ : S) = _
      rw [List.set_set, List.set_comm _ _ (Ne.symm hij), List.set_set]
    · show (((sl.set i (some (.fz p.1))).set j (some (.fz p.2))).set j none).set i none = (sl.set j none).set i none
      rw [List.set_set, List.set_comm _ _ hij, List.set_set, List.set_comm _ _ (Ne.symm hij)]
end DS
/-! The data layer, part u: rewriting rules that run the semantics from the outside in. -/
namespace DS
open PySem L2

/-! ### sequencing; only what runs first is rewritten -/
def R.bd {α β : Type} (r : R α) (k : α → S → R β) : R β := match r with
  | .ok a s => k a s
  | .exn x s => .exn x s
  | .stuck => .stuck
@[simp] theorem R.bd_ok {α β : Type} {a : α} {s : S} {k : α → S → R β} : R.bd (.ok a s) k = k a s := rfl
@[simp] theorem R.bd_exn {α β : Type} {x : Exn} {s : S} {k : α → S → R β} : R.bd (.exn x s) k = .exn x s := rfl
@[simp] theorem R.bd_stuck {α β : Type} {k : α → S → R β} : R.bd .stuck k = .stuck := rfl
def R.ts {α : Type} (r : R α) (k : α → S → RS) : RS := match r with
  | .ok a s => k a s
  | .exn x s => .exn x s
  | .stuck => .stuck
@[simp] theorem R.ts_ok {α : Type} {a : α} {s : S} {k : α → S → RS} : R.ts (.ok a s) k = k a s := rfl
@[simp] theorem R.ts_exn {α : Type} {x : Exn} {s : S} {k : α → S → RS} : R.ts (.exn x s) k = .exn x s := rfl
@[simp] theorem R.ts_stuck {α : Type} {k : α → S → RS} : R.ts .stuck k = .stuck := rfl
def RS.bd (r : RS) (k : S → RS) : RS := match r with
  | .next s => k s
  | r => r
@[simp] theorem RS.bd_next {s : S} {k : S → RS} : RS.bd (.next s) k = k s := rfl
@[simp] theorem RS.bd_ret {r : RV} {s : S} {k : S → RS} : RS.bd (.ret r s) k = .ret r s := rfl
@[simp] theorem RS.bd_exn {x : Exn} {s : S} {k : S → RS} : RS.bd (.exn x s) k = .exn x s := rfl
@[simp] theorem RS.bd_brk {s : S} {k : S → RS} : RS.bd (.brk s) k = .brk s := rfl
@[simp] theorem RS.bd_cont {s : S} {k : S → RS} : RS.bd (.cont s) k = .cont s := rfl
@[simp] theorem RS.bd_stuck {k : S → RS} : RS.bd .stuck k = .stuck := rfl
/-- a choice; the ways are not run until it is made -/
def way {α : Type} (b : Bool) (x y : S → α) (s : S) : α := if b = true then x s else y s
@[simp] theorem way_true {α : Type} {x y : S → α} {s : S} : way true x y s = x s := rfl
@[simp] theorem way_false {α : Type} {x y : S → α} {s : S} : way false x y s = y s := rfl
/-- a step behind a step -/
def kB {α β γ : Type} (m : S → R β) (h : α → β → S → R γ) (a : α) (s : S) : R γ := R.bd (m s) (h a)
@[simp] theorem kB_ev {α β γ : Type} {m : S → R β} {h : α → β → S → R γ} {a : α} {s : S} : kB m h a s = R.bd (m s) (h a) := rfl
def optR {α : Type} (o : Option α) (s : S) : R α := match o with
  | some a => .ok a s
  | none => .stuck
@[simp] theorem optR_some {α : Type} {a : α} {s : S} : optR (some a) s = .ok a s := rfl
@[simp] theorem optR_none {α : Type} {s : S} : optR (none : Option α) s = .stuck := rfl
def nvR (n : NV) (s : S) : R RV := match n with
  | .opd o => .ok (.opd o) s
  | .lst xs => .ok (.own (.lst xs)) s
  | .tup xs => .ok (.opd (.val (.tup xs))) s
@[simp] theorem nvR_opd {o : O} {s : S} : nvR (.opd o) s = .ok (.opd o) s := rfl
@[simp] theorem nvR_lst {xs : List D} {s : S} : nvR (.lst xs) s = .ok (.own (.lst xs)) s := rfl
@[simp] theorem nvR_tup {xs : List D} {s : S} : nvR (.tup xs) s = .ok (.opd (.val (.tup xs))) s := rfl
theorem nv_nvR (n : NV) (s : S) : nv n s = nvR n s := by cases n <;> rfl
theorem opt_optR {α : Type} (o : Option α) (s : S) : opt o s = optR o s := by cases o <;> rfl
theorem bd_of {α β : Type} (m : M α) (k : α → M β) (s : S) : (m >>= k) s = R.bd (m s) k := rfl
theorem optnv (o : Option NV) (s : S) : (opt o >>= nv) s = R.bd (optR o s) nvR := by cases o with
  | none => rfl
  | some n => cases n <;> rfl
/-! ### names, constants -/
def slR (x : Option (Option SV)) (i : Nat) (s : S) : R RV := match x with
  | some (some (.fz d)) => .ok (.opd (.val d)) s
  | some (some (.own _)) => .ok (.opd (.bor i)) s
  | _ => .stuck
@[simp] theorem slR_fz {d : D} {i : Nat} {s : S} : slR (some (some (.fz d))) i s = .ok (.opd (.val d)) s := rfl
@[simp] theorem slR_own {c : Cont} {i : Nat} {s : S} : slR (some (some (.own c))) i s = .ok (.opd (.bor i)) s := rfl
@[simp] theorem ev_var {i : Nat} {s : S} : mVar i s = slR s.sl[i]? i s := rfl
@[simp] theorem ev_C {d : D} {s : S} : mC d s = .ok (.opd (.val d)) s := rfl
def fzR (r : RV) (s : S) : R O := match r with
  | .opd o => .ok o s
  | .own c => .ok (.val c.toD) s
@[simp] theorem fzR_opd {o : O} {s : S} : fzR (.opd o) s = .ok o s := rfl
@[simp] theorem fzR_own {c : Cont} {s : S} : fzR (.own c) s = .ok (.val c.toD) s := rfl
@[simp] theorem ev_fz {m : M RV} {s : S} : fz m s = R.bd (m s) fzR := by
  unfold fz
  rw [bd_of]
  cases m s with
  | ok r s' => cases r <;> rfl
  | exn x s' => rfl
  | stuck => rfl
def borR (x : Option (Option SV)) (i : Nat) (s : S) : R D := match x with
  | some (some (.own c)) => .ok c.toD { s with sl := s.sl.set i (some (.fz c.toD)) }
  | some (some (.fz d)) => .ok d s
  | _ => .stuck
@[simp] theorem borR_own {c : Cont} {i : Nat} {s : S} : borR (some (some (.own c))) i s = .ok c.toD { s with sl := s.sl.set i (some (.fz c.toD)) } := rfl
@[simp] theorem borR_fz {d : D} {i : Nat} {s : S} : borR (some (some (.fz d))) i s = .ok d s := rfl
@[simp] theorem ev_force_val {d : D} {s : S} : force1 (.val d) s = .ok d s := rfl
@[simp] theorem ev_force_bor {i : Nat} {s : S} : force1 (.bor i) s = borR s.sl[i]? i s := rfl
@[simp] theorem ev_fc {m : M RV} {s : S} : fc m s = R.bd (fz m s) force1 := rfl
/-! ### operators -/
def opR (f : S → O → O → Option NV) (x y : O) (s : S) : R RV := R.bd (optR (f s x y) s) nvR
@[simp] theorem opR_ev {f : S → O → O → Option NV} {x y : O} {s : S} : opR f x y s = R.bd (optR (f s x y) s) nvR := rfl
@[simp] theorem ev_bin {f : S → O → O → Option NV} {a b : M RV} {s : S} : mBin f a b s = R.bd (fz a s) (kB (fz b) (opR f)) := by
  unfold mBin
  rw [bd_of]
  congr 1; funext x s1
  show (fz b >>= _) s1 = R.bd _ _
  rw [bd_of]
  congr 1; funext y s2
  exact optnv _ _
def blR (o : Option NV) (s : S) : R Bool := match o with
  | some (.opd (.val (.bl k))) => .ok k s
  | _ => .stuck
@[simp] theorem blR_bl {k : Bool} {s : S} : blR (some (.opd (.val (.bl k)))) s = .ok k s := rfl
@[simp] theorem opB_ev {f : S → O → O → Option NV} {x y : O} {s : S} : opB f x y s = blR (f s x y) s := rfl
@[simp] theorem ev_cmpB {f : S → O → O → Option NV} {a b : M RV} {s : S} : mCmpB f a b s = R.bd (fz a s) (kB (fz b) (opB f)) := rfl
def chR (g : S → O → O → Option NV) (c : M RV) (y : O) (k : Bool) (s : S) : R RV := if k = true then R.bd (fz c s) (opR g y) else .ok (.opd (.val (.bl false))) s
@[simp] theorem chR_t {g : S → O → O → Option NV} {c : M RV} {y : O} {s : S} : chR g c y true s = R.bd (fz c s) (opR g y) := rfl
@[simp] theorem chR_f {g : S → O → O → Option NV} {c : M RV} {y : O} {s : S} : chR g c y false s = .ok (.opd (.val (.bl false))) s := rfl
def chR1 (f g : S → O → O → Option NV) (c : M RV) (x y : O) (s : S) : R RV := R.bd (opB f x y s) (chR g c y)
@[simp] theorem chR1_ev {f g : S → O → O → Option NV} {c : M RV} {x y : O} {s : S} : chR1 f g c x y s = R.bd (opB f x y s) (chR g c y) := rfl
@[simp] theorem ev_chain {f g : S → O → O → Option NV} {a b c : M RV} {s : S} : mChain f g a b c s = R.bd (fz a s) (kB (fz b) (chR1 f g c)) := by
  unfold mChain
  rw [bd_of]
  congr 1; funext x s1
  show (fz b >>= _) s1 = R.bd _ _
  rw [bd_of]
  congr 1; funext y s2
  show (opB f x y >>= _) s2 = R.bd _ _
  rw [bd_of]
  congr 1; funext k s3
  cases k with
  | false => rfl
  | true =>
    show (fz c >>= fun z => op2 g y z) s3 = R.bd _ _
    rw [bd_of]
    congr 1; funext z s4
    exact optnv _ _
def chB (g : S → O → O → Option NV) (c : M RV) (y : O) (k : Bool) (s : S) : R Bool := if k = true then R.bd (fz c s) (opB g y) else .ok false s
@[simp] theorem chB_t {g : S → O → O → Option NV} {c : M RV} {y : O} {s : S} : chB g c y true s = R.bd (fz c s) (opB g y) := rfl
@[simp] theorem chB_f {g : S → O → O → Option NV} {c : M RV} {y : O} {s : S} : chB g c y false s = .ok false s := rfl
def chB1 (f g : S → O → O → Option NV) (c : M RV) (x y : O) (s : S) : R Bool := R.bd (opB f x y s) (chB g c y)
@[simp] theorem chB1_ev {f g : S → O → O → Option NV} {c : M RV} {x y : O} {s : S} : chB1 f g c x y s = R.bd (opB f x y s) (chB g c y) := rfl
@[simp] theorem ev_chainB {f g : S → O → O → Option NV} {a b c : M RV} {s : S} : mChainB f g a b c s = R.bd (fz a s) (kB (fz b) (chB1 f g c)) := by
  unfold mChainB
  rw [bd_of]
  congr 1; funext x s1
  show (fz b >>= _) s1 = R.bd _ _
  rw [bd_of]
  congr 1; funext y s2
  show (opB f x y >>= _) s2 = R.bd _ _
  rw [bd_of]
  congr 1; funext k s3
  cases k <;> rfl
def tvR (o : Option Bool) (s : S) : R Bool := match o with
  | some b => .ok b s
  | none => .stuck
@[simp] theorem tvR_some {b : Bool} {s : S} : tvR (some b) s = .ok b s := rfl
def truR (o : O) (s : S) : R Bool := tvR (truD s o) s
@[simp] theorem truR_ev {o : O} {s : S} : truR o s = tvR (truD s o) s := rfl
@[simp] theorem ev_tru {m : M RV} {s : S} : mTru m s = R.bd (fz m s) truR := rfl
def obR (o : O) (s : S) : R Bool := match o with
  | .val (.bl b) => .ok b s
  | _ => .stuck
@[simp] theorem obR_bl {b : Bool} {s : S} : obR (.val (.bl b)) s = .ok b s := rfl
@[simp] theorem ev_bl {m : M RV} {s : S} : mBl m s = R.bd (fz m s) obR := by
  unfold mBl
  rw [bd_of]
  congr 1; funext o s1
  exact (match o with | .bor _ => rfl | .val d => by cases d <;> rfl)
def okR {α : Type} (a : α) (s : S) : R α := .ok a s
@[simp] theorem okR_ev {α : Type} {a : α} {s : S} : okR a s = .ok a s := rfl
def wayR {α : Type} (x y : S → R α) (c : Bool) (s : S) : R α := if c = true then x s else y s
@[simp] theorem wayR_t {α : Type} {x y : S → R α} {s : S} : wayR x y true s = x s := rfl
@[simp] theorem wayR_f {α : Type} {x y : S → R α} {s : S} : wayR x y false s = y s := rfl
@[simp] theorem ev_andB {a b : M Bool} {s : S} : mAndB a b s = R.bd (a s) (wayR b (okR false)) := by
  unfold mAndB; rw [bd_of]; congr 1; funext c s1; cases c <;> rfl
@[simp] theorem ev_orB {a b : M Bool} {s : S} : mOrB a b s = R.bd (a s) (wayR (okR true) b) := by
  unfold mOrB; rw [bd_of]; congr 1; funext c s1; cases c <;> rfl
def nbR (c : Bool) (s : S) : R Bool := .ok (!c) s
@[simp] theorem nbR_ev {c : Bool} {s : S} : nbR c s = .ok (!c) s := rfl
@[simp] theorem ev_notB {a : M Bool} {s : S} : mNotB a s = R.bd (a s) nbR := rfl
abbrev blV (b : Bool) : RV := .opd (.val (.bl b))
@[simp] theorem ev_and {a b : M RV} {s : S} : mAnd a b s = R.bd (mBl a s) (wayR b (okR (blV false))) := by
  unfold mAnd; rw [bd_of]; congr 1; funext c s1; cases c <;> rfl
@[simp] theorem ev_or {a b : M RV} {s : S} : mOr a b s = R.bd (mBl a s) (wayR (okR (blV true)) b) := by
  unfold mOr; rw [bd_of]; congr 1; funext c s1; cases c <;> rfl
def nvBR (c : Bool) (s : S) : R RV := .ok (blV !c) s
@[simp] theorem nvBR_ev {c : Bool} {s : S} : nvBR c s = .ok (blV !c) s := rfl
@[simp] theorem ev_not {a : M RV} {s : S} : mNot a s = R.bd (mBl a s) nvBR := rfl
@[simp] theorem ev_if {c : M Bool} {a b : M RV} {s : S} : mIf c a b s = R.bd (c s) (wayR a b) := by
  unfold mIf; rw [bd_of]; congr 1; funext c s1; cases c <;> rfl
def negR (o : O) (s : S) : R RV := match o with
  | .val (.int i) => .ok (.opd (.val (.int (-i)))) s
  | _ => .stuck
@[simp] theorem negR_int {i : Int} {s : S} : negR (.val (.int i)) s = .ok (.opd (.val (.int (-i)))) s := rfl
@[simp] theorem ev_neg {m : M RV} {s : S} : mNeg m s = R.bd (fz m s) negR := by
  unfold mNeg; rw [bd_of]; congr 1; funext o s1; exact (match o with | .bor _ => rfl | .val d => by cases d <;> rfl)
/-! ### slices, displays, arguments -/
def ptR (o : O) (s : S) : R (Option Int) := match o with
  | .val (.int i) => .ok (some i) s
  | _ => .stuck
@[simp] theorem ptR_int {i : Int} {s : S} : ptR (.val (.int i)) s = .ok (some i) s := rfl
@[simp] theorem ev_part0 {s : S} : part none s = .ok none s := rfl
@[simp] theorem ev_part1 {m : M RV} {s : S} : part (some m) s = R.bd (fz m s) ptR := by
  show (fz m >>= _) s = _
  rw [bd_of]; congr 1; funext o s1; exact (match o with | .bor _ => rfl | .val d => by cases d <;> rfl)
def slcR2 (x : O) (l h : Option Int) (s : S) : R RV := R.bd (optR (fSl s x l h) s) nvR
@[simp] theorem slcR2_ev {x : O} {l h : Option Int} {s : S} : slcR2 x l h s = R.bd (optR (fSl s x l h) s) nvR := rfl
def slcR (hi : Option (M RV)) (x : O) (l : Option Int) (s : S) : R RV := R.bd (part hi s) (slcR2 x l)
@[simp] theorem slcR_ev {hi : Option (M RV)} {x : O} {l : Option Int} {s : S} : slcR hi x l s = R.bd (part hi s) (slcR2 x l) := rfl
@[simp] theorem ev_slice {a : M RV} {lo hi : Option (M RV)} {s : S} : mSlice a lo hi s = R.bd (fz a s) (kB (part lo) (slcR hi)) := by
  unfold mSlice
  rw [bd_of]; congr 1; funext x s1
  show (part lo >>= _) s1 = R.bd _ _
  rw [bd_of]; congr 1; funext l s2
  show R.bd (part hi s2) _ = R.bd _ _
  congr 1; funext h s3
  exact optnv _ _
def revR (x : O) (s : S) : R RV := R.bd (optR ((vL s x).map fun xs => NV.lst xs.reverse) s) nvR
@[simp] theorem revR_ev {x : O} {s : S} : revR x s = R.bd (optR ((vL s x).map fun xs => NV.lst xs.reverse) s) nvR := rfl
@[simp] theorem ev_rev {a : M RV} {s : S} : mRev a s = R.bd (fz a s) revR := by
  unfold mRev
  show R.bd (fz a s) _ = _; congr 1; funext x s1
  exact optnv _ _
@[simp] theorem ev_aNil {s : S} : aNil s = .ok [] s := rfl
def consR {α : Type} (d : α) (ds : List α) (s : S) : R (List α) := .ok (d :: ds) s
@[simp] theorem consR_ev {α : Type} {d : α} {ds : List α} {s : S} : consR d ds s = .ok (d :: ds) s := rfl
@[simp] theorem ev_aCons {m : M RV} {r : M (List D)} {s : S} : aCons m r s = R.bd (fc m s) (kB r consR) := rfl
def starR2 (xs ds : List D) (s : S) : R (List D) := .ok (xs ++ ds) s
@[simp] theorem starR2_ev {xs ds : List D} {s : S} : starR2 xs ds s = .ok (xs ++ ds) s := rfl
def starR (r : M (List D)) (o : O) (s : S) : R (List D) := R.bd (optR (vS s o) s) (kB r starR2)
@[simp] theorem starR_ev {r : M (List D)} {o : O} {s : S} : starR r o s = R.bd (optR (vS s o) s) (kB r starR2) := rfl
@[simp] theorem ev_aStar {m : M RV} {r : M (List D)} {s : S} : aStar m r s = R.bd (fz m s) (starR r) := by
  unfold aStar
  show R.bd (fz m s) _ = _; congr 1; funext o s1
  unfold starR
  cases vS s1 o <;> rfl
@[simp] theorem ev_oNil {s : S} : oNil s = .ok [] s := rfl
@[simp] theorem ev_oCons {m : M RV} {r : M (List O)} {s : S} : oCons m r s = R.bd (fz m s) (kB r consR) := rfl
def fnR (f : S → List O → Option NV) (os : List O) (s : S) : R RV := R.bd (optR (f s os) s) nvR
@[simp] theorem fnR_ev {f : S → List O → Option NV} {os : List O} {s : S} : fnR f os s = R.bd (optR (f s os) s) nvR := rfl
@[simp] theorem ev_fnN {f : S → List O → Option NV} {args : M (List O)} {s : S} : fnN f args s = R.bd (args s) (fnR f) := by
  unfold fnN
  show R.bd (args s) _ = _; congr 1; funext x s1
  exact optnv _ _
def tupR (ds : List D) (s : S) : R RV := R.bd (optR (if ds.length ≤ sizeLine then some (NV.tup ds) else none) s) nvR
theorem tupR_ok {ds : List D} {s : S} (h : ds.length ≤ sizeLine) : tupR ds s = .ok (.opd (.val (.tup ds))) s := by unfold tupR; rw [if_pos h]; rfl
@[simp] theorem tupR_1 {a : D} {s : S} : tupR [a] s = .ok (.opd (.val (.tup [a]))) s := tupR_ok (by show 1 ≤ sizeLine; decide)
@[simp] theorem tupR_2 {a b : D} {s : S} : tupR [a, b] s = .ok (.opd (.val (.tup [a, b]))) s := tupR_ok (by show 2 ≤ sizeLine; decide)
@[simp] theorem tupR_3 {a b c : D} {s : S} : tupR [a, b, c] s = .ok (.opd (.val (.tup [a, b, c]))) s := tupR_ok (by show 3 ≤ sizeLine; decide)
@[simp] theorem ev_tup {m : M (List D)} {s : S} : mTup m s = R.bd (m s) tupR := by
  unfold mTup
  rw [bd_of]; congr 1; funext x s1
  exact optnv _ _
def lstR (ds : List D) (s : S) : R RV := R.bd (optR (if ds.length ≤ sizeLine then some (NV.lst ds) else none) s) nvR
theorem lstR_ok {ds : List D} {s : S} (h : ds.length ≤ sizeLine) : lstR ds s = .ok (.own (.lst ds)) s := by unfold lstR; rw [if_pos h]; rfl
theorem small16 {n : Nat} (h : n ≤ 16) : n ≤ sizeLine := Nat.le_trans h (by decide)
@[simp] theorem lstR_0 {s : S} : lstR [] s = .ok (.own (.lst [])) s := lstR_ok (Nat.zero_le _)
@[simp] theorem lstR_1 {a : D} {s : S} : lstR [a] s = .ok (.own (.lst [a])) s := lstR_ok (small16 (by simp))
@[simp] theorem lstR_2 {a b : D} {s : S} : lstR [a, b] s = .ok (.own (.lst [a, b])) s := lstR_ok (small16 (by simp))
@[simp] theorem lstR_3 {a b c : D} {s : S} : lstR [a, b, c] s = .ok (.own (.lst [a, b, c])) s := lstR_ok (small16 (by simp))
@[simp] theorem lstR_4 {a b c d : D} {s : S} : lstR [a, b, c, d] s = .ok (.own (.lst [a, b, c, d])) s := lstR_ok (small16 (by simp))
@[simp] theorem lstR_5 {a b c d e : D} {s : S} : lstR [a, b, c, d, e] s = .ok (.own (.lst [a, b, c, d, e])) s := lstR_ok (small16 (by simp))
@[simp] theorem lstR_6 {a b c d e f : D} {s : S} : lstR [a, b, c, d, e, f] s = .ok (.own (.lst [a, b, c, d, e, f])) s := lstR_ok (small16 (by simp))
@[simp] theorem ev_lst {m : M (List D)} {s : S} : mLst m s = R.bd (m s) lstR := by
  unfold mLst
  rw [bd_of]; congr 1; funext x s1
  exact optnv _ _
def shR (r : RV) (s : S) : R RV := match r with
  | .own c => .ok (.opd (.val (.ref s.cs.length))) { s with cs := s.cs ++ [c] }
  | _ => .stuck
@[simp] theorem shR_own {c : Cont} {s : S} : shR (.own c) s = .ok (.opd (.val (.ref s.cs.length))) { s with cs := s.cs ++ [c] } := rfl
@[simp] theorem ev_share {m : M RV} {s : S} : mShare m s = R.bd (m s) shR := by
  unfold mShare
  rw [bd_of]; congr 1; funext r s1
  cases r <;> rfl
def inR (o : O) (s : S) : R Int := match o with
  | .val (.int i) => .ok i s
  | _ => .stuck
@[simp] theorem inR_int {i : Int} {s : S} : inR (.val (.int i)) s = .ok i s := rfl
@[simp] theorem ev_intOf {m : M RV} {s : S} : mIntOf m s = R.bd (fz m s) inR := by
  unfold mIntOf
  rw [bd_of]; congr 1; funext o s1; exact (match o with | .bor _ => rfl | .val d => by cases d <;> rfl)
def rgR (i j : Int) (s : S) : R RV := R.bd (optR (if RgFit i j then some (NV.lst (rangeD i j)) else none) s) nvR
theorem rgR_ok {i j : Int} {s : S} (h : RgFit i j) : rgR i j s = .ok (.own (.lst (rangeD i j))) s := by unfold rgR; rw [if_pos h]; rfl
@[simp] theorem ev_listRg {a b : M RV} {s : S} : mListRg a b s = R.bd (mIntOf a s) (kB (mIntOf b) rgR) := by
  unfold mListRg
  rw [bd_of]; congr 1; funext x s1
  show (mIntOf b >>= _) s1 = R.bd _ _
  rw [bd_of]; congr 1; funext y s2
  exact optnv _ _
def stR (o : O) (s : S) : R Str := match o with
  | .val (.str i) => .ok i s
  | _ => .stuck
@[simp] theorem stR_str {i : Str} {s : S} : stR (.val (.str i)) s = .ok i s := rfl
theorem strOf_stR (o : O) (s : S) : opt (strOf o) s = stR o s := by exact (match o with | .bor _ => rfl | .val d => by cases d <;> rfl)
def spR2 (z t : Str) (s : S) : R RV := R.bd (optR (fSplit z t) s) nvR
@[simp] theorem spR2_ev {z t : Str} {s : S} : spR2 z t s = R.bd (optR (fSplit z t) s) nvR := rfl
def spR1 (z : Str) (y : O) (s : S) : R RV := R.bd (stR y s) (spR2 z)
@[simp] theorem spR1_ev {z : Str} {y : O} {s : S} : spR1 z y s = R.bd (stR y s) (spR2 z) := rfl
def spR (b : M RV) (x : O) (s : S) : R RV := R.bd (stR x s) (kB (fz b) spR1)
@[simp] theorem spR_ev {b : M RV} {x : O} {s : S} : spR b x s = R.bd (stR x s) (kB (fz b) spR1) := rfl
@[simp] theorem ev_split {a b : M RV} {s : S} : mSplit a b s = R.bd (fz a s) (spR b) := by
  unfold mSplit
  rw [bd_of]; congr 1; funext x s1
  show (opt (strOf x) >>= _) s1 = R.bd _ _
  rw [bd_of, strOf_stR]; congr 1; funext z s2
  show (fz b >>= _) s2 = R.bd _ _
  rw [bd_of]; congr 1; funext y s3
  show _ = R.bd (stR y s3) _
  exact (match y with
    | .bor _ => rfl
    | .val d => by
      cases d with
      | str t => exact optnv _ _
      | _ => rfl)
def jnR1 (z : Str) (y : O) (s : S) : R RV := R.bd (optR (((vL s y).bind dStrs).bind fun ys => fJoin z ys) s) nvR
@[simp] theorem jnR1_ev {z : Str} {y : O} {s : S} : jnR1 z y s = R.bd (optR (((vL s y).bind dStrs).bind fun ys => fJoin z ys) s) nvR := rfl
def jnR (b : M RV) (x : O) (s : S) : R RV := R.bd (stR x s) (kB (fz b) jnR1)
@[simp] theorem jnR_ev {b : M RV} {x : O} {s : S} : jnR b x s = R.bd (stR x s) (kB (fz b) jnR1) := rfl
@[simp] theorem ev_join {a b : M RV} {s : S} : mJoin a b s = R.bd (fz a s) (jnR b) := by
  unfold mJoin
  rw [bd_of]; congr 1; funext x s1
  show (opt (strOf x) >>= _) s1 = R.bd _ _
  rw [bd_of, strOf_stR]; congr 1; funext z s2
  show R.bd (fz b s2) _ = R.bd _ _
  congr 1; funext y s3
  exact optnv _ _
def fmR (x : O) (s : S) : R RV := R.bd (optR ((fmt x).map vSt) s) nvR
@[simp] theorem fmR_ev {x : O} {s : S} : fmR x s = R.bd (optR ((fmt x).map vSt) s) nvR := rfl
@[simp] theorem ev_fmt {a : M RV} {s : S} : mFmt a s = R.bd (fz a s) fmR := by
  unfold mFmt
  rw [bd_of]; congr 1; funext x s1
  exact optnv _ _
@[simp] theorem ev_js0 {acc : Str} {s : S} : mJs [] acc s = .ok (.opd (.val (.str acc))) s := rfl
def jsR (ms : List (M RV)) (acc : Str) (o : O) (s : S) : R RV := R.bd (optR ((strOf o).bind fun y => if (acc ++ y).length ≤ sizeLine then some (acc ++ y) else none) s) (mJs ms)
@[simp] theorem jsR_ev {ms : List (M RV)} {acc y : Str} {s : S} : jsR ms acc (.val (.str y)) s = R.bd (optR (if (acc ++ y).length ≤ sizeLine then some (acc ++ y) else none) s) (mJs ms) := rfl
@[simp] theorem ev_js {m : M RV} {ms : List (M RV)} {acc : Str} {s : S} : mJs (m :: ms) acc s = R.bd (fz m s) (jsR ms acc) := by
  show (fz m >>= fun o => opt _ >>= fun acc' => mJs ms acc') s = _
  rw [bd_of]; congr 1; funext o s1
  show (opt _ >>= _) s1 = R.bd _ _
  rw [bd_of, opt_optR]
end DS
/-! The data layer, part v: rewriting rules for statements, calls, loops' sources. -/
namespace DS
open PySem L2

/-! ### statements -/
@[simp] theorem ev_seq {m k : MS} {s : S} : sSeq m k s = RS.bd (m s) k := by unfold sSeq RS.bd; cases m s <;> rfl
@[simp] theorem ev_next {s : S} : sNext s = .next s := rfl
@[simp] theorem ev_stuck {s : S} : sStuck s = .stuck := rfl
@[simp] theorem ev_brk {s : S} : sBrk s = .brk s := rfl
@[simp] theorem ev_cont {s : S} : sCont s = .cont s := rfl
@[simp] theorem ev_sE {α : Type} {m : M α} {k : α → MS} {s : S} : sE m k s = R.ts (m s) k := by unfold sE R.ts; cases m s <;> rfl
@[simp] theorem ev_putSl {i : Nat} {x : SV} {s : S} : putSl i x s = .next { s with sl := s.sl.set i (some x) } := rfl
def putFz (i : Nat) (d : D) (s : S) : RS := .next { s with sl := s.sl.set i (some (.fz d)) }
@[simp] theorem putFz_ev {i : Nat} {d : D} {s : S} : putFz i d s = .next { s with sl := s.sl.set i (some (.fz d)) } := rfl
@[simp] theorem ev_setOwn {i : Nat} {c : Cont} {s : S} : setRV i (.own c) s = .next { s with sl := s.sl.set i (some (.own c)) } := rfl
@[simp] theorem ev_setOpd {i : Nat} {o : O} {s : S} : setRV i (.opd o) s = R.ts (force1 o s) (putFz i) := by
  show sE (force1 o) (fun d => putSl i (.fz d)) s = _
  rw [ev_sE]; rfl
@[simp] theorem ev_set {i : Nat} {m : M RV} {s : S} : sSet i m s = R.ts (m s) (setRV i) := ev_sE
def dropS (_ : RV) (s : S) : RS := .next s
@[simp] theorem dropS_ev {r : RV} {s : S} : dropS r s = .next s := rfl
@[simp] theorem ev_drop {m : M RV} {s : S} : sDrop m s = R.ts (m s) dropS := ev_sE
@[simp] theorem ev_retV {r : RV} {s : S} : retV r s = .ret r s := rfl
@[simp] theorem ev_ret {m : M RV} {s : S} : sRet m s = R.ts (m s) retV := ev_sE
def wayS (a b : MS) (k : Bool) (s : S) : RS := if k = true then a s else b s
@[simp] theorem wayS_t {a b : MS} {s : S} : wayS a b true s = a s := rfl
@[simp] theorem wayS_f {a b : MS} {s : S} : wayS a b false s = b s := rfl
@[simp] theorem ev_sIf {c : M Bool} {a b : MS} {s : S} : sIf c a b s = R.ts (c s) (wayS a b) := by
  unfold sIf; rw [ev_sE]; congr 1; funext k s; cases k <;> rfl
@[simp] theorem ev_gSet {i : Nat} {d : D} {s : S} : gSet i d s = some { s with sl := s.sl.set i (some (.fz d)) } := rfl
@[simp] theorem ev_gNil {s : S} : gNil [] s = some s := rfl
@[simp] theorem ev_gCons {g : Tg} {r : Tgs} {d : D} {t : List D} {s : S} : gCons g r (d :: t) s = (g d s).bind (r t) := rfl
@[simp] theorem ev_gTup {r : Tgs} {ds : List D} {s : S} : gTup r (.tup ds) s = r ds s := rfl
def oNext (o : Option S) : RS := match o with
  | some s => .next s
  | none => .stuck
@[simp] theorem oNext_some {s : S} : oNext (some s) = .next s := rfl
def asgS (g : Tg) (d : D) (s : S) : RS := oNext (g d s)
@[simp] theorem asgS_ev {g : Tg} {d : D} {s : S} : asgS g d s = oNext (g d s) := rfl
@[simp] theorem ev_asg {g : Tg} {m : M RV} {s : S} : sAsg g m s = R.ts (fc m s) (asgS g) := by
  unfold sAsg; rw [ev_sE]; rfl
def parS (i j : Nat) (ds : List D) (s : S) : RS := match ds with
  | [a, b] => .next { s with sl := (s.sl.set i (some (.fz a))).set j (some (.fz b)) }
  | _ => .stuck
@[simp] theorem parS_ev {i j : Nat} {a b : D} {s : S} : parS i j [a, b] s = .next { s with sl := (s.sl.set i (some (.fz a))).set j (some (.fz b)) } := rfl
@[simp] theorem ev_par {i j : Nat} {m : M (List D)} {s : S} : sPar i j m s = R.ts (m s) (parS i j) := by
  unfold sPar; rw [ev_sE]; rfl
noncomputable def forS (g : Tg) (body : MS) (q : Src) (s : S) : RS := sFor q.chk g body q.xs s
theorem forS_ev {g : Tg} {body : MS} {q : Src} {s : S} : forS g body q s = sFor q.chk g body q.xs s := rfl
@[simp] theorem ev_forM {src : M Src} {g : Tg} {body : MS} {s : S} : sForM src g body s = R.ts (src s) (forS g body) := by
  unfold sForM; rw [ev_sE]; rfl
theorem sFor_nil {chk : S → Prop} {g : Tg} {body : MS} {s : S} (h : chk s) : sFor chk g body [] s = .next s := by unfold sFor; exact if_pos h
/-- one turn that goes on -/
theorem sFor_step {chk : S → Prop} {g : Tg} {body : MS} {d : D} {ds : List D} {s s1 s2 : S} (h : chk s) (e1 : g d s = some s1) (e2 : body s1 = .next s2) : sFor chk g body (d :: ds) s = sFor chk g body ds s2 := by
  conv => lhs; unfold sFor
  rw [if_pos h, e1]
  dsimp only
  rw [e2]
/-- one turn that returns -/
theorem sFor_out {chk : S → Prop} {g : Tg} {body : MS} {d : D} {ds : List D} {s s1 s2 : S} {r : RV} (h : chk s) (e1 : g d s = some s1) (e2 : body s1 = .ret r s2) : sFor chk g body (d :: ds) s = .ret r s2 := by
  conv => lhs; unfold sFor
  rw [if_pos h, e1]
  dsimp only
  rw [e2]
theorem while_stop {n : Nat} {c : M Bool} {b : MS} {s s1 : S} (h : c s = .ok false s1) : sWhile (n + 1) c b s = .next s1 := by
  show sE c _ s = _
  rw [ev_sE, h]; rfl
theorem while_step {n : Nat} {c : M Bool} {b : MS} {s s1 s2 : S} (h : c s = .ok true s1) (h2 : b s1 = .next s2) : sWhile (n + 1) c b s = sWhile n c b s2 := by
  show sE c _ s = _
  rw [ev_sE, h]
  show turnW (sWhile n c b) b s1 = _
  unfold turnW
  rw [h2]
/-! ### stores -/
def kS {α β : Type} (m : S → R β) (h : α → β → S → RS) (a : α) (s : S) : RS := R.ts (m s) (h a)
@[simp] theorem kS_ev {α β : Type} {m : S → R β} {h : α → β → S → RS} {a : α} {s : S} : kS m h a s = R.ts (m s) (h a) := rfl
def putS2 (d : D) (x : O) (k : D) (s : S) : RS := R.ts (mutC x (onL gSetAt [k, d]) s) dropS
@[simp] theorem putS2_ev {d : D} {x : O} {k : D} {s : S} : putS2 d x k s = R.ts (mutC x (onL gSetAt [k, d]) s) dropS := rfl
def putS1 (i : M RV) (d : D) (x : O) (s : S) : RS := R.ts (fc i s) (putS2 d x)
@[simp] theorem putS1_ev {i : M RV} {d : D} {x : O} {s : S} : putS1 i d x s = R.ts (fc i s) (putS2 d x) := rfl
@[simp] theorem ev_put {o i v : M RV} {s : S} : sPut o i v s = R.ts (fc v s) (kS (fz o) (putS1 i)) := by
  unfold sPut
  rw [ev_sE]; congr 1
def putFS (C : Addr) (f : Str) (d : D) (x : O) (s : S) : RS := R.ts (mutC x (fldSet C f d) s) dropS
@[simp] theorem putFS_ev {C : Addr} {f : Str} {d : D} {x : O} {s : S} : putFS C f d x s = R.ts (mutC x (fldSet C f d) s) dropS := rfl
@[simp] theorem ev_putF {C : Addr} {f : Str} {o v : M RV} {s : S} : sPutF C f o v s = R.ts (fc v s) (kS (fz o) (putFS C f)) := by
  unfold sPutF
  rw [ev_sE]; congr 1
def starS (i j : Nat) (d : D) (s : S) : RS := match d with
  | .lst (x :: r) => .next { s with sl := (s.sl.set i (some (.fz x))).set j (some (.own (.lst r))) }
  | _ => .stuck
@[simp] theorem starS_ev {i j : Nat} {x : D} {r : List D} {s : S} : starS i j (.lst (x :: r)) s = .next { s with sl := (s.sl.set i (some (.fz x))).set j (some (.own (.lst r))) } := rfl
@[simp] theorem ev_star {i j : Nat} {m : M RV} {s : S} : sStar i j m s = R.ts (fc m s) (starS i j) := by
  unfold sStar; rw [ev_sE]; congr 1
def matS (k : List D → MS) (d : D) (s : S) : RS := match d with
  | .lst xs => k xs s
  | _ => .stuck
@[simp] theorem matS_ev {k : List D → MS} {xs : List D} {s : S} : matS k (.lst xs) s = k xs s := rfl
@[simp] theorem ev_match {m : M RV} {k : List D → MS} {s : S} : sMatch m k s = R.ts (fc m s) (matS k) := by
  unfold sMatch; rw [ev_sE]; congr 1
@[simp] theorem ev_seq1 {i : Nat} {mb : MS} {k : List D → MS} {d : D} {s : S} : kSeq1 i mb k [d] s = mb { s with sl := s.sl.set i (some (.fz d)) } := rfl
@[simp] theorem ev_seq1' {i : Nat} {mb : MS} {k : List D → MS} {d d' : D} {t : List D} {s : S} : kSeq1 i mb k (d :: d' :: t) s = k (d :: d' :: t) s := rfl
@[simp] theorem ev_seq2 {i j : Nat} {mb : MS} {k : List D → MS} {d d' : D} {s : S} : kSeq2 i j mb k [d, d'] s = mb { s with sl := (s.sl.set i (some (.fz d))).set j (some (.fz d')) } := rfl
/-! ### objects that change -/
@[simp] theorem ev_mutRef {n : Nat} {f : Cont → Option (Cont × NV)} {s : S} {c c' : Cont} {r : NV} (h : s.cs[n]? = some c) (h2 : f c = some (c', r)) : mutC (.val (.ref n)) f s = nvR r { s with cs := s.cs.set n c' } := by
  unfold mutC
  dsimp only
  rw [h]
  dsimp only
  rw [h2]
  exact nv_nvR _ _
@[simp] theorem ev_mutOwn {i : Nat} {f : Cont → Option (Cont × NV)} {s : S} {c c' : Cont} {r : NV} (h : s.sl[i]? = some (some (.own c))) (h2 : f c = some (c', r)) : mutC (.bor i) f s = nvR r { s with sl := s.sl.set i (some (.own c')) } := by
  unfold mutC
  dsimp only
  rw [h]
  dsimp only
  rw [h2]
  exact nv_nvR _ _
def mthR2 (g : List D → List D → Option (List D × NV)) (x : O) (ds : List D) (s : S) : R RV := mutC x (onL g ds) s
theorem mthR2_ev {g : List D → List D → Option (List D × NV)} {x : O} {ds : List D} {s : S} : mthR2 g x ds s = mutC x (onL g ds) s := rfl
theorem mthR2_ref {g : List D → List D → Option (List D × NV)} {n : Nat} {ds xs ys : List D} {s : S} {r : NV} (h : s.cs[n]? = some (.lst xs)) (h2 : g xs ds = some (ys, r)) : mthR2 g (.val (.ref n)) ds s = nvR r { s with cs := s.cs.set n (.lst ys) } :=
  ev_mutRef h (by show (g xs ds).map _ = _; rw [h2]; rfl)
theorem mthR2_own {g : List D → List D → Option (List D × NV)} {i : Nat} {ds xs ys : List D} {s : S} {r : NV} (h : s.sl[i]? = some (some (.own (.lst xs)))) (h2 : g xs ds = some (ys, r)) : mthR2 g (.bor i) ds s = nvR r { s with sl := s.sl.set i (some (.own (.lst ys))) } :=
  ev_mutOwn h (by show (g xs ds).map _ = _; rw [h2]; rfl)
def mthR (g : List D → List D → Option (List D × NV)) (args : M (List D)) (x : O) (s : S) : R RV := match vL s x with
  | some _ => R.bd (args s) (mthR2 g x)
  | none => .stuck
theorem mthR_ev {g : List D → List D → Option (List D × NV)} {args : M (List D)} {x : O} {s : S} {xs : List D} (h : vL s x = some xs) : mthR g args x s = R.bd (args s) (mthR2 g x) := by unfold mthR; rw [h]
@[simp] theorem ev_meth {g : List D → List D → Option (List D × NV)} {o : M RV} {args : M (List D)} {s : S} : mMeth g o args s = R.bd (fz o s) (mthR g args) := by
  unfold mMeth
  show R.bd (fz o s) _ = _
  congr 1; funext x s1
  rw [bd_of]
  unfold isL mthR
  cases vL s1 x <;> rfl
/-! ### calls -/
def frR (r : FR) (sl : Sl) : R RV := match r with
  | .ok (.val d) cs => .ok (.opd (.val d)) ⟨cs, sl⟩
  | .ok (.own c) cs => .ok (.own c) ⟨cs, sl⟩
  | .exn x cs => .exn x ⟨cs, sl⟩
  | .stuck => .stuck
@[simp] theorem frR_val {d : D} {cs : List Cont} {sl : Sl} : frR (.ok (.val d) cs) sl = .ok (.opd (.val d)) ⟨cs, sl⟩ := rfl
@[simp] theorem frR_own {c : Cont} {cs : List Cont} {sl : Sl} : frR (.ok (.own c) cs) sl = .ok (.own c) ⟨cs, sl⟩ := rfl
@[simp] theorem frR_exn {x : Exn} {cs : List Cont} {sl : Sl} : frR (.exn x cs) sl = .exn x ⟨cs, sl⟩ := rfl
@[simp] theorem ev_callF {φ : Fn} {ds : List D} {s : S} : callF φ ds s = frR (φ ds s.cs) s.sl := by
  unfold callF frR
  split <;> simp_all
@[simp] theorem ev_call {φ : Fn} {args : M (List D)} {s : S} : mCall φ args s = R.bd (args s) (callF φ) := rfl
def ckR (φ : Fn) (ds es : List D) (s : S) : R RV := callF φ (ds ++ es) s
@[simp] theorem ckR_ev {φ : Fn} {ds es : List D} {s : S} : ckR φ ds es s = frR (φ (ds ++ es) s.cs) s.sl := ev_callF
@[simp] theorem ev_callK {φ : Fn} {args kw : M (List D)} {s : S} : mCallK φ args kw s = R.bd (args s) (kB kw (ckR φ)) := rfl
def frN (r : FR) (sl : Sl) : R RV := match r with
  | .ok (.val d) cs => .ok (.opd (.val d)) ⟨cs, sl⟩
  | .ok (.own c) cs => .ok (.own c) ⟨cs, sl⟩
  | _ => .stuck
@[simp] theorem frN_val {d : D} {cs : List Cont} {sl : Sl} : frN (.ok (.val d) cs) sl = .ok (.opd (.val d)) ⟨cs, sl⟩ := rfl
@[simp] theorem frN_own {c : Cont} {cs : List Cont} {sl : Sl} : frN (.ok (.own c) cs) sl = .ok (.own c) ⟨cs, sl⟩ := rfl
theorem insD_ref {s : S} {n : Nat} {C : Addr} {fs : List (Str × D)} (h : s.cs[n]? = some (.ins C fs)) : insD s (.val (.ref n)) = some (C, fs) := by
  unfold insD
  dsimp only
  rw [h]
def prR (C : Addr) (φ : Fn) (x : O) (s : S) : R RV := match insD s x with
  | some (C', _) => if C' = C then (match x with | .val d => frN (φ [d] s.cs) s.sl | _ => .stuck) else .stuck
  | none => .stuck
theorem prR_ev {C : Addr} {φ : Fn} {n : Nat} {s : S} {fs : List (Str × D)} (h : s.cs[n]? = some (.ins C fs)) : prR C φ (.val (.ref n)) s = frN (φ [.ref n] s.cs) s.sl := by
  unfold prR
  rw [insD_ref h]
  dsimp only
  rw [if_pos rfl]
@[simp] theorem ev_prop {C : Addr} {φ : Fn} {o : M RV} {s : S} : mProp C φ o s = R.bd (fz o s) (prR C φ) := by
  unfold mProp
  show R.bd (fz o s) _ = _
  congr 1
def fdR (C : Addr) (f : Str) (x : O) (s : S) : R RV := match insD s x with
  | some (C', fs) => if C' = C then (match fs.lookup f with | some d => .ok (.opd (.val d)) s | none => .stuck) else .stuck
  | none => .stuck
theorem fdR_ev {C : Addr} {f : Str} {n : Nat} {s : S} {fs : List (Str × D)} {d : D} (h : s.cs[n]? = some (.ins C fs)) (hl : fs.lookup f = some d) : fdR C f (.val (.ref n)) s = .ok (.opd (.val d)) s := by
  unfold fdR
  rw [insD_ref h]
  dsimp only
  rw [if_pos rfl, hl]
@[simp] theorem ev_fld {C : Addr} {f : Str} {m : M RV} {s : S} : mFld C f m s = R.bd (fz m s) (fdR C f) := by
  unfold mFld
  show R.bd (fz m s) _ = _
  congr 1; funext x s1
  unfold fdR
  cases insD s1 x with
  | none => rfl
  | some q =>
    obtain ⟨C', fs⟩ := q
    dsimp only
    by_cases hc : C' = C
    · rw [if_pos hc, if_pos hc]
      cases fs.lookup f <;> rfl
    · rw [if_neg hc, if_neg hc]
def mcR (C : Addr) (m : Str) (φ : Fn) (args : M (List D)) (x : O) (s : S) : R RV := R.bd (insOf C m x s) (kB args fun d ds => callF φ (d :: ds))
theorem mcR_ev {C : Addr} {m : Str} {φ : Fn} {args : M (List D)} {n : Nat} {s : S} {fs : List (Str × D)} (h : s.cs[n]? = some (.ins C fs)) (hl : fs.lookup m = none) : mcR C m φ args (.val (.ref n)) s = R.bd (args s) fun ds => callF φ (.ref n :: ds) := by
  unfold mcR insOf
  rw [insD_ref h]
  dsimp only
  rw [if_pos ⟨rfl, hl⟩]
  rfl
@[simp] theorem ev_methC {C : Addr} {m : Str} {φ : Fn} {o : M RV} {args : M (List D)} {s : S} : mMethC C m φ o args s = R.bd (fz o s) (mcR C m φ args) := rfl
@[simp] theorem ev_make {C : Addr} {φ : Fn} {args : M (List D)} {s : S} : mMake C φ args s = R.bd (args s) (mMakeC C φ) := rfl
theorem mMakeC_ev {C : Addr} {φ : Fn} {ds : List D} {s : S} {cs : List Cont} (h : φ (.ref s.cs.length :: ds) (s.cs ++ [.ins C []]) = .ok (.val .non) cs) : mMakeC C φ ds s = .ok (.opd (.val (.ref s.cs.length))) { s with cs := cs } := by
  unfold mMakeC
  rw [h]
@[simp] theorem isCls_ev {C : Addr} {s : S} : isCls C (.obj (.ref C)) s = .ok () s := if_pos rfl
def oSeqR (d : D) (s : S) : R (List D) := optR (seqD d) s
@[simp] theorem oSeq_lst {xs : List D} {s : S} : oSeq (.lst xs) s = .ok xs s := rfl
@[simp] theorem oSeq_klst {xs : List D} {s : S} : oSeq (.klst xs) s = .ok xs s := rfl
@[simp] theorem oSeq_tup {xs : List D} {s : S} : oSeq (.tup xs) s = .ok xs s := rfl
def msR3 (C : Addr) (φ : Fn) (xs es : List D) (s : S) : R RV := mMakeC C φ (xs ++ es) s
theorem msR3_ev {C : Addr} {φ : Fn} {xs es : List D} {s : S} : msR3 C φ xs es s = mMakeC C φ (xs ++ es) s := rfl
def msR2 (C : Addr) (φ : Fn) (kw : M (List D)) (d : D) (s : S) : R RV := R.bd (oSeq d s) (kB kw (msR3 C φ))
@[simp] theorem msR2_ev {C : Addr} {φ : Fn} {kw : M (List D)} {d : D} {s : S} : msR2 C φ kw d s = R.bd (oSeq d s) (kB kw (msR3 C φ)) := rfl
def msR1 (C : Addr) (φ : Fn) (a : M RV) (kw : M (List D)) (q : D) (s : S) : R RV := R.bd (isCls C q s) fun _ s => R.bd (fc a s) (msR2 C φ kw)
@[simp] theorem msR1_ev {C : Addr} {φ : Fn} {a : M RV} {kw : M (List D)} {s : S} : msR1 C φ a kw (.obj (.ref C)) s = R.bd (fc a s) (msR2 C φ kw) := by
  unfold msR1; rw [isCls_ev]; rfl
@[simp] theorem ev_makeS {C : Addr} {φ : Fn} {c a : M RV} {kw : M (List D)} {s : S} : mMakeS C φ c a kw s = R.bd (fc c s) (msR1 C φ a kw) := rfl
/-! ### sources -/
theorem oSrc_optR (o : Option Src) (s : S) : oSrc o s = optR o s := by cases o <;> rfl
def ovL (d : D) (s : S) : R Src := optR (srcL d s) s
@[simp] theorem ovL_lst {xs : List D} {s : S} : ovL (.lst xs) s = .ok ⟨xs, fun _ => True⟩ s := rfl
@[simp] theorem ovL_klst {xs : List D} {s : S} : ovL (.klst xs) s = .ok ⟨xs, fun _ => True⟩ s := rfl
theorem ovL_ref {n : Nat} {xs : List D} {s : S} (h : s.cs[n]? = some (.lst xs)) : ovL (.ref n) s = .ok ⟨xs, fun s => s.cs[n]? = some (.lst xs)⟩ s := by
  unfold ovL srcL
  dsimp only
  rw [h]
  rfl
@[simp] theorem ev_overL {m : M RV} {s : S} : mOverL m s = R.bd (fc m s) ovL := by
  unfold mOverL
  show R.bd (fc m s) _ = _
  congr 1; funext d s1
  exact oSrc_optR _ _
def ovT (d : D) (s : S) : R Src := optR (srcT d) s
@[simp] theorem ovT_tup {xs : List D} {s : S} : ovT (.tup xs) s = .ok ⟨xs, fun _ => True⟩ s := rfl
@[simp] theorem ev_overT {m : M RV} {s : S} : mOverT m s = R.bd (fc m s) ovT := by
  unfold mOverT
  show R.bd (fc m s) _ = _
  congr 1; funext d s1
  exact oSrc_optR _ _
def ovS (d : D) (s : S) : R Src := optR (srcS d) s
@[simp] theorem ovS_str {x : Str} {s : S} : ovS (.str x) s = .ok ⟨x.cps.toList.map fun c => .str ⟨#[c]⟩, fun _ => True⟩ s := rfl
@[simp] theorem ev_overS {m : M RV} {s : S} : mOverS m s = R.bd (fc m s) ovS := by
  unfold mOverS
  show R.bd (fc m s) _ = _
  congr 1; funext d s1
  exact oSrc_optR _ _
def rg1 (ds : List D) (s : S) : R Src := optR (srcR1 ds) s
theorem rg1_ok {j : Int} {s : S} (h0 : -(2 ^ 62) ≤ j) (h1 : j < 2 ^ 62) : rg1 [.int j] s = .ok ⟨rngD 0 j.toNat, fun _ => True⟩ s := by
  unfold rg1 srcR1
  dsimp only
  rw [if_pos ⟨h0, h1⟩]; rfl
@[simp] theorem ev_range1 {m : M (List D)} {s : S} : mRange1 m s = R.bd (m s) rg1 := by
  unfold mRange1
  rw [bd_of]; congr 1; funext d s1
  exact oSrc_optR _ _
def rg2 (ds : List D) (s : S) : R Src := optR (srcR2 ds) s
theorem rg2_ok {i j : Int} {s : S} (h : -(2 ^ 62) ≤ i ∧ i < 2 ^ 62 ∧ -(2 ^ 62) ≤ j ∧ j < 2 ^ 62) : rg2 [.int i, .int j] s = .ok ⟨rngD i (j - i).toNat, fun _ => True⟩ s := by
  unfold rg2 srcR2
  dsimp only
  rw [if_pos h]; rfl
@[simp] theorem ev_range2 {m : M (List D)} {s : S} : mRange2 m s = R.bd (m s) rg2 := by
  unfold mRange2
  rw [bd_of]; congr 1; funext d s1
  exact oSrc_optR _ _
def enR (ds : List D) (s : S) : R Src := optR (srcE 0 ds s) s
theorem enR_ev {ds : List D} {s : S} : enR ds s = optR (srcE 0 ds s) s := rfl
@[simp] theorem enR_lst {xs : List D} {s : S} : enR [.lst xs] s = .ok ⟨enumD 0 xs, fun _ => True⟩ s := rfl
@[simp] theorem enR_klst {xs : List D} {s : S} : enR [.klst xs] s = .ok ⟨enumD 0 xs, fun _ => True⟩ s := rfl
@[simp] theorem ev_enum {m : M (List D)} {s : S} : mEnum m s = R.bd (m s) enR := by
  unfold mEnum
  show R.bd (m s) _ = _
  congr 1; funext d s1
  exact oSrc_optR _ _
def enSR (ds : List D) (s : S) : R Src := optR (srcES ds s) s
@[simp] theorem enSR_lst1 {xs : List D} {s : S} : enSR [.lst xs, .int 1] s = .ok ⟨enumD 1 xs, fun _ => True⟩ s := rfl
@[simp] theorem ev_enumS {m : M (List D)} {s : S} : mEnumS m s = R.bd (m s) enSR := by
  unfold mEnumS
  show R.bd (m s) _ = _
  congr 1; funext d s1
  exact oSrc_optR _ _
def zpR (ds : List D) (s : S) : R Src := optR ((srcZ ds s).or (srcZT ds)) s
@[simp] theorem zpR_lst {xs ys : List D} {s : S} : zpR [.lst xs, .lst ys] s = .ok ⟨zipD xs ys, fun _ => True ∧ True⟩ s := rfl
@[simp] theorem ev_zip {m : M (List D)} {s : S} : mZip m s = R.bd (m s) zpR := by
  unfold mZip
  show R.bd (m s) _ = _
  congr 1; funext d s1
  exact oSrc_optR _ _
@[simp] theorem ev_lc {src : M Src} {g : Tg} {t : M Bool} {e : M RV} {vs : List Nat} {s : S} : mLc src g t e vs s = R.bd (src s) (lcRun g t (fc e) vs) := rfl
@[simp] theorem ev_yes {s : S} : mYes s = .ok true s := rfl
/-! ### a def -/
def finR (r : RS) : FR := match r with
  | .next s => .ok (.val .non) s.cs
  | .ret r s => retF r s
  | .exn x s => .exn x s.cs
  | _ => .stuck
@[simp] theorem finR_next {s : S} : finR (.next s) = .ok (.val .non) s.cs := rfl
@[simp] theorem finR_own {c : Cont} {s : S} : finR (.ret (.own c) s) = .ok (.own c) s.cs := rfl
@[simp] theorem finR_val {d : D} {s : S} : finR (.ret (.opd (.val d)) s) = .ok (.val d) s.cs := rfl
@[simp] theorem finR_exn {x : Exn} {s : S} : finR (.exn x s) = .exn x s.cs := rfl
def bfR (x : Option (Option SV)) (cs : List Cont) : FR := match x with
  | some (some (.own c)) => .ok (.own c) cs
  | some (some (.fz d)) => .ok (.val d) cs
  | _ => .stuck
@[simp] theorem bfR_own {c : Cont} {cs : List Cont} : bfR (some (some (.own c))) cs = .ok (.own c) cs := rfl
@[simp] theorem bfR_fz {d : D} {cs : List Cont} : bfR (some (some (.fz d))) cs = .ok (.val d) cs := rfl
@[simp] theorem finR_bor {i : Nat} {s : S} : finR (.ret (.opd (.bor i)) s) = bfR s.sl[i]? s.cs := rfl
end DS
/-! The data layer, part w: rewriting rules for the single operations. -/
namespace DS
open PySem L2

/-! ### what stands there -/
def slD (x : Option (Option SV)) : Option D := match x with
  | some (some (.own c)) => some c.toD
  | some (some (.fz d)) => some d
  | _ => none
@[simp] theorem slD_own {c : Cont} : slD (some (some (.own c))) = some c.toD := rfl
@[simp] theorem slD_fz {d : D} : slD (some (some (.fz d))) = some d := rfl
@[simp] theorem dat_val {s : S} {d : D} : dat s (.val d) = some d := rfl
@[simp] theorem dat_bor {s : S} {i : Nat} : dat s (.bor i) = slD s.sl[i]? := rfl
@[simp] theorem toD_lst {xs : List D} : (Cont.lst xs).toD = .lst xs := rfl
def ctL (x : Option Cont) : Option (List D) := match x with
  | some (.lst xs) => some xs
  | _ => none
@[simp] theorem ctL_lst {xs : List D} : ctL (some (.lst xs)) = some xs := rfl
@[simp] theorem ctL_ins {C : Addr} {fs : List (Str × D)} : ctL (some (.ins C fs)) = none := rfl
def daL (cs : List Cont) (x : Option D) : Option (List D) := match x with
  | some (.lst xs) => some xs
  | some (.klst xs) => some xs
  | some (.ref n) => ctL cs[n]?
  | _ => none
@[simp] theorem vL_ev {s : S} {o : O} : vL s o = daL s.cs (dat s o) := by
  unfold vL daL
  cases dat s o with
  | none => rfl
  | some d => cases d <;> rfl
def daX (cs : List Cont) (x : Option D) : Option (List D) := match x with
  | some (.lst xs) => some xs
  | some (.ref n) => ctL cs[n]?
  | _ => none
@[simp] theorem vX_ev {s : S} {o : O} : vX s o = daX s.cs (dat s o) := by
  unfold vX daX
  cases dat s o with
  | none => rfl
  | some d => cases d <;> rfl
def daT (x : Option D) : Option (List D) := match x with
  | some (.tup xs) => some xs
  | _ => none
@[simp] theorem vT_ev {s : S} {o : O} : vT s o = daT (dat s o) := by
  unfold vT daT
  cases dat s o with
  | none => rfl
  | some d => cases d <;> rfl
section
variable {cs : List Cont} {xs : List D} {i : Int} {z : Str} {k : Bool} {n : Nat}
@[simp] theorem daL_lst : daL cs (some (.lst xs)) = some xs := rfl
@[simp] theorem daL_klst : daL cs (some (.klst xs)) = some xs := rfl
@[simp] theorem daL_ref : daL cs (some (.ref n)) = ctL cs[n]? := rfl
@[simp] theorem daL_tup : daL cs (some (.tup xs)) = none := rfl
@[simp] theorem daL_int : daL cs (some (.int i)) = none := rfl
@[simp] theorem daL_str : daL cs (some (.str z)) = none := rfl
@[simp] theorem daL_non : daL cs (some .non) = none := rfl
@[simp] theorem daL_bl : daL cs (some (.bl k)) = none := rfl
@[simp] theorem daX_lst : daX cs (some (.lst xs)) = some xs := rfl
@[simp] theorem daX_ref : daX cs (some (.ref n)) = ctL cs[n]? := rfl
@[simp] theorem daX_str : daX cs (some (.str z)) = none := rfl
@[simp] theorem daX_int : daX cs (some (.int i)) = none := rfl
@[simp] theorem daX_tup : daX cs (some (.tup xs)) = none := rfl
@[simp] theorem daX_klst : daX cs (some (.klst xs)) = none := rfl
@[simp] theorem daT_tup : daT (some (.tup xs)) = some xs := rfl
@[simp] theorem daT_lst : daT (some (.lst xs)) = none := rfl
@[simp] theorem daT_klst : daT (some (.klst xs)) = none := rfl
@[simp] theorem daT_ref : daT (some (.ref n)) = none := rfl
@[simp] theorem daT_int : daT (some (.int i)) = none := rfl
@[simp] theorem daT_str : daT (some (.str z)) = none := rfl
@[simp] theorem daT_non : daT (some .non) = none := rfl
@[simp] theorem daT_bl : daT (some (.bl k)) = none := rfl
def orO (a b : Option (List D)) : Option (List D) := match a with
  | some x => some x
  | none => b
@[simp] theorem orO_some {b : Option (List D)} : orO (some xs) b = some xs := rfl
@[simp] theorem orO_none {b : Option (List D)} : orO none b = b := rfl
@[simp] theorem vS_ev {s : S} {o : O} : vS s o = orO (daL s.cs (dat s o)) (daT (dat s o)) := by
  unfold vS orO
  (rw [vL_ev, vT_ev]) <;> (split <;> simp_all)
end
/-! ### ints -/
section
variable {s : S} {i j : Int}
@[simp] theorem fAdd_int : fAdd s (.val (.int i)) (.val (.int j)) = some (vI (i + j)) := rfl
@[simp] theorem fSub_int : fSub s (.val (.int i)) (.val (.int j)) = some (vI (i - j)) := rfl
theorem fMod_int (h : 0 < j) : fMod s (.val (.int i)) (.val (.int j)) = some (vI (i % j)) := if_pos h
theorem fDiv_int (h : 0 < j) (h2 : j.natAbs.log2 < 9000) : fDiv s (.val (.int i)) (.val (.int j)) = some (vI (i / j)) := if_pos ⟨h, h2⟩
theorem fMul_int (h : MulOk i j) : fMul s (.val (.int i)) (.val (.int j)) = some (vI (i * j)) := if_pos h
theorem fPow_int (h : PowOk i j) : fPow s (.val (.int i)) (.val (.int j)) = some (vI (i ^ j.toNat)) := if_pos h
@[simp] theorem fCmp_int {p : Int → Int → Bool} : fCmp p s (.val (.int i)) (.val (.int j)) = some (vB (p i j)) := rfl
@[simp] theorem fEq_int : fEq s (.val (.int i)) (.val (.int j)) = some (vB (decide (i = j))) := by
  simp [fEq, fOr, fEqS, sc, scal]
@[simp] theorem fNe_int : fNe s (.val (.int i)) (.val (.int j)) = some (vB (!decide (i = j))) := by
  simp [fNe, fOr, fEqS, sc, scal]
@[simp] theorem fEq_str {x y : Str} : fEq s (.val (.str x)) (.val (.str y)) = some (vB (decide (x = y))) := by
  simp [fEq, fOr, fEqS, sc, scal]
@[simp] theorem fNe_str {x y : Str} : fNe s (.val (.str x)) (.val (.str y)) = some (vB (!decide (x = y))) := by
  simp [fNe, fOr, fEqS, sc, scal]
@[simp] theorem pLt_ev : pLt i j = decide (i < j) := rfl
@[simp] theorem pLe_ev : pLe i j = decide (i ≤ j) := rfl
@[simp] theorem pGt_ev : pGt i j = decide (j < i) := rfl
@[simp] theorem pGe_ev : pGe i j = decide (j ≤ i) := rfl
/-! ### texts -/
theorem fAdd_str {x y : Str} (h : x.length + y.length ≤ sizeLine) : fAdd s (.val (.str x)) (.val (.str y)) = some (vSt (x ++ y)) := by
  simp [fAdd, fOr, fAddI, fI, fAddS, fStr, h]
theorem fAdd_lst {x y : O} {xs ys : List D} (hx : vX s x = some xs) (hy : vX s y = some ys) (h : xs.length + ys.length ≤ sizeLine) : fAdd s x y = some (.lst (xs ++ ys)) := by
  have e1 : fAddI s x y = none := by
    unfold fAddI fI
    split
    · rename_i i j; simp at hx
    · rfl
  have e2 : fAddS s x y = none := by
    unfold fAddS fStr
    split
    · rename_i i j; simp at hx
    · rfl
  have e3 : fAddL s x y = some (.lst (xs ++ ys)) := by
    unfold fAddL
    rw [hx, hy]
    dsimp only
    rw [if_pos h]
  simp only [fAdd, fOr, e1, e2, e3]
/-! ### places, lengths -/
def ixR (o : Option D) : Option NV := match o with
  | some d => some (.opd (.val d))
  | none => none
@[simp] theorem ixR_some {d : D} : ixR (some d) = some (.opd (.val d)) := rfl
theorem fIx_seq {x : O} {xs : List D} (h : vS s x = some xs) : fIx s x (.val (.int i)) = ixR (atI xs i) := by
  unfold fIx
  dsimp only
  rw [h]
  rfl
theorem fIx_ok {x : O} {xs : List D} {d : D} (h : vS s x = some xs) (h2 : atI xs i = some d) : fIx s x (.val (.int i)) = some (.opd (.val d)) := by
  rw [fIx_seq h, h2]; rfl
theorem fIx_str {z : Str} {c : Nat} (h : atI z.cps.toList i = some c) (hz : z.length ≤ sizeLine) : fIx s (.val (.str z)) (.val (.int i)) = some (vSt ⟨#[c]⟩) := by
  unfold fIx
  dsimp only
  rw [show vS s (.val (.str z)) = none from rfl]
  dsimp only
  rw [h]
  dsimp only
  rw [if_pos hz]
theorem fLen_seq {x : O} {xs : List D} (h : vS s x = some xs) : f1 fLen s [x] = some (vI xs.length) := by
  show fLen s x = _
  unfold fLen
  rw [h]
theorem fLen_str {z : Str} (hz : z.length ≤ sizeLine) : f1 fLen s [.val (.str z)] = some (vI z.length) := by
  show fLen s (.val (.str z)) = _
  unfold fLen
  rw [show vS s (.val (.str z)) = none from rfl]
  dsimp only
  rw [if_pos hz]
theorem atI_nat {α : Type} {xs : List α} {n : Nat} : atI xs (n : Int) = xs[n]? := by
  unfold atI ixN
  by_cases h : n < xs.length
  · rw [if_pos (by omega), if_pos (by omega)]; simp
  · rw [if_pos (by omega), if_neg (by omega)]
    rw [List.getElem?_eq_none (by omega)]; rfl
@[simp] theorem atI_zero {α : Type} {xs : List α} : atI xs 0 = xs[0]? := atI_nat (n := 0)
@[simp] theorem atI_one {α : Type} {xs : List α} : atI xs 1 = xs[1]? := atI_nat (n := 1)
@[simp] theorem atI_two {α : Type} {xs : List α} : atI xs 2 = xs[2]? := atI_nat (n := 2)
theorem atI_last {α : Type} {xs : List α} {x : α} : atI (xs ++ [x]) (-1) = some x := by
  unfold atI ixN
  rw [if_neg (by omega), if_pos (by simp; omega)]
  have e : ((-1 : Int) + ((xs ++ [x]).length : Nat)).toNat = xs.length := by simp; omega
  simp only [Option.bind_some, e]
  simp
/-! ### isinstance -/
def tyOf (n : String) : Option Ty := [Ty.int, .bool, .str, .list, .tuple, .dict].find? fun t => t.name == n
@[simp] theorem tyOf_int : tyOf "int" = some .int := by decide
@[simp] theorem tyOf_bool : tyOf "bool" = some .bool := by decide
@[simp] theorem tyOf_str : tyOf "str" = some .str := by decide
@[simp] theorem tyOf_list : tyOf "list" = some .list := by decide
@[simp] theorem tyOf_tuple : tyOf "tuple" = some .tuple := by decide
def isiR (k : Option (Option Ty)) (t : Option Ty) : Option NV := match k, t with
  | some k, some t => some (vB (isTy k t))
  | _, _ => none
@[simp] theorem isiR_ev {k : Option Ty} {t : Ty} : isiR (some k) (some t) = some (vB (isTy k t)) := rfl
@[simp] theorem fIsi_ev {o : O} {n : String} : fIsi s [o, .val (.obj (.ty n))] = isiR (kindD s o) (tyOf n) := by
  show (match kindD s o, tyOf n with
    | some k, some t => some (vB (isTy k t))
    | _, _ => none) = _
  unfold isiR
  rfl
@[simp] theorem kind_int : kindD s (.val (.int i)) = some (some .int) := rfl
@[simp] theorem kind_bl {k : Bool} : kindD s (.val (.bl k)) = some (some .bool) := rfl
@[simp] theorem kind_str {z : Str} : kindD s (.val (.str z)) = some (some .str) := rfl
@[simp] theorem kind_lst {xs : List D} : kindD s (.val (.lst xs)) = some (some .list) := rfl
@[simp] theorem kind_klst {xs : List D} : kindD s (.val (.klst xs)) = some (some .list) := rfl
@[simp] theorem kind_tup {xs : List D} : kindD s (.val (.tup xs)) = some (some .tuple) := rfl
@[simp] theorem kind_non : kindD s (.val .non) = some none := rfl
@[simp] theorem isTy_no {t : Ty} : isTy none t = false := rfl
@[simp] theorem isTy_same {t : Ty} : isTy (some t) t = true := by cases t <;> rfl
@[simp] theorem isTy_ib : isTy (some .int) .bool = false := rfl
@[simp] theorem isTy_bi : isTy (some .bool) .int = true := rfl
@[simp] theorem isTy_si : isTy (some .str) .int = false := rfl
@[simp] theorem isTy_li : isTy (some .list) .int = false := rfl
@[simp] theorem isTy_ti : isTy (some .tuple) .int = false := rfl
@[simp] theorem isTy_ls : isTy (some .list) .str = false := rfl
@[simp] theorem isTy_is : isTy (some .int) .str = false := rfl
/-! ### truth, None -/
@[simp] theorem tru_bl {k : Bool} : truD s (.val (.bl k)) = some k := rfl
@[simp] theorem tru_non : truD s (.val .non) = some false := rfl
@[simp] theorem tru_int : truD s (.val (.int i)) = some (i != 0) := rfl
def isnR (neg : Bool) (b : Option Bool) : Option NV := match b with
  | some b => some (vB (if neg then !b else b))
  | none => none
@[simp] theorem isnR_some {neg b : Bool} : isnR neg (some b) = some (vB (if neg then !b else b)) := rfl
@[simp] theorem fIsN_ev {neg : Bool} {d : D} : fIsN neg s (.val d) (.val .non) = isnR neg (isNonD d) := rfl
@[simp] theorem isNon_non : isNonD .non = some true := rfl
@[simp] theorem isNon_int : isNonD (.int i) = some false := rfl
@[simp] theorem isNon_str {z : Str} : isNonD (.str z) = some false := rfl
@[simp] theorem isNon_tup {xs : List D} : isNonD (.tup xs) = some false := rfl
@[simp] theorem isNon_lst {xs : List D} : isNonD (.lst xs) = some false := rfl
@[simp] theorem isNon_ref {n : Nat} : isNonD (.ref n) = some false := rfl
/-! ### built-in functions -/
@[simp] theorem fAll_bls {x : O} {bs : List Bool} (h : (vL s x).bind dBls = some bs) : f1 fAll s [x] = some (vB (bs.all id)) := by
  show fAll s x = _
  unfold fAll
  rw [h]; rfl
@[simp] theorem fAbs_int : f1 fAbs s [.val (.int i)] = some (vI (if i < 0 then -i else i)) := rfl
@[simp] theorem fMax2_int : fMax2 s [.val (.int i), .val (.int j)] = some (vI (if j > i then j else i)) := rfl
@[simp] theorem fMin2_int : fMin2 s [.val (.int i), .val (.int j)] = some (vI (if j < i then j else i)) := rfl
@[simp] theorem fInt_int : f1 fInt s [.val (.int i)] = some (vI i) := rfl
theorem fInt_str {z : Str} {n : Int} (h : z.length ≤ 640) (h2 : PySem.intText? z = some n) : f1 fInt s [.val (.str z)] = some (vI n) := by
  show (if z.length ≤ 640 then (PySem.intText? z).map fun n => vI n else none) = _
  rw [if_pos h, h2]; rfl
/-- the text of an int -/
def iStr (i : Int) : Str := toString i
theorem fStr_int (h : i.natAbs.log2 < 1920) : f1 fStrI s [.val (.int i)] = some (vSt (iStr i)) := if_pos h
theorem fListOf_seq {x : O} {xs : List D} (h : vS s x = some xs) : f1 fListOf s [x] = some (.lst xs) := by
  show (vS s x).map _ = _
  rw [h]; rfl
theorem fSorted_ok {x : O} {ns : List Int} (h : (vL s x).bind dInts = some ns) : f1 fSorted s [x] = some (.lst ((ns.mergeSort (· ≤ ·)).map D.int)) := by
  show ((vL s x).bind dInts).map _ = _
  rw [h]; rfl
@[simp] theorem fmt_str {z : Str} (h : z.length ≤ sizeLine) : fmt (.val (.str z)) = some z := if_pos h
theorem fmt_int (h : i.natAbs.log2 < 1920) : fmt (.val (.int i)) = some (iStr i) := if_pos h
end
/-! ### texts as lists of signs -/
abbrev Tx (l : List Nat) : Str := ⟨l.toArray⟩
@[simp] theorem Tx_len (l : List Nat) : (Tx l).length = l.length := by simp [Str.length]
@[simp] theorem Tx_cat (a b : List Nat) : Tx a ++ Tx b = Tx (a ++ b) := SX.S_cat a b
@[simp] theorem Tx_eq (a b : List Nat) : Tx a = Tx b ↔ a = b := ⟨SX.S_inj, fun h => by rw [h]⟩
theorem iStr_nat (n : Nat) : iStr (n : Int) = Tx (TL.numL n) := SX.num_S n
end DS
/-! The data layer, part x: repr and == of nested data, run. -/
namespace DS
open PySem L2

/-! ### how long a repr can be -/
mutual
def cost : PyData → Nat
  | .none => 4
  | .bool _ => 5
  | .int i => i.natAbs.log2 + 2
  | .str x => 10 * x.length + 2
  | .list xs => costs xs + 2
  | .tuple xs => costs xs + 3
  | .dict _ => 0
def costs : List PyData → Nat
  | [] => 0
  | x :: xs => cost x + 2 + costs xs
end
mutual
/-- told here: no dicts, ints that can be written, signs that are signs -/
def told : PyData → Bool
  | .none | .bool _ => true
  | .int i => decide (i.natAbs.log2 < 1920)
  | .str x => x.cps.all (· < 0x110000)
  | .list xs | .tuple xs => tolds xs
  | .dict _ => false
def tolds : List PyData → Bool
  | [] => true
  | x :: xs => told x && tolds xs
end
mutual
theorem told_show : ∀ d : PyData, told d = true → d.showable = true
  | .none, _ => by simp only [PyData.showable]
  | .bool _, _ => by simp only [PyData.showable]
  | .int i, h => by simp only [PyData.showable]; simpa [told] using h
  | .str _, _ => by simp only [PyData.showable]
  | .list xs, h => by simp only [PyData.showable]; exact tolds_show xs (by simpa [told] using h)
  | .tuple xs, h => by simp only [PyData.showable]; exact tolds_show xs (by simpa [told] using h)
  | .dict _, h => by simp [told] at h
theorem tolds_show : ∀ ds : List PyData, tolds ds = true → PyData.showableAll ds = true
  | [], _ => by simp only [PyData.showableAll]
  | d :: ds, h => by
    have h : told d = true ∧ tolds ds = true := by simpa [tolds] using h
    simp only [PyData.showableAll, told_show d h.1, tolds_show ds h.2, Bool.and_self]
end
mutual
theorem told_lay : ∀ d : PyData, told d = true → d.canLay0 = true
  | .none, _ => by simp only [PyData.canLay0]
  | .bool _, _ => by simp only [PyData.canLay0]
  | .int i, _ => by simp only [PyData.canLay0]
  | .str x, h => by
    simp only [PyData.canLay0]
    have h : x.cps.all (· < 0x110000) = true := by simpa only [told] using h
    exact h
  | .list xs, h => by simp only [PyData.canLay0]; exact tolds_lay xs (by simpa [told] using h)
  | .tuple xs, h => by simp only [PyData.canLay0]; exact tolds_lay xs (by simpa [told] using h)
  | .dict _, h => by simp [told] at h
theorem tolds_lay : ∀ ds : List PyData, tolds ds = true → PyData.canLayAll0 ds = true
  | [], _ => by simp only [PyData.canLayAll0]
  | d :: ds, h => by
    have h : told d = true ∧ tolds ds = true := by simpa [tolds] using h
    simp only [PyData.canLayAll0, told_lay d h.1, tolds_lay ds h.2, Bool.and_self]
end
theorem join_len (ts : List Str) : (Str.join ", " ts).length ≤ piled ts := by
  cases ts with
  | nil => exact Nat.zero_le _
  | cons t r => have := join_length_add (t :: r) (by simp); omega
theorem lt_log (i : Int) : i.natAbs.log2 < i.natAbs.log2 + 1 := Nat.lt_succ_self _
theorem int_len (i : Int) : (PyData.shown (.int i)).length ≤ i.natAbs.log2 + 2 := by
  have h := int_text_length_le (a := i) (k := i.natAbs.log2 + 1) (Nat.succ_pos _) (lt_log i)
  have e : (PyData.shown (.int i)).length = (toString i).length := by
    simp only [PyData.shown]
    exact ofString_length _
  rw [e]; exact h
mutual
theorem shown_cost : ∀ d : PyData, told d = true → d.shown.length ≤ cost d
  | .none, _ => by simp only [PyData.shown, cost]; decide
  | .bool b, _ => by simp only [PyData.shown, cost]; cases b <;> decide
  | .int i, _ => by simp only [cost]; exact int_len i
  | .str x, h => by
    simp only [PyData.shown, cost]
    refine StrLaws.reprText_len x fun c hc => ?_
    have h : x.cps.all (· < 0x110000) = true := by simpa only [told] using h
    rw [← Array.all_toList, List.all_eq_true] at h
    have := h c hc
    simp only [decide_eq_true_eq] at this
    exact Nat.lt_trans this (by decide)
  | .list xs, h => by
    have h1 := shown_costs xs (by simpa [told] using h)
    simp only [PyData.shown, cost, listText_eq_join]
    have h2 := join_len (PyData.shownAll xs)
    have e1 : ("[" : Str).length = 1 := by decide
    have e2 : ("]" : Str).length = 1 := by decide
    simp only [Str.length_append, e1, e2]
    omega
  | .tuple xs, h => by
    have h1 := shown_costs xs (by simpa [told] using h)
    simp only [PyData.shown, cost, tupleText]
    have h2 := join_len (PyData.shownAll xs)
    have e1 : ("(" : Str).length = 1 := by decide
    have e2 : ((if (PyData.shownAll xs).length == 1 then ",)" else ")" : String) : Str).length ≤ 2 := by split <;> decide
    simp only [Str.length_append, e1]
    omega
  | .dict _, h => by simp [told] at h
theorem shown_costs : ∀ ds : List PyData, tolds ds = true → piled (PyData.shownAll ds) ≤ costs ds
  | [], _ => Nat.le_refl _
  | d :: ds, h => by
    have h : told d = true ∧ tolds ds = true := by simpa [tolds] using h
    have h1 := shown_cost d h.1
    have h2 := shown_costs ds h.2
    simp only [PyData.shownAll, piled_cons, costs]
    omega
end
/-! ### repr -/
theorem fRepr_ok {s : S} {o : O} {p : PyData} (h : denO s o = some p) (h1 : told p = true) (h2 : cost p ≤ 16000000) : f1 fRepr s [o] = some (vSt p.shown) := by
  show fRepr s o = _
  unfold fRepr
  rw [h]
  dsimp only
  rw [if_pos ⟨told_show p h1, Nat.le_trans (shown_cost p h1) (Nat.le_trans h2 (by decide))⟩]
/-! ### what data denote -/
def doR (cs : List Cont) (x : Option D) : Option PyData := match x with
  | some d => den cs 8 d
  | none => none
@[simp] theorem doR_some {cs : List Cont} {d : D} : doR cs (some d) = den cs 8 d := rfl
@[simp] theorem denO_ev {s : S} {o : O} : denO s o = doR s.cs (dat s o) := by
  unfold denO doR; cases dat s o <;> rfl
@[simp] theorem den_non {cs : List Cont} {n : Nat} : den cs n .non = some .none := by cases n <;> rfl
@[simp] theorem den_bl {cs : List Cont} {n : Nat} {b : Bool} : den cs n (.bl b) = some (.bool b) := by cases n <;> rfl
@[simp] theorem den_int {cs : List Cont} {n : Nat} {i : Int} : den cs n (.int i) = some (.int i) := by cases n <;> rfl
@[simp] theorem den_str {cs : List Cont} {n : Nat} {x : Str} : den cs n (.str x) = some (.str x) := by cases n <;> rfl
@[simp] theorem den_tup {cs : List Cont} {n : Nat} {xs : List D} : den cs (n + 1) (.tup xs) = (denL (den cs n) xs).map .tuple := rfl
@[simp] theorem den_lst {cs : List Cont} {n : Nat} {xs : List D} : den cs (n + 1) (.lst xs) = (denL (den cs n) xs).map .list := rfl
@[simp] theorem den_klst {cs : List Cont} {n : Nat} {xs : List D} : den cs (n + 1) (.klst xs) = (denL (den cs n) xs).map .list := rfl
theorem den_ref {cs : List Cont} {n k : Nat} {xs : List D} (h : cs[k]? = some (.lst xs)) : den cs (n + 1) (.ref k) = (denL (den cs n) xs).map .list := by
  show (match cs[k]? with
    | some (.lst xs) => (denL (den cs n) xs).map PyData.list
    | _ => none) = _
  rw [h]
@[simp] theorem denL_nil {f : D → Option PyData} : denL f [] = some [] := rfl
def dcons (a : Option PyData) (b : Option (List PyData)) : Option (List PyData) := match a, b with
  | some a, some b => some (a :: b)
  | _, _ => none
@[simp] theorem dcons_some {a : PyData} {b : List PyData} : dcons (some a) (some b) = some (a :: b) := rfl
@[simp] theorem denL_cons {f : D → Option PyData} {x : D} {xs : List D} : denL f (x :: xs) = dcons (f x) (denL f xs) := rfl
theorem denL_map {α : Type} {f : D → Option PyData} {g : α → D} {h : α → PyData} : ∀ (xs : List α), (∀ x ∈ xs, f (g x) = some (h x)) → denL f (xs.map g) = some (xs.map h)
  | [], _ => rfl
  | x :: xs, k => by
    rw [List.map_cons, denL_cons, k x (by simp), denL_map xs fun y hy => k y (by simp [hy])]
    rfl
theorem tolds_map {α : Type} {h : α → PyData} : ∀ (xs : List α), (∀ x ∈ xs, told (h x) = true) → tolds (xs.map h) = true
  | [], _ => rfl
  | x :: xs, k => by
    rw [List.map_cons]
    simp only [tolds, k x (by simp), tolds_map xs fun y hy => k y (by simp [hy]), Bool.and_self]
theorem costs_map {α : Type} {h : α → PyData} {c : Nat} : ∀ (xs : List α), (∀ x ∈ xs, cost (h x) ≤ c) → costs (xs.map h) ≤ xs.length * (c + 2)
  | [], _ => by simp [costs]
  | x :: xs, k => by
    have h1 := k x (by simp)
    have h2 := costs_map xs fun y hy => k y (by simp [hy])
    simp only [List.map_cons, costs, List.length_cons, Nat.add_mul, Nat.one_mul] at h2 ⊢
    omega
/-! ### == of nested data -/
theorem fEqS_ref {neg : Bool} {s : S} {n : Nat} {o : O} : fEqS neg s (.val (.ref n)) o = none := by
  unfold fEqS
  cases o <;> rfl
theorem fEqS_lst {neg : Bool} {s : S} {xs : List D} {o : O} : fEqS neg s (.val (.lst xs)) o = none := by
  unfold fEqS
  cases o <;> rfl
theorem fEqS_bor {neg : Bool} {s : S} {n : Nat} {o : O} : fEqS neg s (.bor n) o = none := by
  unfold fEqS
  rfl
theorem fEqD_run {neg : Bool} {s : S} {x y : O} {p q : PyData} (hx : denO s x = some p) (hy : denO s y = some q) (h1 : told p = true) (h2 : told q = true) : fEqD neg s x y = some (vB (if neg then !PyData.eqv p q else PyData.eqv p q)) := by
  unfold fEqD
  rw [hx, hy]
  dsimp only
  rw [if_pos ⟨told_lay p h1, told_lay q h2⟩]
theorem fNe_den {s : S} {x y : O} {p q : PyData} (hs : fEqS true s x y = none) (hx : denO s x = some p) (hy : denO s y = some q) (h1 : told p = true) (h2 : told q = true) : fNe s x y = some (vB (!PyData.eqv p q)) := by
  unfold fNe fOr
  rw [hs]
  exact fEqD_run hx hy h1 h2
theorem fEq_den {s : S} {x y : O} {p q : PyData} (hs : fEqS false s x y = none) (hx : denO s x = some p) (hy : denO s y = some q) (h1 : told p = true) (h2 : told q = true) : fEq s x y = some (vB (PyData.eqv p q)) := by
  unfold fEq fOr
  rw [hs]
  exact fEqD_run hx hy h1 h2
theorem eqv_self {p : PyData} (h : told p = true) : PyData.eqv p p = true := PySem.SeqAt.eqv_refl p (told_lay p h)
theorem eqv_nil {xs : List PyData} : PyData.eqv (.list xs) (.list []) = xs.isEmpty := by
  cases xs <;> simp [PyData.eqv, PyData.eqvAll]
end DS
/-! The law's walk, printed by gen.py. -/
namespace DS.K81
open PySem L2 PySem.Spec PyProof.Rows DS
def top (i : Nat) : Stmt := PySem.Challenge.pw_signsheets_k81_texts_both_ways.main.body.getD i (.Pass ⟨0, 0, 0, 0⟩)
abbrev s__law_tape : Stmt := top 29
abbrev s__law_next : Stmt := top 30
abbrev s__law_runs : Stmt := top 33
abbrev s__law_text : Stmt := top 34
abbrev s_run_text : Stmt := top 23
abbrev s_write_word : Stmt := top 24
abbrev s_number_in : Stmt := top 20
abbrev s_sign_in : Stmt := top 21
abbrev s_run_in : Stmt := top 22
abbrev s_read_word : Stmt := top 25
abbrev s__law_word_right : Stmt := top 35
abbrev s_is_integer : Stmt := top 7
abbrev s_are_values : Stmt := top 11
abbrev s_is_rule : Stmt := top 12
abbrev s_System_init : Stmt := inClass (top 14) 1
abbrev s_System_of : Stmt := inClass (top 14) 2
abbrev s_common_divisor : Stmt := top 13
abbrev s_System_divisor : Stmt := inClass (top 14) 6
abbrev s_System_greatest : Stmt := inClass (top 14) 5
abbrev s_System_rule : Stmt := inClass (top 14) 4
abbrev s_System_row : Stmt := inClass (top 14) 3
abbrev s__law_shown : Stmt := top 36
abbrev s_write_system : Stmt := top 26
abbrev s_read_system : Stmt := top 27
abbrev s_System_with_rule : Stmt := inClass (top 14) 7
abbrev s__law_system_right : Stmt := top 37
abbrev s__law_kind : Stmt := top 32
abbrev s__law_scale : Stmt := top 31
abbrev s_law : Stmt := top 38
/-- where the top has put things -/
structure Ad where
  f__law_tape : Addr
  f__law_next : Addr
  f__law_runs : Addr
  f__law_text : Addr
  f_run_text : Addr
  f_write_word : Addr
  f_number_in : Addr
  f_sign_in : Addr
  f_run_in : Addr
  f_read_word : Addr
  f__law_word_right : Addr
  f_is_integer : Addr
  f_are_values : Addr
  f_is_rule : Addr
  f_System_init : Addr
  f_System_of : Addr
  f_common_divisor : Addr
  f_System_divisor : Addr
  f_System_greatest : Addr
  f_System_rule : Addr
  f_System_row : Addr
  f__law_shown : Addr
  f_write_system : Addr
  f_read_system : Addr
  f_System_with_rule : Addr
  f__law_system_right : Addr
  f__law_kind : Addr
  f__law_scale : Addr
  f_law : Addr
  c_Rule : Addr
  c_System : Addr
  q_System_divisor : Addr
  q_System_greatest : Addr
  q_System_row : Addr
  q_System_rule : Addr
  q_System_of : Addr
  y_Rule : Value
  y_System : Value
  u_Rule_ALL : V
  v_Rule_ALL : Value
  u_System_MOST : V
  v_System_MOST : Value
def k_Rule_ALL : D := .tup [.str "plain", .str "single", .str "next", .str "block", .str "later"]
def k_System_MOST : D := .int 6
/-- what the top has written -/
structure Fx (K : PySem.W.Frag) (mg : Str → Option Value) (a : Ad) : Prop where
  l__law_tape : ∃ (oc : Value) (od : Option Addr) (kV doc pm : Value) (an : Option Addr) (cd ct : Value) (osl : Array (Option Value)), K.lookup a.f__law_tape = some ⟨oc, od, .func (PySem.W.fnOf "_law_tape" "_law_tape" (defArgs s__law_tape) (defBody s__law_tape) (defScope s__law_tape) .none kV doc pm an cd ct), osl⟩ ∧ PySem.W.codeIn K cd "_law_tape" = true
  m__law_tape : mg "_law_tape" = some (.ref a.f__law_tape)
  kp__law_tape : PySem.W.keepIn K (.ref a.f__law_tape) = true
  l__law_next : ∃ (oc : Value) (od : Option Addr) (kV doc pm : Value) (an : Option Addr) (cd ct : Value) (osl : Array (Option Value)), K.lookup a.f__law_next = some ⟨oc, od, .func (PySem.W.fnOf "_law_next" "_law_next" (defArgs s__law_next) (defBody s__law_next) (defScope s__law_next) .none kV doc pm an cd ct), osl⟩ ∧ PySem.W.codeIn K cd "_law_next" = true
  m__law_next : mg "_law_next" = some (.ref a.f__law_next)
  kp__law_next : PySem.W.keepIn K (.ref a.f__law_next) = true
  l__law_runs : ∃ (oc : Value) (od : Option Addr) (kV doc pm : Value) (an : Option Addr) (cd ct : Value) (osl : Array (Option Value)), K.lookup a.f__law_runs = some ⟨oc, od, .func (PySem.W.fnOf "_law_runs" "_law_runs" (defArgs s__law_runs) (defBody s__law_runs) (defScope s__law_runs) .none kV doc pm an cd ct), osl⟩ ∧ PySem.W.codeIn K cd "_law_runs" = true
  m__law_runs : mg "_law_runs" = some (.ref a.f__law_runs)
  kp__law_runs : PySem.W.keepIn K (.ref a.f__law_runs) = true
  l__law_text : ∃ (oc : Value) (od : Option Addr) (kV doc pm : Value) (an : Option Addr) (cd ct : Value) (osl : Array (Option Value)), K.lookup a.f__law_text = some ⟨oc, od, .func (PySem.W.fnOf "_law_text" "_law_text" (defArgs s__law_text) (defBody s__law_text) (defScope s__law_text) .none kV doc pm an cd ct), osl⟩ ∧ PySem.W.codeIn K cd "_law_text" = true
  m__law_text : mg "_law_text" = some (.ref a.f__law_text)
  kp__law_text : PySem.W.keepIn K (.ref a.f__law_text) = true
  l_run_text : ∃ (oc : Value) (od : Option Addr) (kV doc pm : Value) (an : Option Addr) (cd ct : Value) (osl : Array (Option Value)), K.lookup a.f_run_text = some ⟨oc, od, .func (PySem.W.fnOf "run_text" "run_text" (defArgs s_run_text) (defBody s_run_text) (defScope s_run_text) .none kV doc pm an cd ct), osl⟩ ∧ PySem.W.codeIn K cd "run_text" = true
  m_run_text : mg "run_text" = some (.ref a.f_run_text)
  kp_run_text : PySem.W.keepIn K (.ref a.f_run_text) = true
  l_write_word : ∃ (oc : Value) (od : Option Addr) (kV doc pm : Value) (an : Option Addr) (cd ct : Value) (osl : Array (Option Value)), K.lookup a.f_write_word = some ⟨oc, od, .func (PySem.W.fnOf "write_word" "write_word" (defArgs s_write_word) (defBody s_write_word) (defScope s_write_word) .none kV doc pm an cd ct), osl⟩ ∧ PySem.W.codeIn K cd "write_word" = true
  m_write_word : mg "write_word" = some (.ref a.f_write_word)
  kp_write_word : PySem.W.keepIn K (.ref a.f_write_word) = true
  l_number_in : ∃ (oc : Value) (od : Option Addr) (kV doc pm : Value) (an : Option Addr) (cd ct : Value) (osl : Array (Option Value)), K.lookup a.f_number_in = some ⟨oc, od, .func (PySem.W.fnOf "number_in" "number_in" (defArgs s_number_in) (defBody s_number_in) (defScope s_number_in) .none kV doc pm an cd ct), osl⟩ ∧ PySem.W.codeIn K cd "number_in" = true
  m_number_in : mg "number_in" = some (.ref a.f_number_in)
  kp_number_in : PySem.W.keepIn K (.ref a.f_number_in) = true
  l_sign_in : ∃ (oc : Value) (od : Option Addr) (kV doc pm : Value) (an : Option Addr) (cd ct : Value) (osl : Array (Option Value)), K.lookup a.f_sign_in = some ⟨oc, od, .func (PySem.W.fnOf "sign_in" "sign_in" (defArgs s_sign_in) (defBody s_sign_in) (defScope s_sign_in) .none kV doc pm an cd ct), osl⟩ ∧ PySem.W.codeIn K cd "sign_in" = true
  m_sign_in : mg "sign_in" = some (.ref a.f_sign_in)
  kp_sign_in : PySem.W.keepIn K (.ref a.f_sign_in) = true
  l_run_in : ∃ (oc : Value) (od : Option Addr) (kV doc pm : Value) (an : Option Addr) (cd ct : Value) (osl : Array (Option Value)), K.lookup a.f_run_in = some ⟨oc, od, .func (PySem.W.fnOf "run_in" "run_in" (defArgs s_run_in) (defBody s_run_in) (defScope s_run_in) .none kV doc pm an cd ct), osl⟩ ∧ PySem.W.codeIn K cd "run_in" = true
  m_run_in : mg "run_in" = some (.ref a.f_run_in)
  kp_run_in : PySem.W.keepIn K (.ref a.f_run_in) = true
  l_read_word : ∃ (oc : Value) (od : Option Addr) (kV doc pm : Value) (an : Option Addr) (cd ct : Value) (osl : Array (Option Value)), K.lookup a.f_read_word = some ⟨oc, od, .func (PySem.W.fnOf "read_word" "read_word" (defArgs s_read_word) (defBody s_read_word) (defScope s_read_word) .none kV doc pm an cd ct), osl⟩ ∧ PySem.W.codeIn K cd "read_word" = true
  m_read_word : mg "read_word" = some (.ref a.f_read_word)
  kp_read_word : PySem.W.keepIn K (.ref a.f_read_word) = true
  l__law_word_right : ∃ (oc : Value) (od : Option Addr) (kV doc pm : Value) (an : Option Addr) (cd ct : Value) (osl : Array (Option Value)), K.lookup a.f__law_word_right = some ⟨oc, od, .func (PySem.W.fnOf "_law_word_right" "_law_word_right" (defArgs s__law_word_right) (defBody s__law_word_right) (defScope s__law_word_right) .none kV doc pm an cd ct), osl⟩ ∧ PySem.W.codeIn K cd "_law_word_right" = true
  m__law_word_right : mg "_law_word_right" = some (.ref a.f__law_word_right)
  kp__law_word_right : PySem.W.keepIn K (.ref a.f__law_word_right) = true
  l_is_integer : ∃ (oc : Value) (od : Option Addr) (kV doc pm : Value) (an : Option Addr) (cd ct : Value) (osl : Array (Option Value)), K.lookup a.f_is_integer = some ⟨oc, od, .func (PySem.W.fnOf "is_integer" "is_integer" (defArgs s_is_integer) (defBody s_is_integer) (defScope s_is_integer) .none kV doc pm an cd ct), osl⟩ ∧ PySem.W.codeIn K cd "is_integer" = true
  m_is_integer : mg "is_integer" = some (.ref a.f_is_integer)
  kp_is_integer : PySem.W.keepIn K (.ref a.f_is_integer) = true
  l_are_values : ∃ (oc : Value) (od : Option Addr) (kV doc pm : Value) (an : Option Addr) (cd ct : Value) (osl : Array (Option Value)), K.lookup a.f_are_values = some ⟨oc, od, .func (PySem.W.fnOf "are_values" "are_values" (defArgs s_are_values) (defBody s_are_values) (defScope s_are_values) .none kV doc pm an cd ct), osl⟩ ∧ PySem.W.codeIn K cd "are_values" = true
  m_are_values : mg "are_values" = some (.ref a.f_are_values)
  kp_are_values : PySem.W.keepIn K (.ref a.f_are_values) = true
  l_is_rule : ∃ (oc : Value) (od : Option Addr) (kV doc pm : Value) (an : Option Addr) (cd ct : Value) (osl : Array (Option Value)), K.lookup a.f_is_rule = some ⟨oc, od, .func (PySem.W.fnOf "is_rule" "is_rule" (defArgs s_is_rule) (defBody s_is_rule) (defScope s_is_rule) .none kV doc pm an cd ct), osl⟩ ∧ PySem.W.codeIn K cd "is_rule" = true
  m_is_rule : mg "is_rule" = some (.ref a.f_is_rule)
  kp_is_rule : PySem.W.keepIn K (.ref a.f_is_rule) = true
  l_System_init : ∃ (oc : Value) (od : Option Addr) (kV doc pm : Value) (an : Option Addr) (cd ct : Value) (osl : Array (Option Value)), K.lookup a.f_System_init = some ⟨oc, od, .func (PySem.W.fnOf "__init__" "System.__init__" (defArgs s_System_init) (defBody s_System_init) (defScope s_System_init) .none kV doc pm an cd ct), osl⟩ ∧ PySem.W.codeIn K cd "System.__init__" = true
  l_System_of : ∃ (oc : Value) (od : Option Addr) (kV doc pm : Value) (an : Option Addr) (cd ct : Value) (osl : Array (Option Value)), K.lookup a.f_System_of = some ⟨oc, od, .func (PySem.W.fnOf "of" "System.of" (defArgs s_System_of) (defBody s_System_of) (defScope s_System_of) .none kV doc pm an cd ct), osl⟩ ∧ PySem.W.codeIn K cd "System.of" = true
  l_common_divisor : ∃ (oc : Value) (od : Option Addr) (kV doc pm : Value) (an : Option Addr) (cd ct : Value) (osl : Array (Option Value)), K.lookup a.f_common_divisor = some ⟨oc, od, .func (PySem.W.fnOf "common_divisor" "common_divisor" (defArgs s_common_divisor) (defBody s_common_divisor) (defScope s_common_divisor) .none kV doc pm an cd ct), osl⟩ ∧ PySem.W.codeIn K cd "common_divisor" = true
  m_common_divisor : mg "common_divisor" = some (.ref a.f_common_divisor)
  kp_common_divisor : PySem.W.keepIn K (.ref a.f_common_divisor) = true
  l_System_divisor : ∃ (oc : Value) (od : Option Addr) (kV doc pm : Value) (an : Option Addr) (cd ct : Value) (osl : Array (Option Value)), K.lookup a.f_System_divisor = some ⟨oc, od, .func (PySem.W.fnOf "divisor" "System.divisor" (defArgs s_System_divisor) (defBody s_System_divisor) (defScope s_System_divisor) .none kV doc pm an cd ct), osl⟩ ∧ PySem.W.codeIn K cd "System.divisor" = true
  l_System_greatest : ∃ (oc : Value) (od : Option Addr) (kV doc pm : Value) (an : Option Addr) (cd ct : Value) (osl : Array (Option Value)), K.lookup a.f_System_greatest = some ⟨oc, od, .func (PySem.W.fnOf "greatest" "System.greatest" (defArgs s_System_greatest) (defBody s_System_greatest) (defScope s_System_greatest) .none kV doc pm an cd ct), osl⟩ ∧ PySem.W.codeIn K cd "System.greatest" = true
  l_System_rule : ∃ (oc : Value) (od : Option Addr) (kV doc pm : Value) (an : Option Addr) (cd ct : Value) (osl : Array (Option Value)), K.lookup a.f_System_rule = some ⟨oc, od, .func (PySem.W.fnOf "rule" "System.rule" (defArgs s_System_rule) (defBody s_System_rule) (defScope s_System_rule) .none kV doc pm an cd ct), osl⟩ ∧ PySem.W.codeIn K cd "System.rule" = true
  l_System_row : ∃ (oc : Value) (od : Option Addr) (kV doc pm : Value) (an : Option Addr) (cd ct : Value) (osl : Array (Option Value)), K.lookup a.f_System_row = some ⟨oc, od, .func (PySem.W.fnOf "row" "System.row" (defArgs s_System_row) (defBody s_System_row) (defScope s_System_row) .none kV doc pm an cd ct), osl⟩ ∧ PySem.W.codeIn K cd "System.row" = true
  l__law_shown : ∃ (oc : Value) (od : Option Addr) (kV doc pm : Value) (an : Option Addr) (cd ct : Value) (osl : Array (Option Value)), K.lookup a.f__law_shown = some ⟨oc, od, .func (PySem.W.fnOf "_law_shown" "_law_shown" (defArgs s__law_shown) (defBody s__law_shown) (defScope s__law_shown) .none kV doc pm an cd ct), osl⟩ ∧ PySem.W.codeIn K cd "_law_shown" = true
  m__law_shown : mg "_law_shown" = some (.ref a.f__law_shown)
  kp__law_shown : PySem.W.keepIn K (.ref a.f__law_shown) = true
  l_write_system : ∃ (oc : Value) (od : Option Addr) (kV doc pm : Value) (an : Option Addr) (cd ct : Value) (osl : Array (Option Value)), K.lookup a.f_write_system = some ⟨oc, od, .func (PySem.W.fnOf "write_system" "write_system" (defArgs s_write_system) (defBody s_write_system) (defScope s_write_system) .none kV doc pm an cd ct), osl⟩ ∧ PySem.W.codeIn K cd "write_system" = true
  m_write_system : mg "write_system" = some (.ref a.f_write_system)
  kp_write_system : PySem.W.keepIn K (.ref a.f_write_system) = true
  l_read_system : ∃ (oc : Value) (od : Option Addr) (kV doc pm : Value) (an : Option Addr) (cd ct : Value) (osl : Array (Option Value)), K.lookup a.f_read_system = some ⟨oc, od, .func (PySem.W.fnOf "read_system" "read_system" (defArgs s_read_system) (defBody s_read_system) (defScope s_read_system) .none kV doc pm an cd ct), osl⟩ ∧ PySem.W.codeIn K cd "read_system" = true
  m_read_system : mg "read_system" = some (.ref a.f_read_system)
  kp_read_system : PySem.W.keepIn K (.ref a.f_read_system) = true
  l_System_with_rule : ∃ (oc : Value) (od : Option Addr) (kV doc pm : Value) (an : Option Addr) (cd ct : Value) (osl : Array (Option Value)), K.lookup a.f_System_with_rule = some ⟨oc, od, .func (PySem.W.fnOf "with_rule" "System.with_rule" (defArgs s_System_with_rule) (defBody s_System_with_rule) (defScope s_System_with_rule) .none kV doc pm an cd ct), osl⟩ ∧ PySem.W.codeIn K cd "System.with_rule" = true
  l__law_system_right : ∃ (oc : Value) (od : Option Addr) (kV doc pm : Value) (an : Option Addr) (cd ct : Value) (osl : Array (Option Value)), K.lookup a.f__law_system_right = some ⟨oc, od, .func (PySem.W.fnOf "_law_system_right" "_law_system_right" (defArgs s__law_system_right) (defBody s__law_system_right) (defScope s__law_system_right) .none kV doc pm an cd ct), osl⟩ ∧ PySem.W.codeIn K cd "_law_system_right" = true
  m__law_system_right : mg "_law_system_right" = some (.ref a.f__law_system_right)
  kp__law_system_right : PySem.W.keepIn K (.ref a.f__law_system_right) = true
  l__law_kind : ∃ (oc : Value) (od : Option Addr) (kV doc pm : Value) (an : Option Addr) (cd ct : Value) (osl : Array (Option Value)), K.lookup a.f__law_kind = some ⟨oc, od, .func (PySem.W.fnOf "_law_kind" "_law_kind" (defArgs s__law_kind) (defBody s__law_kind) (defScope s__law_kind) .none kV doc pm an cd ct), osl⟩ ∧ PySem.W.codeIn K cd "_law_kind" = true
  m__law_kind : mg "_law_kind" = some (.ref a.f__law_kind)
  kp__law_kind : PySem.W.keepIn K (.ref a.f__law_kind) = true
  l__law_scale : ∃ (oc : Value) (od : Option Addr) (kV doc pm : Value) (an : Option Addr) (cd ct : Value) (osl : Array (Option Value)), K.lookup a.f__law_scale = some ⟨oc, od, .func (PySem.W.fnOf "_law_scale" "_law_scale" (defArgs s__law_scale) (defBody s__law_scale) (defScope s__law_scale) .none kV doc pm an cd ct), osl⟩ ∧ PySem.W.codeIn K cd "_law_scale" = true
  m__law_scale : mg "_law_scale" = some (.ref a.f__law_scale)
  kp__law_scale : PySem.W.keepIn K (.ref a.f__law_scale) = true
  l_law : ∃ (oc : Value) (od : Option Addr) (kV doc pm : Value) (an : Option Addr) (cd ct : Value) (osl : Array (Option Value)), K.lookup a.f_law = some ⟨oc, od, .func (PySem.W.fnOf "law" "law" (defArgs s_law) (defBody s_law) (defScope s_law) .none kV doc pm an cd ct), osl⟩ ∧ PySem.W.codeIn K cd "law" = true
  m_law : mg "law" = some (.ref a.f_law)
  kp_law : PySem.W.keepIn K (.ref a.f_law) = true
  m_Rule : mg "Rule" = some (.ref a.c_Rule)
  m_System : mg "System" = some (.ref a.c_System)
  cl_System : Cls K a.c_System
  mk_System : Mk K a.c_System a.f_System_init
  na_System_held_rule : NoAttr K a.c_System "held_rule"
  na_System_held_values : NoAttr K a.c_System "held_values"
  mt_System_with_rule : Meth K a.c_System "with_rule" a.f_System_with_rule
  pr_System_divisor : PropOf K a.c_System "divisor" a.q_System_divisor a.f_System_divisor
  pr_System_greatest : PropOf K a.c_System "greatest" a.q_System_greatest a.f_System_greatest
  pr_System_row : PropOf K a.c_System "row" a.q_System_row a.f_System_row
  pr_System_rule : PropOf K a.c_System "rule" a.q_System_rule a.f_System_rule
  cr_Rule : ClX.CRead K a.c_Rule a.y_Rule
  cr_System : ClX.CRead K a.c_System a.y_System
  cm_System_of : ClX.CMet K a.c_System a.y_System "of" a.q_System_of a.f_System_of
  cv_Rule_ALL : ClX.CVal K a.c_Rule a.y_Rule "ALL" a.u_Rule_ALL a.v_Rule_ALL
  cd_Rule_ALL : ∀ G A, Rep K G A k_Rule_ALL a.u_Rule_ALL
  cv_System_MOST : ClX.CVal K a.c_System a.y_System "MOST" a.u_System_MOST a.v_System_MOST
  cd_System_MOST : ∀ G A, Rep K G A k_System_MOST a.u_System_MOST
  eo_System : PySem.W.mroIn K a.c_System (.type "object") = some true
  eq_System : PySem.W.findIn K (.ref a.c_System) "__eq__" = some (some (.builtin "object.__eq__"))
  gi_GREATEST_SIGN : ∃ t, mg "GREATEST_SIGN" = some (.int 60 t)
  gi_MOST_DIGITS : ∃ t, mg "MOST_DIGITS" = some (.int 60 t)
  gi_MOST_RUNS : ∃ t, mg "MOST_RUNS" = some (.int 200 t)
  gi_MOST_VALUE : ∃ t, mg "MOST_VALUE" = some (.int 60 t)
  gs_DIGITS : ∃ t, mg "DIGITS" = some (.str "0123456789" t)
  b_abs : mg "abs" = none
  b_all : mg "all" = none
  b_bool : mg "bool" = none
  b_enumerate : mg "enumerate" = none
  b_int : mg "int" = none
  b_isinstance : mg "isinstance" = none
  b_len : mg "len" = none
  b_list : mg "list" = none
  b_max : mg "max" = none
  b_min : mg "min" = none
  b_range : mg "range" = none
  b_repr : mg "repr" = none
  b_sorted : mg "sorted" = none
  b_str : mg "str" = none
  b_zip : mg "zip" = none
noncomputable def m__law_tape (a : Ad) : MS :=
    (sSeq (sSet 2 (mIf (mCmpB (fCmp pLt) (mVar 1) (fnN (f1 fLen) (o1 (mVar 0)))) (fnN (f1 fAbs) (o1 (mBin fIx (mVar 0) (mVar 1)))) (mC (.int 0))))
    (sRet (mShare (mLst (aCons (fnN fMax2 (oCons (mC (.int 0)) (o1 (mBin fSub (mVar 2) (mBin fPow (mC (.int 10)) (mC (.int 18))))))) (aCons (mBin fAdd (mBin fMul (mBin fMod (mVar 2) (mBin fAdd (mBin fPow (mC (.int 10)) (mC (.int 38))) (mC (.int 133)))) (mC (.int 83))) (mVar 1)) (aCons (mC (.int 0)) aNil)))))))
noncomputable def p__law_tape (a : Ad) : Fn := runDef 2 3 (m__law_tape a)
noncomputable def m__law_next (a : Ad) : MS :=
    (sSeq (sIf (mCmpB (fCmp pGt) (mBin fIx (mVar 0) (mC (.int 0))) (mC (.int 0)))
    (sSeq (sSet 3 (mBin fMod (mBin fIx (mVar 0) (mC (.int 0))) (mVar 1)))
    (sSeq (sPut (mVar 0) (mC (.int 0)) (mBin fDiv (mBin fIx (mVar 0) (mC (.int 0))) (mVar 1)))
    (sRet (mVar 3))))
    sNext)
    (sSeq (sPut (mVar 0) (mC (.int 2)) (mBin fAdd (mBin fIx (mVar 0) (mC (.int 2))) (mC (.int 1))))
    (sSeq (sSet 2 (mBin fMod (mBin fPow (mBin fAdd (mBin fIx (mVar 0) (mC (.int 1))) (mBin fMul (mC (.int 20000003)) (mBin fIx (mVar 0) (mC (.int 2))))) (mC (.int 3))) (mBin fAdd (mBin fPow (mC (.int 10)) (mC (.int 40))) (mC (.int 121)))))
    (sSeq (sSet 2 (mBin fMod (mBin fPow (mBin fAdd (mVar 2) (mBin fMul (mC (.int 49979687)) (mBin fIx (mVar 0) (mC (.int 2))))) (mC (.int 3))) (mBin fAdd (mBin fPow (mC (.int 10)) (mC (.int 37))) (mC (.int 43)))))
    (sRet (mBin fMod (mBin fDiv (mVar 2) (mC (.int 8191))) (mVar 1)))))))
noncomputable def p__law_next (a : Ad) : Fn := runDef 2 4 (m__law_next a)
noncomputable def m__law_runs (a : Ad) : MS :=
    (sSeq (sPar 3 4 (aCons (mShare (mLst aNil)) (aCons (mBin fIx (mLst (aCons (mC (.int 2)) (aCons (mC (.int 10)) (aCons (mC (.int 60)) aNil)))) (mCall (p__law_next a) (aCons (mVar 0) (aCons (mC (.int 3)) aNil)))) aNil)))
    (sSeq (sForM (mRange1 (aCons (mVar 1) aNil)) (gSet 2)
    (sSeq (sSet 5 (mBin fAdd (mC (.int 1)) (mCall (p__law_next a) (aCons (mVar 0) (aCons (mVar 4) aNil)))))
    (sSeq (sIf (mAndB (mCmpB fNe (mVar 3) (mLst aNil)) (mCmpB fEq (mBin fIx (mBin fIx (mVar 3) (mNeg (mC (.int 1)))) (mC (.int 0))) (mVar 5)))
    (sSet 5 (mBin fAdd (mBin fMod (mVar 5) (mVar 4)) (mC (.int 1))))
    sNext)
    (sSeq (sSet 6 (mBin fIx (mLst (aCons (mC (.int 1)) (aCons (mBin fAdd (mC (.int 1)) (mCall (p__law_next a) (aCons (mVar 0) (aCons (mC (.int 3)) aNil)))) (aCons (mBin fAdd (mC (.int 1)) (mCall (p__law_next a) (aCons (mVar 0) (aCons (mBin fPow (mC (.int 10)) (mC (.int 18))) aNil)))) (aCons (mBin fSub (mBin fMul (mBin fPow (mC (.int 10)) (mC (.int 30))) (mBin fPow (mC (.int 10)) (mC (.int 30)))) (mC (.int 1))) aNil))))) (mCall (p__law_next a) (aCons (mVar 0) (aCons (mC (.int 4)) aNil)))))
    (sDrop (mMeth gAppend (mVar 3) (aCons (mTup (aCons (mVar 5) (aCons (mVar 6) aNil))) aNil)))))))
    (sRet (mVar 3))))
noncomputable def p__law_runs (a : Ad) : Fn := runDef 2 7 (m__law_runs a)
noncomputable def m__law_text (a : Ad) : MS :=
    (sRet (mJoin (mC (.str " ")) (mLc (mOverL (mVar 0)) (gTup (gCons (gSet 1) (gCons (gSet 2) gNil))) mYes (mBin fAdd (fnN (f1 fStrI) (o1 (mVar 1))) (mIf (mCmpB (fCmp pGt) (mVar 2) (mC (.int 1))) (mBin fAdd (mC (.str "*")) (fnN (f1 fStrI) (o1 (mVar 2)))) (mC (.str "")))) [1, 2])))
noncomputable def p__law_text (a : Ad) : Fn := runDef 1 3 (m__law_text a)
noncomputable def m_run_text (a : Ad) : MS :=
    (sSeq (sAsg (gTup (gCons (gSet 1) (gCons (gSet 2) gNil))) (mVar 0))
    (sRet (mIf (mCmpB (fCmp pGt) (mVar 2) (mC (.int 1))) (mJs [(mFmt (mVar 1)), (mC (.str "*")), (mFmt (mVar 2))] Str.empty) (mFmt (mVar 1)))))
noncomputable def p_run_text (a : Ad) : Fn := runDef 1 3 (m_run_text a)
noncomputable def m_write_word (a : Ad) : MS :=
    (sRet (mJoin (mC (.str " ")) (mLc (mOverL (mVar 0)) (gSet 1) mYes (mCall (p_run_text a) (aCons (mVar 1) aNil)) [1])))
noncomputable def p_write_word (a : Ad) : Fn := runDef 1 2 (m_write_word a)
noncomputable def p_write_word_k_word (a : Ad) : Fn := runDef 1 2 (m_write_word a)
noncomputable def m_number_in (a : Ad) : MS :=
    (sSeq (sIf (mOrB (mNotB (mChainB (fCmp pLe) (fCmp pLe) (mC (.int 1)) (fnN (f1 fLen) (o1 (mVar 0))) (mVar 1))) (mCmpB fEq (mBin fIx (mVar 0) (mC (.int 0))) (mC (.str "0"))))
    (sRet (mC .non))
    sNext)
    (sRet (mIf (mTru (fnN (f1 fAll) (o1 (mLc (mOverS (mVar 0)) (gSet 2) mYes (mBin fIn (mVar 2) (mC (.str "0123456789"))) [2])))) (fnN (f1 fInt) (o1 (mVar 0))) (mC .non))))
noncomputable def p_number_in (a : Ad) : Fn := runDef 2 3 (m_number_in a)
noncomputable def m_sign_in (a : Ad) : MS :=
    (sSeq (sSet 1 (mCall (p_number_in a) (aCons (mVar 0) (aCons (fnN (f1 fLen) (o1 (fnN (f1 fStrI) (o1 (mC (.int 60)))))) aNil))))
    (sRet (mIf (mAndB (mCmpB (fIsN true) (mVar 1) (mC .non)) (mCmpB (fCmp pLe) (mVar 1) (mC (.int 60)))) (mVar 1) (mC .non))))
noncomputable def p_sign_in (a : Ad) : Fn := runDef 1 2 (m_sign_in a)
noncomputable def m_run_in (a : Ad) : MS :=
    (sSeq (sMatch (mSplit (mVar 0) (mC (.str "*"))) (kSeq1 1 (sSet 2 (mTup (aCons (mCall (p_sign_in a) (aCons (mVar 1) aNil)) (aCons (mC (.int 1)) aNil)))) (kSeq2 1 3 (sSeq (sSet 2 (mTup (aCons (mCall (p_sign_in a) (aCons (mVar 1) aNil)) (aCons (mCall (p_number_in a) (aCons (mVar 3) (aCons (mC (.int 60)) aNil))) aNil))))
    (sSet 2 (mIf (mCmpB fNe (mBin fIx (mVar 2) (mC (.int 1))) (mC (.int 1))) (mVar 2) (mTup (aCons (mC .non) (aCons (mC (.int 1)) aNil)))))) (fun _ => (sSet 2 (mTup (aCons (mC .non) (aCons (mC .non) aNil))))))))
    (sRet (mIf (mCmpB fNotIn (mC .non) (mVar 2)) (mVar 2) (mC .non))))
noncomputable def p_run_in (a : Ad) : Fn := runDef 1 4 (m_run_in a)
noncomputable def m_read_word (a : Ad) : MS :=
    (sSeq (sSet 1 (mShare (mLst aNil)))
    (sSeq (sForM (mEnum (aCons (mSplit (mVar 0) (mC (.str " "))) aNil)) (gTup (gCons (gSet 2) (gCons (gSet 3) gNil)))
    (sSeq (sSet 4 (mCall (p_run_in a) (aCons (mVar 3) aNil)))
    (sSeq (sIf (mOrB (mCmpB (fIsN false) (mVar 4) (mC .non)) (mOrB (mCmpB (fCmp pGe) (mVar 2) (mC (.int 200))) (mAndB (mCmpB fNe (mVar 1) (mLst aNil)) (mCmpB fEq (mBin fIx (mBin fIx (mVar 1) (mNeg (mC (.int 1)))) (mC (.int 0))) (mBin fIx (mVar 4) (mC (.int 0)))))))
    sStuck
    sNext)
    (sDrop (mMeth gAppend (mVar 1) (aCons (mVar 4) aNil))))))
    (sRet (mVar 1))))
noncomputable def p_read_word (a : Ad) : Fn := runDef 1 5 (m_read_word a)
noncomputable def p_read_word_k_text (a : Ad) : Fn := runDef 1 5 (m_read_word a)
noncomputable def m__law_word_right (a : Ad) : MS :=
    (sSeq (sPar 1 2 (aCons (mCall (p__law_text a) (aCons (mVar 0) aNil)) (aCons (fnN (f1 fRepr) (o1 (mVar 0))) aNil)))
    (sSeq (sIf (mCmpB fNe (fnN (f1 fRepr) (o1 (mLst (aCons (mCall (p_write_word a) (aCons (mVar 0) aNil)) (aCons (mCall (p_write_word_k_word a) (aCons (mVar 0) aNil)) aNil))))) (fnN (f1 fRepr) (o1 (mLst (aCons (mVar 1) (aCons (mVar 1) aNil))))))
    (sRet (mC (.bl false)))
    sNext)
    (sSeq (sPar 3 4 (aCons (mCall (p_read_word a) (aCons (mVar 1) aNil)) (aCons (mCall (p_read_word_k_text a) (aCons (mVar 1) aNil)) aNil)))
    (sSeq (sIf (mCmpB fNe (fnN (f1 fRepr) (o1 (mLst (aCons (mVar 3) (aCons (mVar 4) aNil))))) (fnN (f1 fRepr) (o1 (mLst (aCons (mVar 0) (aCons (mVar 0) aNil))))))
    (sRet (mC (.bl false)))
    sNext)
    (sSeq (sDrop (mMeth gReverse (mVar 3) aNil))
    (sSeq (sDrop (mMeth gAppend (mVar 3) (aCons (mTup (aCons (mC (.int 60)) (aCons (mC (.int 7)) aNil))) aNil)))
    (sRet (mAnd (mBin fEq (fnN (f1 fRepr) (o1 (mLst (aCons (mVar 4) (aCons (mCall (p_read_word a) (aCons (mVar 1) aNil)) aNil))))) (fnN (f1 fRepr) (o1 (mLst (aCons (mVar 0) (aCons (mVar 0) aNil)))))) (mBin fEq (fnN (f1 fRepr) (o1 (mVar 0))) (mVar 2))))))))))
noncomputable def p__law_word_right (a : Ad) : Fn := runDef 1 5 (m__law_word_right a)
noncomputable def m_is_integer (a : Ad) : MS :=
    (sRet (mAnd (fnN fIsi (oCons (mVar 0) (o1 (mC (.obj (.ty "int")))))) (mAnd (mNot (fnN fIsi (oCons (mVar 0) (o1 (mC (.obj (.ty "bool"))))))) (mBin (fCmp pGe) (mVar 0) (mVar 1)))))
noncomputable def p_is_integer (a : Ad) : Fn := runDef 2 2 (m_is_integer a)
noncomputable def m_are_values (a : Ad) : MS :=
    (sSeq (sIf (mOrB (mNotB (mTru (fnN fIsi (oCons (mVar 0) (o1 (mC (.obj (.ty "list")))))))) (mNotB (mChainB (fCmp pLe) (fCmp pLe) (mC (.int 1)) (fnN (f1 fLen) (o1 (mVar 0))) (mC (k_System_MOST)))))
    (sRet (mC (.bl false)))
    sNext)
    (sSeq (sIf (mNotB (mTru (fnN (f1 fAll) (o1 (mLc (mOverL (mVar 0)) (gSet 1) mYes (mAnd (mCall (p_is_integer a) (aCons (mVar 1) (aCons (mC (.int 1)) aNil))) (mBin (fCmp pLe) (mVar 1) (mC (.int 60)))) [1])))))
    (sRet (mC (.bl false)))
    sNext)
    (sRet (fnN (f1 fAll) (o1 (mLc (mZip (aCons (mVar 0) (aCons (mSlice (mVar 0) (some (mC (.int 1))) none) aNil))) (gTup (gCons (gSet 2) (gCons (gSet 3) gNil))) mYes (mBin (fCmp pLt) (mVar 2) (mVar 3)) [2, 3]))))))
noncomputable def p_are_values (a : Ad) : Fn := runDef 1 4 (m_are_values a)
noncomputable def m_is_rule (a : Ad) : MS :=
    (sRet (mAnd (fnN fIsi (oCons (mVar 0) (o1 (mC (.obj (.ty "str")))))) (mBin fIn (mVar 0) (mC (k_Rule_ALL)))))
noncomputable def p_is_rule (a : Ad) : Fn := runDef 1 1 (m_is_rule a)
noncomputable def m_System_init (a : Ad) : MS :=
    (sSeq (sIf (mOrB (mNotB (mTru (mCall (p_are_values a) (aCons (fnN (f1 fListOf) (o1 (mVar 2))) aNil)))) (mNotB (mTru (mCall (p_is_rule a) (aCons (mVar 1) aNil)))))
    sStuck
    sNext)
    (sSeq (sPutF a.c_System "held_values" (mVar 0) (fnN (f1 fListOf) (o1 (mVar 2))))
    (sPutF a.c_System "held_rule" (mVar 0) (mVar 1))))
noncomputable def p_System_init_k_rule (a : Ad) : Fn := skFn 3 (m_System_init a)
noncomputable def m_System_of (a : Ad) : MS :=
    (sSeq (sIf (mNotB (mTru (mCall (p_are_values a) (aCons (mVar 1) aNil))))
    sStuck
    sNext)
    (sRet (mMakeS a.c_System (p_System_init_k_rule a) (mVar 0) (mVar 1) (aCons (mVar 2) aNil))))
noncomputable def p_System_of (a : Ad) : Fn := runDef 3 3 (m_System_of a)
noncomputable def m_common_divisor (a : Ad) : MS :=
    (sSeq (sSet 1 (mBin fIx (mVar 0) (mC (.int 0))))
    (sSeq (sForM (mOverL (mSlice (mVar 0) (some (mC (.int 1))) none)) (gSet 2)
    (sSeq (sSet 3 (mVar 2))
    (sWhile 100 (mCmpB (fCmp pGt) (mVar 3) (mC (.int 0)))
    (sPar 1 3 (aCons (mVar 3) (aCons (mBin fMod (mVar 1) (mVar 3)) aNil))))))
    (sRet (mVar 1))))
noncomputable def p_common_divisor (a : Ad) : Fn := runDef 1 4 (m_common_divisor a)
noncomputable def m_System_divisor (a : Ad) : MS :=
    (sRet (mCall (p_common_divisor a) (aCons (mFld a.c_System "held_values" (mVar 0)) aNil)))
noncomputable def p_System_divisor (a : Ad) : Fn := runDef 1 1 (m_System_divisor a)
noncomputable def m_System_greatest (a : Ad) : MS :=
    (sRet (mBin fIx (mFld a.c_System "held_values" (mVar 0)) (mNeg (mC (.int 1)))))
noncomputable def p_System_greatest (a : Ad) : Fn := runDef 1 1 (m_System_greatest a)
noncomputable def m_System_rule (a : Ad) : MS :=
    (sRet (mFld a.c_System "held_rule" (mVar 0)))
noncomputable def p_System_rule (a : Ad) : Fn := runDef 1 1 (m_System_rule a)
noncomputable def m_System_row (a : Ad) : MS :=
    (sRet (fnN (f1 fListOf) (o1 (mFld a.c_System "held_values" (mVar 0)))))
noncomputable def p_System_row (a : Ad) : Fn := runDef 1 1 (m_System_row a)
noncomputable def m__law_shown (a : Ad) : MS :=
    (sRet (mLst (aCons (mProp a.c_System (p_System_row a) (mVar 0)) (aCons (mProp a.c_System (p_System_rule a) (mVar 0)) (aCons (mProp a.c_System (p_System_greatest a) (mVar 0)) (aCons (mProp a.c_System (p_System_divisor a) (mVar 0)) aNil))))))
noncomputable def p__law_shown (a : Ad) : Fn := runDef 1 1 (m__law_shown a)
noncomputable def m_write_system (a : Ad) : MS :=
    (sRet (mJoin (mC (.str " ")) (mBin fAdd (mLst (aCons (mProp a.c_System (p_System_rule a) (mVar 0)) aNil)) (mLc (mOverL (mProp a.c_System (p_System_row a) (mVar 0))) (gSet 1) mYes (fnN (f1 fStrI) (o1 (mVar 1))) [1]))))
noncomputable def p_write_system (a : Ad) : Fn := runDef 1 2 (m_write_system a)
noncomputable def p_write_system_k_system (a : Ad) : Fn := runDef 1 2 (m_write_system a)
noncomputable def m_read_system (a : Ad) : MS :=
    (sSeq (sStar 2 6 (mSplit (mVar 0) (mC (.str " "))))
    (sSeq (sIf (mCmpB fNotIn (mVar 2) (mC (k_Rule_ALL)))
    sStuck
    sNext)
    (sSeq (sSet 1 (mLst aNil))
    (sSeq (sForM (mEnumS (aCons (mVar 6) (aCons (mC (.int 1)) aNil))) (gTup (gCons (gSet 3) (gCons (gSet 4) gNil)))
    (sSeq (sSet 5 (mCall (p_sign_in a) (aCons (mVar 4) aNil)))
    (sSeq (sIf (mOrB (mCmpB (fIsN false) (mVar 5) (mC .non)) (mOrB (mCmpB (fCmp pGe) (fnN (f1 fLen) (o1 (mVar 1))) (mC (k_System_MOST))) (mAndB (mCmpB fNe (mVar 1) (mLst aNil)) (mCmpB (fCmp pLe) (mVar 5) (mBin fIx (mVar 1) (mNeg (mC (.int 1))))))))
    sStuck
    sNext)
    (sDrop (mMeth gAppend (mVar 1) (aCons (mVar 5) aNil))))))
    (sSeq (sIf (mCmpB fEq (mVar 1) (mLst aNil))
    sStuck
    sNext)
    (sRet (mCall (fun ds => (p_System_of a) (cD a.c_System :: ds)) (aCons (mVar 1) (aCons (mVar 2) aNil)))))))))
noncomputable def p_read_system (a : Ad) : Fn := runDef 1 7 (m_read_system a)
noncomputable def p_read_system_k_text (a : Ad) : Fn := runDef 1 7 (m_read_system a)
noncomputable def m_System_with_rule (a : Ad) : MS :=
    (sRet (mMakeS a.c_System (p_System_init_k_rule a) (mC (cD a.c_System)) (mFld a.c_System "held_values" (mVar 0)) (aCons (mVar 1) aNil)))
noncomputable def p_System_with_rule (a : Ad) : Fn := runDef 2 2 (m_System_with_rule a)
noncomputable def m__law_system_right (a : Ad) : MS :=
    (sSeq (sSet 2 (mCall (fun ds => (p_System_of a) (cD a.c_System :: ds)) (aCons (mVar 0) (aCons (mVar 1) aNil))))
    (sSeq (sPar 4 5 (aCons (mJoin (mC (.str " ")) (mBin fAdd (mLst (aCons (mVar 1) aNil)) (mLc (mOverL (mVar 0)) (gSet 8) mYes (fnN (f1 fStrI) (o1 (mVar 8))) [8]))) (aCons (mCall (p__law_shown a) (aCons (mVar 2) aNil)) aNil)))
    (sSeq (sIf (mCmpB fNe (fnN (f1 fRepr) (o1 (mLst (aCons (mCall (p_write_system a) (aCons (mVar 2) aNil)) (aCons (mCall (p_write_system_k_system a) (aCons (mVar 2) aNil)) aNil))))) (fnN (f1 fRepr) (o1 (mLst (aCons (mVar 4) (aCons (mVar 4) aNil))))))
    (sRet (mC (.bl false)))
    sNext)
    (sSeq (sPar 6 7 (aCons (mCall (p_read_system a) (aCons (mVar 4) aNil)) (aCons (mCall (p_read_system_k_text a) (aCons (mVar 4) aNil)) aNil)))
    (sSeq (sIf (mOrB (mCmpB fNe (fnN (f1 fRepr) (o1 (mLst (aCons (mCall (p__law_shown a) (aCons (mVar 6) aNil)) (aCons (mCall (p__law_shown a) (aCons (mVar 7) aNil)) aNil))))) (fnN (f1 fRepr) (o1 (mLst (aCons (mVar 5) (aCons (mVar 5) aNil)))))) (mOrB (mCmpB (fEqI a.c_System) (mVar 6) (mVar 7)) (mCmpB (fEqI a.c_System) (mVar 6) (mVar 2))))
    (sRet (mC (.bl false)))
    sNext)
    (sSeq (sSet 3 (mMethC a.c_System "with_rule" (p_System_with_rule a) (mVar 6) (aCons (mC (.str "later")) aNil)))
    (sRet (mAnd (mBin fEq (mSplit (mCall (p_write_system a) (aCons (mVar 3) aNil)) (mC (.str " "))) (mBin fAdd (mLst (aCons (mC (.str "later")) aNil)) (mSlice (mSplit (mVar 4) (mC (.str " "))) (some (mC (.int 1))) none))) (mBin fEq (mCall (p_write_system a) (aCons (mVar 6) aNil)) (mVar 4))))))))))
noncomputable def p__law_system_right (a : Ad) : Fn := runDef 2 9 (m__law_system_right a)
noncomputable def m__law_kind (a : Ad) : MS :=
    (sRet (mBin fIx (mLst (aCons (mC (.str "plain")) (aCons (mC (.str "next")) (aCons (mC (.str "single")) (aCons (mC (.str "block")) (aCons (mC (.str "later")) aNil)))))) (mCall (p__law_next a) (aCons (mVar 0) (aCons (mC (.int 5)) aNil)))))
noncomputable def p__law_kind (a : Ad) : Fn := runDef 1 1 (m__law_kind a)
noncomputable def m__law_scale (a : Ad) : MS :=
    (sSeq (sSet 2 (mBin fAdd (mC (.int 1)) (mCall (p__law_next a) (aCons (mVar 0) (aCons (mVar 1) aNil)))))
    (sSeq (sSet 3 (mLst (aCons (mLst (aCons (mC (.int 1)) (aCons (mC (.int 2)) (aCons (mC (.int 3)) (aCons (mC (.int 4)) (aCons (mC (.int 5)) (aCons (mC (.int 6)) aNil))))))) (aCons (mLst (aCons (mC (.int 1)) (aCons (mC (.int 2)) (aCons (mC (.int 4)) (aCons (mC (.int 8)) (aCons (mC (.int 16)) (aCons (mC (.int 32)) aNil))))))) (aCons (mLst (aCons (mC (.int 1)) (aCons (mC (.int 5)) (aCons (mC (.int 10)) (aCons (mC (.int 20)) (aCons (mC (.int 50)) (aCons (mC (.int 60)) aNil))))))) (aCons (mLst (aCons (mC (.int 2)) (aCons (mC (.int 3)) (aCons (mC (.int 4)) (aCons (mC (.int 5)) (aCons (mC (.int 9)) (aCons (mC (.int 60)) aNil))))))) aNil))))))
    (sSeq (sSet 4 (mCall (p__law_next a) (aCons (mVar 0) (aCons (mC (.int 6)) aNil))))
    (sSeq (sIf (mCmpB (fCmp pLt) (mVar 4) (mC (.int 4)))
    (sRet (mSlice (mBin fIx (mVar 3) (mVar 4)) none (some (mVar 2))))
    sNext)
    (sSeq (sSet 5 (mListRg (mC (.int 1)) (mBin fIx (mLst (aCons (mC (.int 16)) (aCons (mC (.int 61)) aNil))) (mBin fSub (mVar 4) (mC (.int 4))))))
    (sRet (fnN (f1 fSorted) (o1 (mLc (mRange1 (aCons (mVar 2) aNil)) (gSet 6) mYes (mMeth gPopAt (mVar 5) (aCons (mCall (p__law_next a) (aCons (mVar 0) (aCons (fnN (f1 fLen) (o1 (mVar 5))) aNil))) aNil)) [6])))))))))
noncomputable def p__law_scale (a : Ad) : Fn := runDef 2 7 (m__law_scale a)
noncomputable def m_law (a : Ad) : MS :=
    (sSeq (sForM (mRange1 (aCons (fnN fMax2 (oCons (mC (.int 1)) (o1 (fnN fMin2 (oCons (mC (.int 4)) (o1 (fnN (f1 fLen) (o1 (mVar 0))))))))) aNil)) (gSet 1)
    (sSeq (sSet 3 (mCall (p__law_tape a) (aCons (mVar 0) (aCons (mVar 1) aNil))))
    (sForM (mRange1 (aCons (mC (.int 3)) aNil)) (gSet 4)
    (sSeq (sSet 2 (mCall (p__law_runs a) (aCons (mVar 3) (aCons (mBin fAdd (mC (.int 1)) (mCall (p__law_next a) (aCons (mVar 3) (aCons (mBin fIx (mLst (aCons (mC (.int 3)) (aCons (mC (.int 20)) (aCons (mC (.int 200)) aNil)))) (mVar 4)) aNil)))) aNil))))
    (sSeq (sIf (mOrB (mNotB (mTru (mCall (p__law_word_right a) (aCons (mVar 2) aNil)))) (mNotB (mTru (mCall (p__law_system_right a) (aCons (mCall (p__law_scale a) (aCons (mVar 3) (aCons (mC (.int 6)) aNil))) (aCons (mCall (p__law_kind a) (aCons (mVar 3) aNil)) aNil))))))
    (sRet (mC (.bl false)))
    sNext)
    (sSeq (sPut (mVar 2) (mNeg (mC (.int 1))) (mTup (aCons (mBin fIx (mBin fIx (mVar 2) (mNeg (mC (.int 1)))) (mC (.int 0))) (aCons (mBin fAdd (mBin fMod (mBin fIx (mBin fIx (mVar 2) (mNeg (mC (.int 1)))) (mC (.int 1))) (mC (.int 9))) (mC (.int 2))) aNil))))
    (sSeq (sIf (mCmpB (fCmp pLt) (fnN (f1 fLen) (o1 (mVar 2))) (mC (.int 200)))
    (sDrop (mMeth gAppend (mVar 2) (aCons (mTup (aCons (mBin fAdd (mBin fMod (mBin fIx (mBin fIx (mVar 2) (mNeg (mC (.int 1)))) (mC (.int 0))) (mC (.int 60))) (mC (.int 1))) (aCons (mC (.int 1)) aNil))) aNil)))
    sNext)
    (sIf (mNotB (mTru (mCall (p__law_word_right a) (aCons (mVar 2) aNil))))
    (sRet (mC (.bl false)))
    sNext))))))))
    (sSeq (sSet 2 (mBin fAdd (mLc (mRange1 (aCons (mC (.int 2)) aNil)) (gSet 5) mYes (mTup (aCons (mBin fAdd (mC (.int 1)) (mBin fMod (mVar 5) (mC (.int 2)))) (aCons (mBin fSub (mBin fMul (mBin fPow (mC (.int 10)) (mC (.int 30))) (mBin fPow (mC (.int 10)) (mC (.int 30)))) (mC (.int 1))) aNil))) [5]) (mLc (mRange1 (aCons (mC (.int 198)) aNil)) (gSet 5) mYes (mTup (aCons (mBin fAdd (mC (.int 1)) (mBin fMod (mVar 5) (mC (.int 2)))) (aCons (mC (.int 1)) aNil))) [5])))
    (sRet (mAnd (mCall (p__law_word_right a) (aCons (mVar 2) aNil)) (mBin fEq (mCall (p_write_word a) (aCons (mLst (aCons (mTup (aCons (mC (.int 1)) (aCons (mC (.int 2)) aNil))) (aCons (mTup (aCons (mC (.int 10)) (aCons (mC (.int 1)) aNil))) aNil))) aNil)) (mC (.str "1*2 10")))))))
noncomputable def p_law (a : Ad) : Fn := runDef 1 6 (m_law a)
end DS.K81
namespace DS.K81
open PySem DS

/-! ### digits -/
theorem num_len {n k : Nat} (hk : 0 < k) (h : n < 10 ^ k) : (TL.numL n).length ≤ k := TL.numL_len hk h
theorem num_head {n : Nat} (h : 1 ≤ n) : ∃ c r, TL.numL n = c :: r ∧ c ≠ 48 := by
  induction n using Nat.strongRecOn with
  | _ n ih =>
    by_cases hn : n < 10
    · exact ⟨48 + n, [], TL.numL_lt hn, by omega⟩
    · obtain ⟨c, r, e, hc⟩ := ih (n / 10) (by omega) (by omega)
      exact ⟨c, r ++ [48 + n % 10], by rw [TL.numL_step (by omega), e]; rfl, hc⟩
theorem num_int {n : Nat} (h : (TL.numL n).length ≤ 4300) : PySem.intText? (Tx (TL.numL n)) = some (n : Int) := by
  rw [← iStr_nat]; exact TL.int_num h
theorem num_dig {n c : Nat} (h : c ∈ TL.numL n) : 48 ≤ c ∧ c ≤ 57 := TL.numL_digits n c h
theorem in_digits {c : Nat} (h : 48 ≤ c ∧ c ≤ 57) : decide (c ∈ ("0123456789" : Str).cps.toList) = true := by
  have e : ("0123456789" : Str).cps.toList = [48, 49, 50, 51, 52, 53, 54, 55, 56, 57] := by decide
  rw [e]
  simp only [List.mem_cons, List.not_mem_nil, or_false, decide_eq_true_eq]
  omega
/-! ### number_in, sign_in, run_in -/
theorem fIn_sign {s : DS.S} {c : Nat} {z : Str} (h : decide (c ∈ z.cps.toList) = true) : fIn s (.val (.str ⟨#[c]⟩)) (.val (.str z)) = some (vB true) := by
  have e1 : fInF false s (.val (.str ⟨#[c]⟩)) (.val (.str z)) = none := by
    unfold fInF
    simp [sc]
  unfold fIn fOr
  rw [e1]
  show fInC s _ _ = _
  unfold fInC fStr
  dsimp only
  rw [h]
theorem ev_number_in (a : Ad) (n m : Nat) (cs : List Cont) (h1 : 1 ≤ n) (hl : (TL.numL n).length ≤ m) (hm : m ≤ 100) : p_number_in a [.str (Tx (TL.numL n)), .int m] cs = .ok (.val (.int n)) cs := by
  show finR (m_number_in a ⟨cs, [some (.fz (.str (Tx (TL.numL n)))), some (.fz (.int m)), none]⟩) = _
  obtain ⟨c, r, e, hc⟩ := num_head h1
  have hz : (Tx (TL.numL n)).length ≤ sizeLine := by rw [Tx_len]; exact Nat.le_trans hl (Nat.le_trans hm (by decide))
  have hne : 1 ≤ (TL.numL n).length := by rw [e]; simp
  have k1 : ∀ s, f1 fLen s [.val (.str (Tx (TL.numL n)))] = some (vI (TL.numL n).length) := fun s => by rw [fLen_str hz, Tx_len]
  have k2 : ∀ s, fIx s (.val (.str (Tx (TL.numL n)))) (.val (.int 0)) = some (vSt (Tx [c])) := fun s => fIx_str (by simp [e]) hz
  have k3 : (Tx [c] = ("0" : Str)) = False := by
    have : ("0" : Str) = Tx [48] := by decide
    rw [this]
    simp [hc]
  have k4 : ∀ chk : DS.S → Prop, (∀ s, chk s) → lcRun (gSet 2) mYes (fc (mBin fIn (mVar 2) (mC (.str "0123456789")))) [2] ⟨(TL.numL n).map fun c => D.str (Tx [c]), chk⟩ ⟨cs, [some (.fz (.str (Tx (TL.numL n)))), some (.fz (.int m)), none]⟩ = .ok (.own (.lst ((TL.numL n).map fun _ => D.bl true))) ⟨cs, [some (.fz (.str (Tx (TL.numL n)))), some (.fz (.int m)), none]⟩ := by
    intro chk hk
    rw [lcRun_map1 (fun _ => .bl true) (by simpa using hz) rfl (fun _ => hk _)]
    · simp
    · intro d hd
      simp only [List.mem_map] at hd
      obtain ⟨c', hc', rfl⟩ := hd
      have k := fun s => fIn_sign (s := s) (in_digits (num_dig (n := n) hc'))
      simp [k]
  have k5 : ∀ s, f1 fAll s [.val (.lst ((TL.numL n).map fun _ => D.bl true))] = some (vB true) := fun s => by
    rw [fAll_bls (bs := (TL.numL n).map fun _ => true)]
    · simp
    · simp only [vL_ev, dat_val, daL_lst, Option.bind_some]
      rw [show (TL.numL n).map (fun _ => D.bl true) = ((TL.numL n).map fun _ => true).map D.bl by simp]
      exact dBls_map _
  have k6 : ∀ s, f1 fInt s [.val (.str (Tx (TL.numL n)))] = some (vI n) := fun s => fInt_str (by rw [Tx_len]; omega) (num_int (by omega))
  have i1 : (1 : Int) ≤ ((TL.numL n).length : Nat) := by omega
  have i2 : (((TL.numL n).length : Nat) : Int) ≤ (m : Int) := by omega
  simp [m_number_in, k1, k2, k3, k4, k5, k6, i1, i2]
theorem ev_sign_in (a : Ad) (n : Nat) (cs : List Cont) (h1 : 1 ≤ n) (h2 : n ≤ 60) : p_sign_in a [.str (Tx (TL.numL n))] cs = .ok (.val (.int n)) cs := by
  show finR (m_sign_in a ⟨cs, [some (.fz (.str (Tx (TL.numL n)))), none]⟩) = _
  have e1 : ∀ s : DS.S, f1 fStrI s [.val (.int 60)] = some (vSt (Tx [54, 48])) := fun s => by rw [fStr_int (by decide)]; rfl
  have e2 : ∀ s : DS.S, f1 fLen s [.val (.str (Tx [54, 48]))] = some (vI 2) := fun s => by rw [fLen_str (by decide)]; rfl
  have e3 := ev_number_in a n 2 cs h1 (num_len (by decide) (by omega)) (by decide)
  have i1 : (n : Int) ≤ 60 := by omega
  have e3 : p_number_in a [.str (Tx (TL.numL n)), .int 2] cs = .ok (.val (.int n)) cs := e3
  simp [m_sign_in, e1, e2, e3, i1]
/-- a run's text -/
def rT (r : Nat × Nat) : List Nat := TL.numL r.1 ++ (if 1 < r.2 then 42 :: TL.numL r.2 else [])
def rD (r : Nat × Nat) : D := .tup [.int r.1, .int r.2]
def RunOk (r : Nat × Nat) : Prop := 1 ≤ r.1 ∧ r.1 ≤ 60 ∧ 1 ≤ r.2 ∧ r.2 < 10 ^ 60
theorem no_star (n : Nat) : 42 ∉ TL.numL n := TL.numL_free (.inl (by decide))
theorem no_space (n : Nat) : 32 ∉ TL.numL n := TL.numL_free (.inl (by decide))
theorem rT_free (r : Nat × Nat) : 32 ∉ rT r := by
  unfold rT
  split
  · simp [no_space]
  · simp [no_space]
theorem num2 {n : Nat} (h : n ≤ 60) : (TL.numL n).length ≤ 2 := num_len (by decide) (by omega)
theorem rT_len {r : Nat × Nat} (h : RunOk r) : (rT r).length ≤ 63 := by
  obtain ⟨_, h2, _, h4⟩ := h
  have l1 := num2 h2
  have l2 : (TL.numL r.2).length ≤ 60 := num_len (by decide) h4
  unfold rT
  split <;> simp <;> omega
theorem split_star1 (p : List Nat) (h : 42 ∉ p) : Txt.split (Tx p) "*" = [Tx p] := by
  have e : ("*" : Str) = SX.S [42] := by decide
  rw [e]
  show Txt.split (SX.S p) _ = _
  rw [SX.split_S (by decide) (by decide)]
  have := SX.spl_join (c := 42) (sep := []) (parts := [p]) (by simp) (by simpa using h)
  rw [show TL.joinL [42] [p] = p from rfl] at this
  rw [this]; rfl
theorem split_star2 (p q : List Nat) (h : 42 ∉ p) (h2 : 42 ∉ q) : Txt.split (Tx (p ++ 42 :: q)) "*" = [Tx p, Tx q] := by
  have e : ("*" : Str) = SX.S [42] := by decide
  rw [e]
  show Txt.split (SX.S _) _ = _
  rw [SX.split_S (by decide) (by decide)]
  have := SX.spl_join (c := 42) (sep := []) (parts := [p, q]) (by simp) (by simpa using ⟨h, h2⟩)
  rw [show TL.joinL [42] [p, q] = p ++ 42 :: q from rfl] at this
  rw [this]; rfl
theorem fSplit_ok {x y : Str} {ys : List Str} (h : Txt.split x y = ys) (hy : (y.length == 0) = false) (hx : x.length + 2 ≤ sizeLine) : fSplit x y = some (.lst (ys.map D.str)) := by
  unfold fSplit
  rw [if_pos ⟨hy, hx⟩, h]
theorem ev_run_in (a : Ad) (r : Nat × Nat) (cs : List Cont) (h : RunOk r) : p_run_in a [.str (Tx (rT r))] cs = .ok (.val (rD r)) cs := by
  show finR (m_run_in a ⟨cs, [some (.fz (.str (Tx (rT r)))), none, none, none]⟩) = _
  have hlen := rT_len h
  obtain ⟨h1, h2, h3, h4⟩ := h
  have e1 := ev_sign_in a r.1 cs h1 h2
  have e2 : p_number_in a [.str (Tx (TL.numL r.2)), .int 60] cs = .ok (.val (.int r.2)) cs := ev_number_in a r.2 60 cs h3 (num_len (by decide) h4) (by decide)
  have hx : (Tx (rT r)).length + 2 ≤ sizeLine := by rw [Tx_len]; exact Nat.le_trans (by omega) (by decide : 100 ≤ sizeLine)
  have kx : ∀ s : DS.S, ∀ x y : Int, fNotIn s (.val .non) (.val (.tup [.int x, .int y])) = some (vB true) := fun s x y => by
    have e : L2.inV L2.V.non [L2.V.int x, L2.V.int y] = false := rfl
    simp [fNotIn, fInF, sc, scs, e]
  by_cases hc : 1 < r.2
  · have e3 : fSplit (Tx (rT r)) "*" = some (.lst [.str (Tx (TL.numL r.1)), .str (Tx (TL.numL r.2))]) := fSplit_ok (ys := [Tx (TL.numL r.1), Tx (TL.numL r.2)]) (by unfold rT; rw [if_pos hc]; exact split_star2 _ _ (no_star _) (no_star _)) (by decide) hx
    have i1 : ((r.2 : Nat) : Int) ≠ 1 := by omega
    simp [m_run_in, e1, e2, e3, kx, i1, fIx_ok, rD]
  · have e3 : fSplit (Tx (rT r)) "*" = some (.lst [.str (Tx (TL.numL r.1))]) := fSplit_ok (ys := [Tx (TL.numL r.1)]) (by unfold rT; rw [if_neg hc, List.append_nil]; exact split_star1 _ (no_star _)) (by decide) hx
    have i1 : ((r.2 : Nat) : Int) = 1 := by omega
    simp [m_run_in, e1, e2, e3, kx, rD, i1]
/-! ### write_word -/
theorem log_small {n : Nat} (h : n < 10 ^ 60) : ((n : Nat) : Int).natAbs.log2 < 1920 := by
  rw [Int.natAbs_natCast]
  by_cases h0 : n = 0
  · subst h0; decide
  · exact (Nat.log2_lt h0).mpr (Nat.lt_trans h (by decide))
theorem ev_run_text (a : Ad) (r : Nat × Nat) (cs : List Cont) (h : RunOk r) : p_run_text a [rD r] cs = .ok (.val (.str (Tx (rT r)))) cs := by
  show finR (m_run_text a ⟨cs, [some (.fz (rD r)), none, none]⟩) = _
  have hlen := rT_len h
  obtain ⟨h1, h2, h3, h4⟩ := h
  have f1 : fmt (.val (.int r.1)) = some (Tx (TL.numL r.1)) := by rw [fmt_int (log_small (by omega)), iStr_nat]
  have f2 : fmt (.val (.int r.2)) = some (Tx (TL.numL r.2)) := by rw [fmt_int (log_small h4), iStr_nat]
  by_cases hc : 1 < r.2
  · have i1 : (1 : Int) < (r.2 : Nat) := by omega
    have e : rT r = TL.numL r.1 ++ 42 :: TL.numL r.2 := by unfold rT; rw [if_pos hc]
    have st : ("*" : Str) = Tx [42] := by decide
    have em : Str.empty = Tx [] := rfl
    rw [e] at hlen ⊢
    simp only [List.length_append, List.length_cons] at hlen
    have z1 : (TL.numL r.1).length ≤ sizeLine := Nat.le_trans (by omega : _ ≤ 100) (by decide)
    have z2 : (TL.numL r.1).length + 1 ≤ sizeLine := Nat.le_trans (by omega : _ ≤ 100) (by decide)
    have z3 : (TL.numL r.1).length + ((TL.numL r.2).length + 1) ≤ sizeLine := Nat.le_trans (by omega : _ ≤ 100) (by decide)
    simp [m_run_text, rD, i1, f1, f2, st, em, z1, z2, z3]
  · have i1 : ¬ (1 : Int) < (r.2 : Nat) := by omega
    have e : rT r = TL.numL r.1 := by unfold rT; rw [if_neg hc, List.append_nil]
    rw [e]
    simp [m_run_text, rD, i1, f1, f2]
/-- a word's text -/
def wT (W : List (Nat × Nat)) : List Nat := TL.joinL [32] (W.map rT)
theorem sum_le {α : Type} {f : α → Nat} {k : Nat} : ∀ l : List α, (∀ x ∈ l, f x ≤ k) → (l.map f).sum ≤ l.length * k
  | [], _ => by simp
  | x :: l, h => by
    have h1 := h x (by simp)
    have h2 := sum_le l fun y hy => h y (by simp [hy])
    simp only [List.map_cons, List.sum_cons, List.length_cons, Nat.add_mul, Nat.one_mul]
    omega
def WordOk (W : List (Nat × Nat)) : Prop := (∀ r ∈ W, RunOk r) ∧ W.length ≤ 200
theorem fJoin_word {W : List (Nat × Nat)} (h : WordOk W) : fJoin " " ((W.map rT).map Tx) = some (vSt (Tx (wT W))) := by
  have e : (" " : Str) = SX.S [32] := by decide
  unfold fJoin
  have hs := sum_le (f := fun r => (rT r).length) (k := 63) W fun r hr => rT_len (h.1 r hr)
  have hz := h.2
  have e2 : (((W.map rT).map Tx).map (·.length)).sum = (W.map fun r => (rT r).length).sum := by
    simp only [List.map_map]; congr 1
  have e3 : (" " : Str).length = 1 := by decide
  rw [if_pos (by rw [e2, e3]; simp only [List.length_map]; omega), e]
  show some (vSt (Txt.join (SX.S [32]) ((W.map rT).map SX.S))) = _
  rw [SX.join_S]
  rfl
theorem ev_write_word (a : Ad) (W : List (Nat × Nat)) (d : D) (cs : List Cont) (hd : ∃ chk, (∀ sl, chk ⟨cs, sl⟩) ∧ ∀ sl, ovL d ⟨cs, sl⟩ = .ok ⟨W.map rD, chk⟩ ⟨cs, sl⟩) (h : WordOk W) : p_write_word a [d] cs = .ok (.val (.str (Tx (wT W)))) cs := by
  show finR (m_write_word a ⟨cs, [some (.fz d), none]⟩) = _
  obtain ⟨chk, hk, ho⟩ := hd
  have k4 : lcRun (gSet 1) mYes (fc (mCall (p_run_text a) (aCons (mVar 1) aNil))) [1] ⟨W.map rD, chk⟩ ⟨cs, [some (.fz d), none]⟩ = .ok (.own (.lst ((W.map rT).map fun l => .str (Tx l)))) ⟨cs, [some (.fz d), none]⟩ := by
    rw [lcRun_map1 (fun d => match d with | .tup [.int s, .int c] => .str (Tx (rT (s.toNat, c.toNat))) | _ => .non) (by simp only [List.length_map]; exact Nat.le_trans h.2 (by decide)) rfl hk]
    · simp [rD, Function.comp_def]
    · intro d hd
      simp only [List.mem_map] at hd
      obtain ⟨r, hr, rfl⟩ := hd
      have e1 := ev_run_text a r cs (h.1 r hr)
      simp [e1]
      simp [rD]
  have k5 : ((dStrs ((W.map rT).map fun l => D.str (Tx l))).bind fun ys => fJoin " " ys) = some (vSt (Tx (wT W))) := by
    have e : ((W.map rT).map fun l => D.str (Tx l)) = ((W.map rT).map Tx).map D.str := by simp
    rw [e, dStrs_map, Option.bind_some]
    exact fJoin_word h
  simp at k5
  simp [m_write_word, ho, k4, k5]
/-! ### read_word -/
theorem split_word {W : List (Nat × Nat)} (h : W ≠ []) : Txt.split (Tx (wT W)) " " = (W.map rT).map Tx := by
  have e : (" " : Str) = SX.S [32] := by decide
  rw [e]
  show Txt.split (SX.S _) _ = _
  rw [SX.split_S (by decide) (by decide)]
  unfold wT
  rw [SX.spl_join (by simpa using h) (by
    intro p hp
    simp only [List.mem_map] at hp
    obtain ⟨r, _, rfl⟩ := hp
    exact rT_free r)]
theorem joinL_len {k : Nat} : ∀ ps : List (List Nat), (∀ p ∈ ps, p.length ≤ k) → (TL.joinL [32] ps).length ≤ ps.length * (k + 1)
  | [], _ => by simp [TL.joinL]
  | [p], h => by
    have := h p (by simp)
    simp [TL.joinL]; omega
  | p :: q :: r, h => by
    have h1 := h p (by simp)
    have h2 := joinL_len (q :: r) fun y hy => h y (List.mem_cons_of_mem _ hy)
    simp only [TL.joinL, List.length_append, List.length_cons, List.length_nil] at h2 ⊢
    have : (r.length + 1 + 1) * (k + 1) = (r.length + 1) * (k + 1) + (k + 1) := by rw [Nat.add_mul (r.length + 1) 1]; simp
    omega
theorem wT_len {W : List (Nat × Nat)} (h : WordOk W) : (wT W).length ≤ 12800 := by
  have h1 := joinL_len (k := 63) (W.map rT) fun p hp => by
    simp only [List.mem_map] at hp
    obtain ⟨r, hr, rfl⟩ := hp
    exact rT_len (h.1 r hr)
  unfold wT
  have h2 := h.2
  simp only [List.length_map] at h1
  have : W.length * (63 + 1) ≤ 200 * 64 := Nat.mul_le_mul_right 64 h2
  omega
/-- no two runs of one sign side by side -/
def Apart (W : List (Nat × Nat)) : Prop := ∀ i a b, W[i]? = some a → W[i + 1]? = some b → a.1 ≠ b.1
def rP (r : Nat × Nat) : PyData := .tuple [.int r.1, .int r.2]
theorem den_rD {cs : List Cont} {n : Nat} (r : Nat × Nat) : den cs (n + 1) (rD r) = some (rP r) := by simp [rD, rP]
theorem told_rP {r : Nat × Nat} (h : RunOk r) : told (rP r) = true := by
  obtain ⟨h1, h2, h3, h4⟩ := h
  have e1 := log_small (n := r.1) (by omega)
  have e2 := log_small h4
  simp only [rP, told, tolds, e1, e2, decide_true, Bool.and_self]
theorem log_lt {n : Nat} (h : n < 10 ^ 60) : ((n : Nat) : Int).natAbs.log2 < 200 := by
  rw [Int.natAbs_natCast]
  by_cases h0 : n = 0
  · subst h0; decide
  · exact (Nat.log2_lt h0).mpr (Nat.lt_trans h (by decide))
theorem cost_rP {r : Nat × Nat} (h : RunOk r) : cost (rP r) ≤ 420 := by
  obtain ⟨h1, h2, h3, h4⟩ := h
  have e1 := log_lt (n := r.1) (by omega)
  have e2 := log_lt h4
  simp only [rP, cost, costs]
  omega
abbrev wP (W : List (Nat × Nat)) : PyData := .list (W.map rP)
theorem denL_W {cs : List Cont} {n : Nat} (W : List (Nat × Nat)) : denL (den cs (n + 1)) (W.map rD) = some (W.map rP) := denL_map W fun r _ => den_rD r
theorem told_W {W : List (Nat × Nat)} (h : ∀ r ∈ W, RunOk r) : told (wP W) = true := by
  simp only [told]
  exact tolds_map W fun r hr => told_rP (h r hr)
theorem cost_W {W : List (Nat × Nat)} (h : WordOk W) : cost (wP W) ≤ 90000 := by
  have := costs_map (h := rP) (c := 420) W fun r hr => cost_rP (h.1 r hr)
  have h2 := h.2
  simp only [cost]
  omega
theorem ne_nil {s : DS.S} {n : Nat} {P : List (Nat × Nat)} (h : s.cs[n]? = some (.lst (P.map rD))) (hP : ∀ r ∈ P, RunOk r) : fNe s (.val (.ref n)) (.val (.lst [])) = some (vB (!P.isEmpty)) := by
  rw [fNe_den (p := wP P) (q := .list []) fEqS_ref (by rw [denO_ev, dat_val, doR_some, den_ref h, denL_W]; rfl) (by simp) (told_W hP) rfl, eqv_nil]
  cases P <;> rfl
theorem ix_last {s : DS.S} {n : Nat} {P : List (Nat × Nat)} {q : Nat × Nat} (h : s.cs[n]? = some (.lst ((P ++ [q]).map rD))) : fIx s (.val (.ref n)) (.val (.int (-1))) = some (.opd (.val (rD q))) := by
  rw [List.map_append] at h
  exact fIx_ok (xs := P.map rD ++ [rD q]) (by simp [h]) atI_last
theorem ix_sign {s : DS.S} {r : Nat × Nat} : fIx s (.val (rD r)) (.val (.int 0)) = some (vI r.1) := fIx_ok (xs := [.int r.1, .int r.2]) (by simp [rD]) (by simp)
theorem enumD_at {xs : List D} {i : Nat} {d : D} (h : (enumD 0 xs)[i]? = some d) : ∃ x, xs[i]? = some x ∧ d = .tup [.int i, x] := by
  simp only [enumD, List.getElem?_map, Option.map_eq_some_iff, List.getElem?_zipIdx] at h
  obtain ⟨⟨d1, k1⟩, ⟨d2, hd, e2⟩, rfl⟩ := h
  cases e2
  exact ⟨_, hd, by simp⟩
@[simp] theorem enumD_length {k : Nat} {xs : List D} : (enumD k xs).length = xs.length := by simp [enumD]
theorem at_end {α : Type} {l : List α} {x : α} : (l ++ [x])[l.length]? = some x := by simp
theorem set_end {α : Type} {l : List α} {x y : α} : (l ++ [x]).set l.length y = l ++ [y] := by simp
theorem ev_read_word (a : Ad) (W : List (Nat × Nat)) (cs : List Cont) (hne : W ≠ []) (h : WordOk W) (hA : Apart W) : p_read_word a [.str (Tx (wT W))] cs = .ok (.val (.ref cs.length)) (cs ++ [.lst (W.map rD)]) := by
  show finR (m_read_word a ⟨cs, [some (.fz (.str (Tx (wT W)))), none, none, none, none]⟩) = _
  have hx : (Tx (wT W)).length + 2 ≤ sizeLine := by rw [Tx_len]; have := wT_len h; exact Nat.le_trans (by omega : _ ≤ 20000) (by decide)
  have e3 : fSplit (Tx (wT W)) " " = some (.lst (((W.map rT).map Tx).map D.str)) := fSplit_ok (split_word hne) (by decide) hx
  have loop : ∃ s', sFor (fun _ => True) (gTup (gCons (gSet 2) (gCons (gSet 3) gNil)))
      (sSeq (sSet 4 (mCall (p_run_in a) (aCons (mVar 3) aNil)))
    (sSeq (sIf (mOrB (mCmpB (fIsN false) (mVar 4) (mC .non)) (mOrB (mCmpB (fCmp pGe) (mVar 2) (mC (.int 200))) (mAndB (mCmpB fNe (mVar 1) (mLst aNil)) (mCmpB fEq (mBin fIx (mBin fIx (mVar 1) (mNeg (mC (.int 1)))) (mC (.int 0))) (mBin fIx (mVar 4) (mC (.int 0)))))))
    sStuck
    sNext)
    (sDrop (mMeth gAppend (mVar 1) (aCons (mVar 4) aNil))))) (enumD 0 (((W.map rT).map Tx).map D.str)) ⟨cs ++ [.lst []], [some (.fz (.str (Tx (wT W)))), some (.fz (.ref cs.length)), none, none, none]⟩ = .next s' ∧
      ∃ x2 x3 x4, s' = ⟨cs ++ [.lst (W.map rD)], [some (.fz (.str (Tx (wT W)))), some (.fz (.ref cs.length)), x2, x3, x4]⟩ := by
    have step : ∀ (i : Nat) (d : D) (s : DS.S), (enumD 0 (((W.map rT).map Tx).map D.str))[i]? = some d → (∃ x2 x3 x4, s = (⟨cs ++ [.lst ((W.take i).map rD)], [some (.fz (.str (Tx (wT W)))), some (.fz (.ref cs.length)), x2, x3, x4]⟩ : DS.S)) →
        ∃ s1, gTup (gCons (gSet 2) (gCons (gSet 3) gNil)) d s = some s1 ∧ ∃ s2, ((sSeq (sSet 4 (mCall (p_run_in a) (aCons (mVar 3) aNil)))
    (sSeq (sIf (mOrB (mCmpB (fIsN false) (mVar 4) (mC .non)) (mOrB (mCmpB (fCmp pGe) (mVar 2) (mC (.int 200))) (mAndB (mCmpB fNe (mVar 1) (mLst aNil)) (mCmpB fEq (mBin fIx (mBin fIx (mVar 1) (mNeg (mC (.int 1)))) (mC (.int 0))) (mBin fIx (mVar 4) (mC (.int 0)))))))
    sStuck
    sNext)
    (sDrop (mMeth gAppend (mVar 1) (aCons (mVar 4) aNil))))) s1 = .next s2 ∨ (sSeq (sSet 4 (mCall (p_run_in a) (aCons (mVar 3) aNil)))
    (sSeq (sIf (mOrB (mCmpB (fIsN false) (mVar 4) (mC .non)) (mOrB (mCmpB (fCmp pGe) (mVar 2) (mC (.int 200))) (mAndB (mCmpB fNe (mVar 1) (mLst aNil)) (mCmpB fEq (mBin fIx (mBin fIx (mVar 1) (mNeg (mC (.int 1)))) (mC (.int 0))) (mBin fIx (mVar 4) (mC (.int 0)))))))
    sStuck
    sNext)
    (sDrop (mMeth gAppend (mVar 1) (aCons (mVar 4) aNil))))) s1 = .cont s2) ∧ ∃ x2 x3 x4, s2 = (⟨cs ++ [.lst ((W.take (i + 1)).map rD)], [some (.fz (.str (Tx (wT W)))), some (.fz (.ref cs.length)), x2, x3, x4]⟩ : DS.S) := by
      rintro i d s hd ⟨x2, x3, x4, rfl⟩
      obtain ⟨x, hx, rfl⟩ := enumD_at hd
      simp only [List.getElem?_map, Option.map_eq_some_iff] at hx
      obtain ⟨_, ⟨_, ⟨r, hr, rfl⟩, rfl⟩, rfl⟩ := hx
      have hrm : r ∈ W := List.mem_of_getElem? hr
      obtain ⟨hil, hir⟩ := List.getElem?_eq_some_iff.mp hr
      have e4 := fun cs => ev_run_in a r cs (h.1 r hrm)
      have hP : ∀ q ∈ W.take i, RunOk q := fun q hq => h.1 q (List.mem_of_mem_take hq)
      have i1 : ¬ (200 : Int) ≤ (i : Int) := by have := h.2; omega
      have nn : isNonD (rD r) = some false := rfl
      have zz : ((W.take i).map rD).length < sizeLine := by have := h.2; simp only [List.length_map, List.length_take]; exact Nat.lt_of_le_of_lt (by omega : _ ≤ 200) (by decide)
      have k0 : (W.take (i + 1)).map rD = (W.take i).map rD ++ [rD r] := by rw [List.take_succ_eq_append_getElem hil, hir, List.map_append]; rfl
      have k1 : ∀ sl, fNe ⟨cs ++ [.lst ((W.take i).map rD)], sl⟩ (.val (.ref cs.length)) (.val (.lst [])) = some (vB (!(W.take i).isEmpty)) := fun sl => ne_nil at_end hP
      have k5 : (W.take i).isEmpty = true ∨ ((W.take i).isEmpty = false ∧ ∃ q : Nat × Nat, q.1 ≠ r.1 ∧ ∀ sl, fIx ⟨cs ++ [.lst ((W.take i).map rD)], sl⟩ (.val (.ref cs.length)) (.val (.int (-1))) = some (.opd (.val (rD q)))) := by
        cases i with
        | zero => exact .inl rfl
        | succ i =>
          have hil2 : i < W.length := by omega
          have e5 : W.take (i + 1) = W.take i ++ [W[i]] := List.take_succ_eq_append_getElem hil2
          refine .inr ⟨by simpa using hne, W[i], hA i _ _ (by simp [hil2]) hr, fun sl => ix_last (P := W.take i) ?_⟩
          rw [← e5]; exact at_end
      have k6 : ∀ s, fIx s (.val (rD r)) (.val (.int 0)) = some (vI r.1) := fun s => ix_sign
      rw [k0]
      generalize (W.take i).map rD = L at zz k1 k5 ⊢
      generalize (W.take i).isEmpty = b at k1 k5
      have k2 : ∀ sl, mthR2 gAppend (.val (.ref cs.length)) [rD r] ⟨cs ++ [.lst L], sl⟩ = .ok (.opd (.val .non)) ⟨cs ++ [.lst (L ++ [rD r])], sl⟩ := fun sl => by
        rw [mthR2_ref (xs := L) (ys := L ++ [rD r]) (r := vN) at_end (by
          unfold gAppend
          dsimp only
          rw [if_pos zz])]
        simp [set_end]
      have k3 : ∀ sl, mthR gAppend (aCons (mVar 4) aNil) (.val (.ref cs.length)) ⟨cs ++ [.lst L], sl⟩ = R.bd (aCons (mVar 4) aNil ⟨cs ++ [.lst L], sl⟩) (mthR2 gAppend (.val (.ref cs.length))) := fun sl => mthR_ev (xs := L) (by simp)
      refine ⟨_, rfl, ⟨cs ++ [.lst (L ++ [rD r])], [some (.fz (.str (Tx (wT W)))), some (.fz (.ref cs.length)), some (.fz (.int i)), some (.fz (.str (Tx (rT r)))), some (.fz (rD r))]⟩, .inl ?_, ?_⟩
      · rcases k5 with rfl | ⟨rfl, q, hq, k7⟩
        · simp [e4, k1, nn, i1, k3, k2]
        · have k8 : ∀ s, fIx s (.val (rD q)) (.val (.int 0)) = some (vI q.1) := fun s => ix_sign
          have i2 : ¬ ((q.1 : Nat) : Int) = (r.1 : Nat) := by omega
          simp [e4, k1, nn, i1, k3, k2, k7, k8, k6, i2]
      · exact ⟨_, _, _, rfl⟩
    obtain ⟨s', e1, x2, x3, x4, e2⟩ := sFor_inv (chk := fun _ => True) (fun i s => ∃ x2 x3 x4, s = (⟨cs ++ [.lst ((W.take i).map rD)], [some (.fz (.str (Tx (wT W)))), some (.fz (.ref cs.length)), x2, x3, x4]⟩ : DS.S)) (fun _ _ _ _ => trivial) step
      (s := ⟨cs ++ [.lst []], [some (.fz (.str (Tx (wT W)))), some (.fz (.ref cs.length)), none, none, none]⟩) ⟨none, none, none, by simp⟩
    refine ⟨s', e1, x2, x3, x4, ?_⟩
    rw [e2]
    simp
  obtain ⟨s', e5, x2, x3, x4, rfl⟩ := loop
  simp at e5
  simp [m_read_word, e3, forS_ev, e5]
end DS.K81
namespace DS.K81
open PySem DS

/-! ### a word, wherever it stands -/
def IsW (d : D) (cs : List Cont) (W : List (Nat × Nat)) : Prop := d = .lst (W.map rD) ∨ ∃ n, d = .ref n ∧ cs[n]? = some (.lst (W.map rD))
theorem IsW.more {d : D} {cs : List Cont} {W : List (Nat × Nat)} (h : IsW d cs W) (ex : List Cont) : IsW d (cs ++ ex) W := by
  rcases h with h | ⟨n, h, e⟩
  · exact .inl h
  · refine .inr ⟨n, h, ?_⟩
    obtain ⟨hl, _⟩ := List.getElem?_eq_some_iff.mp e
    rw [List.getElem?_append_left hl]; exact e
theorem IsW.ov {d : D} {cs : List Cont} {W : List (Nat × Nat)} (h : IsW d cs W) : ∃ chk : DS.S → Prop, (∀ sl, chk ⟨cs, sl⟩) ∧ ∀ sl, ovL d ⟨cs, sl⟩ = .ok ⟨W.map rD, chk⟩ ⟨cs, sl⟩ := by
  rcases h with rfl | ⟨n, rfl, e⟩
  · exact ⟨fun _ => True, fun _ => trivial, fun sl => ovL_lst⟩
  · exact ⟨fun s => s.cs[n]? = some (.lst (W.map rD)), fun _ => e, fun sl => ovL_ref e⟩
theorem IsW.den {d : D} {cs : List Cont} {W : List (Nat × Nat)} (h : IsW d cs W) {n : Nat} : DS.den cs (n + 2) d = some (wP W) := by
  rcases h with rfl | ⟨k, rfl, e⟩
  · rw [den_lst, denL_W]; rfl
  · rw [den_ref e, denL_W]; rfl
theorem IsW.ref {cs : List Cont} {W : List (Nat × Nat)} {n : Nat} (e : cs[n]? = some (.lst (W.map rD))) : IsW (.ref n) cs W := .inr ⟨n, rfl, e⟩
theorem ev_law_text (a : Ad) (W : List (Nat × Nat)) (d : D) (cs : List Cont) (hd : IsW d cs W) (h : WordOk W) : p__law_text a [d] cs = .ok (.val (.str (Tx (wT W)))) cs := by
  show finR (m__law_text a ⟨cs, [some (.fz d), none, none]⟩) = _
  obtain ⟨chk, hk, ho⟩ := hd.ov
  have em : ("" : Str) = Tx [] := rfl
  have st : ("*" : Str) = Tx [42] := by decide
  have eW : W.map rD = (W.map fun r => (D.int r.1, D.int r.2)).map fun d => D.tup [d.1, d.2] := by
    rw [List.map_map]; rfl
  have k4 : lcRun (gTup (gCons (gSet 1) (gCons (gSet 2) gNil))) mYes (fc (mBin fAdd (fnN (f1 fStrI) (o1 (mVar 1))) (mIf (mCmpB (fCmp pGt) (mVar 2) (mC (.int 1))) (mBin fAdd (mC (.str "*")) (fnN (f1 fStrI) (o1 (mVar 2)))) (mC (.str ""))))) [1, 2] ⟨W.map rD, chk⟩ ⟨cs, [some (.fz d), none, none]⟩ =
      .ok (.own (.lst ((W.map rT).map fun l => .str (Tx l)))) ⟨cs, [some (.fz d), none, none]⟩ := by
    rw [eW, lcRun_map2 (fun d => match d with | (.int s, .int c) => .str (Tx (rT (s.toNat, c.toNat))) | _ => .non) (by decide) (by simp only [List.length_map]; exact Nat.le_trans h.2 (by decide)) rfl rfl hk]
    · simp [Function.comp_def]
    · intro d hd
      simp only [List.mem_map] at hd
      obtain ⟨r, hr, rfl⟩ := hd
      have hlen := rT_len (h.1 r hr)
      obtain ⟨h1, h2, h3, h4⟩ := h.1 r hr
      have f1 : ∀ s, f1 fStrI s [.val (.int r.1)] = some (vSt (Tx (TL.numL r.1))) := fun s => by rw [fStr_int (log_small (by omega)), iStr_nat]
      have f2 : ∀ s, DS.f1 fStrI s [.val (.int r.2)] = some (vSt (Tx (TL.numL r.2))) := fun s => by rw [fStr_int (log_small h4), iStr_nat]
      have add : ∀ (s : DS.S) (x y : List Nat), x.length + y.length ≤ 1000 → fAdd s (.val (.str (Tx x))) (.val (.str (Tx y))) = some (vSt (Tx (x ++ y))) := fun s x y hxy => by
        rw [fAdd_str (by rw [Tx_len, Tx_len]; exact Nat.le_trans hxy (by decide)), Tx_cat]
      by_cases hc : 1 < r.2
      · have i1 : (1 : Int) < (r.2 : Nat) := by omega
        have e : rT r = TL.numL r.1 ++ 42 :: TL.numL r.2 := by unfold rT; rw [if_pos hc]
        rw [e] at hlen
        simp only [List.length_append, List.length_cons] at hlen
        have a1 : ∀ s, fAdd s (.val (.str (Tx [42]))) (.val (.str (Tx (TL.numL r.2)))) = some (vSt (Tx (42 :: TL.numL r.2))) := fun s => add s _ _ (by simp; omega)
        have a2 : ∀ s, fAdd s (.val (.str (Tx (TL.numL r.1)))) (.val (.str (Tx (42 :: TL.numL r.2)))) = some (vSt (Tx (TL.numL r.1 ++ 42 :: TL.numL r.2))) := fun s => add s _ _ (by simp; omega)
        simp [i1, f1, f2, st, a1, a2, e]
      · have i1 : ¬ (1 : Int) < (r.2 : Nat) := by omega
        have e : rT r = TL.numL r.1 := by unfold rT; rw [if_neg hc, List.append_nil]
        rw [e] at hlen
        have a2 : ∀ s, fAdd s (.val (.str (Tx (TL.numL r.1)))) (.val (.str (Tx []))) = some (vSt (Tx (TL.numL r.1))) := fun s => by rw [add s _ _ (by simp; omega), List.append_nil]
        simp [i1, f1, f2, em, a2, e]
  have k5 : ((dStrs ((W.map rT).map fun l => D.str (Tx l))).bind fun ys => fJoin " " ys) = some (vSt (Tx (wT W))) := by
    have e : ((W.map rT).map fun l => D.str (Tx l)) = ((W.map rT).map Tx).map D.str := by simp
    rw [e, dStrs_map, Option.bind_some]
    exact fJoin_word h
  simp at k5
  simp [m__law_text, ho, k4, k5]
end DS.K81
namespace DS.K81
open PySem DS

structure Good (W : List (Nat × Nat)) : Prop where
  ne : W ≠ []
  ok : WordOk W
  ap : Apart W
theorem repr_2 {s : DS.S} {x y : D} {W : List (Nat × Nat)} (h : Good W) (hx : IsW x s.cs W) (hy : IsW y s.cs W) : f1 fRepr s [.val (.lst [x, y])] = some (vSt (PyData.shown (.list [wP W, wP W]))) := by
  have c := cost_W h.ok
  refine fRepr_ok (p := .list [wP W, wP W]) ?_ ?_ ?_
  · simp only [denO_ev, dat_val, doR_some, den_lst, denL_cons, denL_nil, hx.den, hy.den, dcons_some]; rfl
  · simp only [told, tolds, Bool.and_true, Bool.and_self]
    exact tolds_map W fun r hr => told_rP (h.ok.1 r hr)
  · simp only [cost, costs] at c ⊢
    omega
theorem repr_1 {s : DS.S} {x : D} {W : List (Nat × Nat)} (h : Good W) (hx : IsW x s.cs W) : f1 fRepr s [.val x] = some (vSt (PyData.shown (wP W))) := by
  have c := cost_W h.ok
  refine fRepr_ok (p := wP W) ?_ (told_W h.ok.1) (by omega)
  rw [denO_ev, dat_val, doR_some, hx.den]
theorem repr_due {s : DS.S} {W : List (Nat × Nat)} (h : Good W) : f1 fRepr s [.val (.lst [.str (Tx (wT W)), .str (Tx (wT W))])] = some (vSt (PyData.shown (.list [.str (Tx (wT W)), .str (Tx (wT W))]))) := by
  have hl := wT_len h.ok
  have hs : ∀ c ∈ wT W, c < 0x110000 := by
    have key : ∀ ps : List (List Nat), (∀ p ∈ ps, ∀ c ∈ p, c < 0x110000) → ∀ c ∈ TL.joinL [32] ps, c < 0x110000 := by
      intro ps
      induction ps with
      | nil => intro _ c hc; simp [TL.joinL] at hc
      | cons p r ih =>
        intro hp c hc
        cases r with
        | nil => exact hp p (by simp) c (by simpa [TL.joinL] using hc)
        | cons q r =>
          simp only [TL.joinL, List.mem_append, List.mem_cons, List.not_mem_nil, or_false] at hc
          rcases hc with hc | hc | hc
          · exact hp p (by simp) c hc
          · omega
          · exact ih (fun y hy => hp y (by simp [hy])) c (by simpa [TL.joinL] using hc)
    refine key _ fun p hp c hc => ?_
    simp only [List.mem_map] at hp
    obtain ⟨r, _, rfl⟩ := hp
    unfold rT at hc
    simp only [List.mem_append] at hc
    rcases hc with hc | hc
    · have := num_dig hc; omega
    · split at hc
      · simp only [List.mem_cons] at hc
        rcases hc with hc | hc
        · omega
        · have := num_dig hc; omega
      · simp at hc
  have t : told (.str (Tx (wT W))) = true := by
    simp only [told]
    rw [← Array.all_toList, List.all_eq_true]
    intro c hc
    simpa using hs c hc
  refine fRepr_ok (p := .list [.str (Tx (wT W)), .str (Tx (wT W))]) (by simp) (by
    simp only [told] at t
    simp only [told, tolds, t, Bool.and_self]) ?_
  simp only [cost, costs, Tx_len]
  omega
theorem ev_word_right (a : Ad) (W : List (Nat × Nat)) (d : D) (cs : List Cont) (hd : IsW d cs W) (h : Good W) : ∃ ex, p__law_word_right a [d] cs = .ok (.val (.bl true)) (cs ++ ex) := by
  have e1 := ev_law_text a W d cs hd h.ok
  have e2 : p_write_word a [d] cs = .ok (.val (.str (Tx (wT W)))) cs := ev_write_word a W d cs hd.ov h.ok
  have e3 : p_write_word_k_word a [d] cs = .ok (.val (.str (Tx (wT W)))) cs := e2
  have e4 : ∀ cs, p_read_word a [.str (Tx (wT W))] cs = .ok (.val (.ref cs.length)) (cs ++ [.lst (W.map rD)]) := fun cs => ev_read_word a W cs h.ne h.ok h.ap
  have e5 : ∀ cs, p_read_word_k_text a [.str (Tx (wT W))] cs = .ok (.val (.ref cs.length)) (cs ++ [.lst (W.map rD)]) := e4
  generalize hR : W.map rD = LW at e4 e5
  let T := LW.reverse ++ [.tup [.int 60, .int 7]]
  refine ⟨[.lst T, .lst LW, .lst LW], ?_⟩
  show finR (m__law_word_right a ⟨cs, [some (.fz d), none, none, none, none]⟩) = _
  have r1 : ∀ sl, f1 fRepr ⟨cs, sl⟩ [.val d] = some (vSt (PyData.shown (wP W))) := fun sl => repr_1 h hd
  have r2 : ∀ s, f1 fRepr s [.val (.lst [.str (Tx (wT W)), .str (Tx (wT W))])] = some (vSt (PyData.shown (.list [.str (Tx (wT W)), .str (Tx (wT W))]))) := fun s => repr_due h
  have at0 : ∀ (x : Cont) (r : List Cont), (cs ++ x :: r)[cs.length]? = some x := fun x r => by simp
  have at1 : ∀ (x y : Cont) (r : List Cont), (cs ++ x :: y :: r)[cs.length + 1]? = some y := fun x y r => by simp
  have at2 : ∀ (x y z : Cont) (r : List Cont), (cs ++ x :: y :: z :: r)[cs.length + 2]? = some z := fun x y z r => by simp
  have q1 : ∀ sl, f1 fRepr ⟨cs ++ [.lst LW, .lst LW], sl⟩ [.val (.lst [.ref cs.length, .ref (cs.length + 1)])] = some (vSt (PyData.shown (.list [wP W, wP W]))) := fun sl => by
    subst hR
    exact repr_2 h (IsW.ref (at0 _ _)) (IsW.ref (at1 _ _ _))
  have q2 : ∀ sl x y, f1 fRepr ⟨cs ++ [x, y], sl⟩ [.val (.lst [d, d])] = some (vSt (PyData.shown (.list [wP W, wP W]))) := fun sl x y => repr_2 h (hd.more _) (hd.more _)
  have q3 : ∀ sl, f1 fRepr ⟨cs ++ [.lst T, .lst LW, .lst LW], sl⟩ [.val (.lst [.ref (cs.length + 1), .ref (cs.length + 2)])] = some (vSt (PyData.shown (.list [wP W, wP W]))) := fun sl => by
    subst hR
    exact repr_2 h (IsW.ref (at1 _ _ _)) (IsW.ref (at2 _ _ _ _))
  have q4 : ∀ sl x y z, f1 fRepr ⟨cs ++ [x, y, z], sl⟩ [.val (.lst [d, d])] = some (vSt (PyData.shown (.list [wP W, wP W]))) := fun sl x y z => repr_2 h (hd.more _) (hd.more _)
  have q5 : ∀ sl x y z, f1 fRepr ⟨cs ++ [x, y, z], sl⟩ [.val d] = some (vSt (PyData.shown (wP W))) := fun sl x y z => repr_1 h (hd.more _)
  have m1 : ∀ sl, mthR gReverse aNil (.val (.ref cs.length)) ⟨cs ++ [.lst LW, .lst LW], sl⟩ = .ok (.opd (.val .non)) ⟨cs ++ [.lst LW.reverse, .lst LW], sl⟩ := fun sl => by
    rw [mthR_ev (xs := LW) (by simp)]
    simp only [ev_aNil, R.bd_ok]
    rw [mthR2_ref (xs := LW) (ys := LW.reverse) (r := vN) (at0 _ _) rfl]
    simp
  have hz : LW.reverse.length < sizeLine := by subst hR; simp only [List.length_reverse, List.length_map]; exact Nat.lt_of_le_of_lt h.ok.2 (by decide)
  have m2 : ∀ sl args, mthR gAppend args (.val (.ref cs.length)) ⟨cs ++ [.lst LW.reverse, .lst LW], sl⟩ = R.bd (args ⟨cs ++ [.lst LW.reverse, .lst LW], sl⟩) (mthR2 gAppend (.val (.ref cs.length))) := fun sl args => mthR_ev (xs := LW.reverse) (by simp)
  have m3 : ∀ sl, mthR2 gAppend (.val (.ref cs.length)) [.tup [.int 60, .int 7]] ⟨cs ++ [.lst LW.reverse, .lst LW], sl⟩ = .ok (.opd (.val .non)) ⟨cs ++ [.lst T, .lst LW], sl⟩ := fun sl => by
    rw [mthR2_ref (xs := LW.reverse) (ys := T) (r := vN) (at0 _ _) (by
      unfold gAppend
      dsimp only
      rw [if_pos hz])]
    simp
  have e6 : p_read_word a [.str (Tx (wT W))] (cs ++ [.lst T, .lst LW]) = .ok (.val (.ref (cs.length + 2))) (cs ++ [.lst T, .lst LW, .lst LW]) := by
    rw [e4]
    simp
  generalize T = T' at *
  simp [m__law_word_right, e1, e2, e3, e4, e5, r1, r2, q1, q2, m1, m2, m3, e6, q3, q4, q5]
end DS.K81
namespace DS.K81
open PySem DS

theorem put_ref {s : DS.S} {n : Nat} {xs : List D} {k : Int} {j : Nat} {d : D} (h : s.cs[n]? = some (.lst xs)) (hj : L2.ixN xs.length k = some j) : mutC (.val (.ref n)) (onL gSetAt [.int k, d]) s = .ok (.opd (.val .non)) { s with cs := s.cs.set n (.lst (xs.set j d)) } :=
  ev_mutRef (r := vN) h (by show (gSetAt xs [.int k, d]).map _ = _; unfold gSetAt; dsimp only; rw [hj]; rfl)
/-! ### the tape -/
structure Tape (cs : List Cont) (n : Nat) (m : Int) : Prop where
  ex : ∃ t0 t1 t2 : Int, cs[n]? = some (.lst [.int t0, .int t1, .int t2]) ∧ 0 ≤ t0 ∧ 0 ≤ t1 ∧ t1 < 10 ^ 41 ∧ 0 ≤ t2 ∧ t2 ≤ m
/-- nothing but the n-th object changes -/
structure Keep (cs cs' : List Cont) (n : Nat) : Prop where
  len : cs'.length = cs.length
  at_ : ∀ k, k ≠ n → cs'[k]? = cs[k]?
theorem Keep.refl {cs : List Cont} {n : Nat} : Keep cs cs n := ⟨rfl, fun _ _ => rfl⟩
theorem Keep.trans {cs cs' cs'' : List Cont} {n : Nat} (h : Keep cs cs' n) (h' : Keep cs' cs'' n) : Keep cs cs'' n := ⟨h'.len.trans h.len, fun k hk => (h'.at_ k hk).trans (h.at_ k hk)⟩
theorem keep_set {cs : List Cont} {n : Nat} {c : Cont} : Keep cs (cs.set n c) n := ⟨by simp, fun k hk => List.getElem?_set_ne (Ne.symm hk)⟩
theorem log_of {i : Int} {k : Nat} (h0 : 0 ≤ i) (h : i < 2 ^ k) (hk : 0 < k) : i.natAbs.log2 < k := by
  obtain ⟨n, rfl⟩ := Int.eq_ofNat_of_zero_le h0
  rw [Int.natAbs_natCast]
  by_cases hn : n = 0
  · subst hn; simpa using hk
  · exact (Nat.log2_lt hn).mpr (by exact_mod_cast h)
theorem pow_ok3 {i : Int} (h0 : 0 ≤ i) (h : i < 2 ^ 200) : PowOk i 3 := by
  have := log_of h0 h (by decide)
  refine ⟨by decide, ?_⟩
  have e : (3 : Int).toNat = 3 := rfl
  rw [e]
  have : (i.natAbs.log2 + 1) * 3 ≤ 201 * 3 := Nat.mul_le_mul_right 3 (by omega)
  exact Nat.le_trans this (by decide)
theorem mul_ok {i j : Int} (h0 : 0 ≤ i) (h : i < 10 ^ 9) : MulOk i j := .inl ⟨by omega, by omega⟩
theorem ev_next (a : Ad) (n : Nat) (size m : Int) (cs : List Cont) (h : Tape cs n m) (hm : m ≤ 10 ^ 9) (h0 : 0 < size) (h1 : size ≤ 10 ^ 18) :
    ∃ r cs', p__law_next a [.ref n, .int size] cs = .ok (.val (.int r)) cs' ∧ 0 ≤ r ∧ r < size ∧ Tape cs' n (m + 1) ∧ Keep cs cs' n := by
  obtain ⟨t0, t1, t2, hn, a0, a1, a2, a3, a4⟩ := h.ex
  have hlt : n < cs.length := (List.getElem?_eq_some_iff.mp hn).1
  have hl2 : size.natAbs.log2 < 9000 := Nat.lt_trans (log_of (k := 60) (by omega) (by omega) (by decide)) (by decide)
  have seq : ∀ sl x y z, cs[n]? = some (.lst [x, y, z]) → vS ⟨cs, sl⟩ (.val (.ref n)) = some [x, y, z] := fun sl x y z e => by simp [e]
  have i0 : ∀ sl, fIx ⟨cs, sl⟩ (.val (.ref n)) (.val (.int 0)) = some (vI t0) := fun sl => fIx_ok (xs := [.int t0, .int t1, .int t2]) (by simp [hn]) (by simp)
  by_cases hp : 0 < t0
  · refine ⟨t0 % size, cs.set n (.lst [.int (t0 / size), .int t1, .int t2]), ?_, Int.emod_nonneg _ (by omega), Int.emod_lt_of_pos _ h0, ⟨t0 / size, t1, t2, by simp [hlt], Int.ediv_nonneg a0 (by omega), a1, a2, a3, by omega⟩, keep_set⟩
    show finR (m__law_next a ⟨cs, [some (.fz (.ref n)), some (.fz (.int size)), none, none]⟩) = _
    have k1 : ∀ s, fMod s (.val (.int t0)) (.val (.int size)) = some (vI (t0 % size)) := fun s => fMod_int h0
    have k2 : ∀ s, fDiv s (.val (.int t0)) (.val (.int size)) = some (vI (t0 / size)) := fun s => fDiv_int h0 hl2
    have k3 : ∀ sl, mutC (.val (.ref n)) (onL gSetAt [.int 0, .int (t0 / size)]) ⟨cs, sl⟩ = .ok (.opd (.val .non)) ⟨cs.set n (.lst [.int (t0 / size), .int t1, .int t2]), sl⟩ := fun sl => put_ref (xs := [.int t0, .int t1, .int t2]) (j := 0) hn rfl
    simp [m__law_next, i0, hp, k1, k2, k3]
  · have i2 : ∀ sl, fIx ⟨cs, sl⟩ (.val (.ref n)) (.val (.int 2)) = some (vI t2) := fun sl => fIx_ok (xs := [.int t0, .int t1, .int t2]) (by simp [hn]) (by simp)
    let cs' := cs.set n (.lst [.int t0, .int t1, .int (t2 + 1)])
    have hn' : cs'[n]? = some (.lst [.int t0, .int t1, .int (t2 + 1)]) := by simp [cs', hlt]
    have j1 : ∀ sl, fIx ⟨cs', sl⟩ (.val (.ref n)) (.val (.int 1)) = some (vI t1) := fun sl => fIx_ok (xs := [.int t0, .int t1, .int (t2 + 1)]) (by simp [hn']) (by simp)
    have j2 : ∀ sl, fIx ⟨cs', sl⟩ (.val (.ref n)) (.val (.int 2)) = some (vI (t2 + 1)) := fun sl => fIx_ok (xs := [.int t0, .int t1, .int (t2 + 1)]) (by simp [hn']) (by simp)
    have k3 : ∀ sl, mutC (.val (.ref n)) (onL gSetAt [.int 2, .int (t2 + 1)]) ⟨cs, sl⟩ = .ok (.opd (.val .non)) ⟨cs', sl⟩ := fun sl => put_ref (xs := [.int t0, .int t1, .int t2]) (j := 2) hn rfl
    have u1 : ∀ s, fMul s (.val (.int 20000003)) (.val (.int (t2 + 1))) = some (vI (20000003 * (t2 + 1))) := fun s => fMul_int (mul_ok (by decide) (by decide))
    have u2 : ∀ s, fMul s (.val (.int 49979687)) (.val (.int (t2 + 1))) = some (vI (49979687 * (t2 + 1))) := fun s => fMul_int (mul_ok (by decide) (by decide))
    have v1 : ∀ s, fPow s (.val (.int (t1 + 20000003 * (t2 + 1)))) (.val (.int 3)) = some (vI ((t1 + 20000003 * (t2 + 1)) ^ 3)) := fun s => fPow_int (pow_ok3 (by omega) (by omega))
    have v2 : ∀ s, fPow s (.val (.int 10)) (.val (.int 40)) = some (vI (10 ^ 40)) := fun s => fPow_int (by decide)
    have v3 : ∀ s, fPow s (.val (.int 10)) (.val (.int 37)) = some (vI (10 ^ 37)) := fun s => fPow_int (by decide)
    generalize hx : (t1 + 20000003 * (t2 + 1)) ^ 3 = x at v1
    have w1 : ∀ s, fMod s (.val (.int x)) (.val (.int (10 ^ 40 + 121))) = some (vI (x % (10 ^ 40 + 121))) := fun s => fMod_int (by decide)
    have b1 : 0 ≤ x % (10 ^ 40 + 121) := Int.emod_nonneg _ (by decide)
    have b2 : x % (10 ^ 40 + 121) < 10 ^ 40 + 121 := Int.emod_lt_of_pos _ (by decide)
    generalize x % (10 ^ 40 + 121) = y at w1 b1 b2
    have v4 : ∀ s, fPow s (.val (.int (y + 49979687 * (t2 + 1)))) (.val (.int 3)) = some (vI ((y + 49979687 * (t2 + 1)) ^ 3)) := fun s => fPow_int (pow_ok3 (by omega) (by omega))
    generalize (y + 49979687 * (t2 + 1)) ^ 3 = z at v4
    have w2 : ∀ s, fMod s (.val (.int z)) (.val (.int (10 ^ 37 + 43))) = some (vI (z % (10 ^ 37 + 43))) := fun s => fMod_int (by decide)
    generalize z % (10 ^ 37 + 43) = u at w2
    have w3 : ∀ s, fDiv s (.val (.int u)) (.val (.int 8191)) = some (vI (u / 8191)) := fun s => fDiv_int (by decide) (by decide)
    have w4 : ∀ s, fMod s (.val (.int (u / 8191))) (.val (.int size)) = some (vI (u / 8191 % size)) := fun s => fMod_int h0
    refine ⟨u / 8191 % size, cs', ?_, Int.emod_nonneg _ (by omega), Int.emod_lt_of_pos _ h0, ⟨t0, t1, t2 + 1, hn', a0, a1, a2, by omega, by omega⟩, keep_set⟩
    show finR (m__law_next a ⟨cs, [some (.fz (.ref n)), some (.fz (.int size)), none, none]⟩) = _
    clear_value cs'
    simp only [Int.reducePow, Int.reduceAdd] at v2 v3 w1 w2
    simp [m__law_next, i0, hp, i2, k3, j1, j2, u1, u2, v1, v2, v3, w1, v4, w2, w3, w4]
end DS.K81
namespace DS.K81
open PySem DS

theorem len_ints {s : DS.S} {ns : List Int} : f1 fLen s [.val (.klst (ns.map D.int))] = some (vI ns.length) := by
  rw [fLen_seq (xs := ns.map D.int) (by simp)]; simp
theorem ev_tape (a : Ad) (ns : List Int) (k : Nat) (cs : List Cont) (hk : k ≤ 3) : ∃ c, p__law_tape a [.klst (ns.map D.int), .int k] cs = .ok (.val (.ref cs.length)) (cs ++ [c]) ∧ Tape (cs ++ [c]) cs.length 0 := by
  have main : ∀ z : Int, 0 ≤ z → (mIf (mCmpB (fCmp pLt) (mVar 1) (fnN (f1 fLen) (o1 (mVar 0)))) (fnN (f1 fAbs) (o1 (mBin fIx (mVar 0) (mVar 1)))) (mC (.int 0))) ⟨cs, [some (.fz (.klst (ns.map D.int))), some (.fz (.int k)), none]⟩ = .ok (.opd (.val (.int z))) ⟨cs, [some (.fz (.klst (ns.map D.int))), some (.fz (.int k)), none]⟩ →
      ∃ c, p__law_tape a [.klst (ns.map D.int), .int k] cs = .ok (.val (.ref cs.length)) (cs ++ [c]) ∧ Tape (cs ++ [c]) cs.length 0 := by
    intro z hz e
    have v1 : ∀ s, fPow s (.val (.int 10)) (.val (.int 18)) = some (vI (10 ^ 18)) := fun s => fPow_int (by decide)
    have v2 : ∀ s, fPow s (.val (.int 10)) (.val (.int 38)) = some (vI (10 ^ 38)) := fun s => fPow_int (by decide)
    have w1 : ∀ s, fMod s (.val (.int z)) (.val (.int (10 ^ 38 + 133))) = some (vI (z % (10 ^ 38 + 133))) := fun s => fMod_int (by decide)
    have b1 : 0 ≤ z % (10 ^ 38 + 133) := Int.emod_nonneg _ (by decide)
    have b2 : z % (10 ^ 38 + 133) < 10 ^ 38 + 133 := Int.emod_lt_of_pos _ (by decide)
    generalize z % (10 ^ 38 + 133) = y at w1 b1 b2
    have u1 : ∀ s, fMul s (.val (.int y)) (.val (.int 83)) = some (vI (y * 83)) := fun s => fMul_int (.inr (.inl ⟨by decide, by decide⟩))
    refine ⟨.lst [.int (if z - 10 ^ 18 > 0 then z - 10 ^ 18 else 0), .int (y * 83 + k), .int 0], ?_, ⟨_, _, _, at_end, ?_, by omega, by omega, by omega, by omega⟩⟩
    · show finR (m__law_tape a ⟨cs, [some (.fz (.klst (ns.map D.int))), some (.fz (.int k)), none]⟩) = _
      unfold m__law_tape
      simp only [Int.reducePow, Int.reduceAdd] at v1 v2 w1
      rw [ev_seq, ev_set, e]
      simp [v1, v2, w1, u1]
    · split <;> omega
  by_cases hkn : k < ns.length
  · have e1 : ∀ s, fIx s (.val (.klst (ns.map D.int))) (.val (.int k)) = some (vI ns[k]) := fun s => fIx_ok (xs := ns.map D.int) (by simp) (by rw [L2.atI]; exact (atI_nat (xs := ns.map D.int) (n := k)).trans (by simp [hkn]))
    have i1 : (k : Int) < (ns.length : Nat) := by omega
    refine main (if ns[k] < 0 then -ns[k] else ns[k]) (by split <;> omega) ?_
    simp [len_ints, i1, e1]
  · have i1 : ¬ (k : Int) < (ns.length : Nat) := by omega
    refine main 0 (by omega) ?_
    simp [len_ints, i1]
def kinds : List Str := ["plain", "next", "single", "block", "later"]
theorem ev_kind (a : Ad) (n : Nat) (m : Int) (cs : List Cont) (h : Tape cs n m) (hm : m ≤ 10 ^ 9) : ∃ kd cs', p__law_kind a [.ref n] cs = .ok (.val (.str kd)) cs' ∧ kd ∈ kinds ∧ Tape cs' n (m + 1) ∧ Keep cs cs' n := by
  obtain ⟨r, cs', e, h0, h1, hT, hK⟩ := ev_next a n 5 m cs h hm (by decide) (by decide)
  have e : p__law_next a [.ref n, .int 5] cs = .ok (.val (.int r)) cs' := e
  have key : ∀ kd, L2.atI ([.str "plain", .str "next", .str "single", .str "block", .str "later"] : List D) r = some (.str kd) → p__law_kind a [.ref n] cs = .ok (.val (.str kd)) cs' := by
    intro kd hk
    show finR (m__law_kind a ⟨cs, [some (.fz (.ref n))]⟩) = _
    have k1 : ∀ s, fIx s (.val (.lst [.str "plain", .str "next", .str "single", .str "block", .str "later"])) (.val (.int r)) = some (vSt kd) := fun s => fIx_ok (by simp) hk
    simp [m__law_kind, e, k1]
  rcases (by omega : r = 0 ∨ r = 1 ∨ r = 2 ∨ r = 3 ∨ r = 4) with rfl | rfl | rfl | rfl | rfl
  · exact ⟨"plain", cs', key _ rfl, by simp [kinds], hT, hK⟩
  · exact ⟨"next", cs', key _ rfl, by simp [kinds], hT, hK⟩
  · exact ⟨"single", cs', key _ rfl, by simp [kinds], hT, hK⟩
  · exact ⟨"block", cs', key _ rfl, by simp [kinds], hT, hK⟩
  · exact ⟨"later", cs', key _ rfl, by simp [kinds], hT, hK⟩
end DS.K81
namespace DS.K81
open PySem DS

theorem rngD_at {lo : Int} {n i : Nat} {d : D} (h : (rngD lo n)[i]? = some d) : i < n ∧ d = .int (lo + i) := by
  simp only [rngD, List.getElem?_map, Option.map_eq_some_iff] at h
  obtain ⟨k, hk, rfl⟩ := h
  obtain ⟨hl, e⟩ := List.getElem?_eq_some_iff.mp hk
  simp only [List.length_range, List.getElem_range] at hl e
  subst e
  exact ⟨hl, rfl⟩
@[simp] theorem rngD_length {lo : Int} {n : Nat} : (rngD lo n).length = n := by simp [rngD]
theorem Tape.more {cs : List Cont} {n : Nat} {m : Int} (h : Tape cs n m) (ex : List Cont) : Tape (cs ++ ex) n m := by
  obtain ⟨t0, t1, t2, e, r⟩ := h.ex
  obtain ⟨hl, _⟩ := List.getElem?_eq_some_iff.mp e
  exact ⟨t0, t1, t2, by rw [List.getElem?_append_left hl]; exact e, r⟩
theorem Tape.lt {cs : List Cont} {n : Nat} {m : Int} (h : Tape cs n m) : n < cs.length := by
  obtain ⟨t0, t1, t2, e, r⟩ := h.ex
  exact (List.getElem?_eq_some_iff.mp e).1
theorem Tape.le {cs : List Cont} {n : Nat} {m m' : Int} (h : Tape cs n m) (l : m ≤ m') : Tape cs n m' := by
  obtain ⟨t0, t1, t2, e, a0, a1, a2, a3, a4⟩ := h.ex
  exact ⟨t0, t1, t2, e, a0, a1, a2, a3, by omega⟩
theorem Tape.of {cs cs' : List Cont} {n : Nat} {m : Int} (h : Tape cs n m) (e : cs'[n]? = cs[n]?) : Tape cs' n m := by
  obtain ⟨t0, t1, t2, e1, r⟩ := h.ex
  exact ⟨t0, t1, t2, e.trans e1, r⟩
theorem apart_snoc {W : List (Nat × Nat)} {r : Nat × Nat} (h : Apart W) (h2 : ∀ q, W.getLast? = some q → q.1 ≠ r.1) : Apart (W ++ [r]) := by
  intro i x y hx hy
  rcases Nat.lt_or_ge (i + 1) W.length with hl | hl
  · rw [List.getElem?_append_left (by omega)] at hx
    rw [List.getElem?_append_left hl] at hy
    exact h i x y hx hy
  · have hi : i + 1 = W.length := by
      have := (List.getElem?_eq_some_iff.mp hy).1
      simp at this; omega
    rw [List.getElem?_append_left (by omega)] at hx
    rw [List.getElem?_append_right (by omega)] at hy
    have : i + 1 - W.length = 0 := by omega
    rw [this] at hy
    simp at hy
    subst hy
    refine h2 x ?_
    rw [List.getLast?_eq_getElem?, ← hx]
    congr 1; omega
/-- the state of the loop that draws the runs -/
structure Drawn (cs0 cs : List Cont) (n : Nat) (m : Int) (W : List (Nat × Nat)) : Prop where
  len : cs.length = cs0.length + 1
  at_ : ∀ k, k < cs0.length → k ≠ n → cs[k]? = cs0[k]?
  tape : Tape cs n m
  fnd : cs[cs0.length]? = some (.lst (W.map rD))
theorem Drawn.step {cs0 cs cs' : List Cont} {n : Nat} {m m' : Int} {W : List (Nat × Nat)} (h : Drawn cs0 cs n m W) (hn : n < cs0.length) (t : Tape cs' n m') (k : Keep cs cs' n) : Drawn cs0 cs' n m' W :=
  ⟨k.len.trans h.len, fun j hj hne => (k.at_ j hne).trans (h.at_ j hj hne), t, (k.at_ _ (Nat.ne_of_gt hn)).trans h.fnd⟩
noncomputable abbrev runsBody (a : Ad) : MS := (sSeq (sSet 5 (mBin fAdd (mC (.int 1)) (mCall (p__law_next a) (aCons (mVar 0) (aCons (mVar 4) aNil)))))
    (sSeq (sIf (mAndB (mCmpB fNe (mVar 3) (mLst aNil)) (mCmpB fEq (mBin fIx (mBin fIx (mVar 3) (mNeg (mC (.int 1)))) (mC (.int 0))) (mVar 5)))
    (sSet 5 (mBin fAdd (mBin fMod (mVar 5) (mVar 4)) (mC (.int 1))))
    sNext)
    (sSeq (sSet 6 (mBin fIx (mLst (aCons (mC (.int 1)) (aCons (mBin fAdd (mC (.int 1)) (mCall (p__law_next a) (aCons (mVar 0) (aCons (mC (.int 3)) aNil)))) (aCons (mBin fAdd (mC (.int 1)) (mCall (p__law_next a) (aCons (mVar 0) (aCons (mBin fPow (mC (.int 10)) (mC (.int 18))) aNil)))) (aCons (mBin fSub (mBin fMul (mBin fPow (mC (.int 10)) (mC (.int 30))) (mBin fPow (mC (.int 10)) (mC (.int 30)))) (mC (.int 1))) aNil))))) (mCall (p__law_next a) (aCons (mVar 0) (aCons (mC (.int 4)) aNil)))))
    (sDrop (mMeth gAppend (mVar 3) (aCons (mTup (aCons (mVar 5) (aCons (mVar 6) aNil))) aNil))))))
theorem runs_turn (a : Ad) (cs0 cs : List Cont) (n : Nat) (m : Int) (W : List (Nat × Nat)) (top : Int) (x1 x2 x5 x6 : Option SV) (h : Drawn cs0 cs n m W) (hm : m ≤ 10 ^ 8) (hn : n < cs0.length) (ht : 2 ≤ top) (ht2 : top ≤ 60) (hW : ∀ r ∈ W, RunOk r) (hA : Apart W) (hl : W.length ≤ 199) :
    ∃ cs' r, RunOk r ∧ Apart (W ++ [r]) ∧ Drawn cs0 cs' n (m + 4) (W ++ [r]) ∧ ∃ y5 y6, runsBody a ⟨cs, [some (.fz (.ref n)), x1, x2, some (.fz (.ref cs0.length)), some (.fz (.int top)), x5, x6]⟩ = .next ⟨cs', [some (.fz (.ref n)), x1, x2, some (.fz (.ref cs0.length)), some (.fz (.int top)), y5, y6]⟩ := by
  obtain ⟨r1, c1, e1, p0, p1, T1, K1⟩ := ev_next a n top m cs h.tape (by omega) (by omega) (by omega)
  have D1 := h.step hn T1 K1
  obtain ⟨r2, c2, e2, q0, q1, T2, K2⟩ := ev_next a n 3 (m + 1) c1 T1 (by omega) (by decide) (by decide)
  have D2 := D1.step hn T2 K2
  obtain ⟨r3, c3, e3, s0, s1, T3, K3⟩ := ev_next a n (10 ^ 18) (m + 1 + 1) c2 T2 (by omega) (by decide) (by decide)
  have D3 := D2.step hn T3 K3
  obtain ⟨r4, c4, e4, u0, u1, T4, K4⟩ := ev_next a n 4 (m + 1 + 1 + 1) c3 T3 (by omega) (by decide) (by decide)
  have D4 := D3.step hn T4 K4
  have v1 : ∀ s, fPow s (.val (.int 10)) (.val (.int 18)) = some (vI (10 ^ 18)) := fun s => fPow_int (by decide)
  have v2 : ∀ s, fPow s (.val (.int 10)) (.val (.int 30)) = some (vI (10 ^ 30)) := fun s => fPow_int (by decide)
  have v3 : ∀ s, fMul s (.val (.int (10 ^ 30))) (.val (.int (10 ^ 30))) = some (vI (10 ^ 30 * 10 ^ 30)) := fun s => fMul_int (.inr (.inr (by decide)))
  have w1 : ∀ s, fMod s (.val (.int (1 + r1))) (.val (.int top)) = some (vI ((1 + r1) % top)) := fun s => fMod_int (by omega)
  -- the count
  obtain ⟨cnt, hc1, hc2, hc3⟩ : ∃ cnt : Nat, 1 ≤ cnt ∧ cnt < 10 ^ 60 ∧ L2.atI ([.int 1, .int (1 + r2), .int (1 + r3), .int (10 ^ 30 * 10 ^ 30 - 1)] : List D) r4 = some (.int cnt) := by
    rcases (by omega : r4 = 0 ∨ r4 = 1 ∨ r4 = 2 ∨ r4 = 3) with rfl | rfl | rfl | rfl
    · exact ⟨1, by decide, by decide, rfl⟩
    · exact ⟨(1 + r2).toNat, by omega, by omega, by rw [Int.toNat_of_nonneg (by omega)]; rfl⟩
    · exact ⟨(1 + r3).toNat, by omega, by omega, by rw [Int.toNat_of_nonneg (by omega)]; rfl⟩
    · exact ⟨10 ^ 60 - 1, by decide, by decide, rfl⟩
  have kc : ∀ s, fIx s (.val (.lst [.int 1, .int (1 + r2), .int (1 + r3), .int (10 ^ 30 * 10 ^ 30 - 1)])) (.val (.int r4)) = some (vI cnt) := fun s => fIx_ok (by simp) hc3
  have k1 : ∀ sl, fNe ⟨c1, sl⟩ (.val (.ref cs0.length)) (.val (.lst [])) = some (vB (!W.isEmpty)) := fun sl => ne_nil D1.fnd hW
  -- the sign
  have tail : ∀ sg : Nat, 1 ≤ sg → sg ≤ 60 → (∀ q, W.getLast? = some q → q.1 ≠ sg) → (∀ (x5 x6 : Option SV), (sSeq (sIf (mAndB (mCmpB fNe (mVar 3) (mLst aNil)) (mCmpB fEq (mBin fIx (mBin fIx (mVar 3) (mNeg (mC (.int 1)))) (mC (.int 0))) (mVar 5)))
    (sSet 5 (mBin fAdd (mBin fMod (mVar 5) (mVar 4)) (mC (.int 1))))
    sNext) sNext) ⟨c1, [some (.fz (.ref n)), x1, x2, some (.fz (.ref cs0.length)), some (.fz (.int top)), some (.fz (.int (1 + r1))), x6]⟩ = .next ⟨c1, [some (.fz (.ref n)), x1, x2, some (.fz (.ref cs0.length)), some (.fz (.int top)), some (.fz (.int sg)), x6]⟩) →
      ∃ cs' r, RunOk r ∧ Apart (W ++ [r]) ∧ Drawn cs0 cs' n (m + 4) (W ++ [r]) ∧ ∃ y5 y6, runsBody a ⟨cs, [some (.fz (.ref n)), x1, x2, some (.fz (.ref cs0.length)), some (.fz (.int top)), x5, x6]⟩ = .next ⟨cs', [some (.fz (.ref n)), x1, x2, some (.fz (.ref cs0.length)), some (.fz (.int top)), y5, y6]⟩ := by
    intro sg g1 g2 g3 g4
    have hlt : cs0.length < c4.length := by rw [D4.len]; omega
    refine ⟨c4.set cs0.length (.lst ((W ++ [(sg, cnt)]).map rD)), (sg, cnt), ⟨g1, g2, hc1, hc2⟩, apart_snoc hA g3, ⟨by rw [List.length_set]; exact D4.len, fun k hk hne => ?_, ?_, by simp [hlt]⟩, some (.fz (.int sg)), some (.fz (.int cnt)), ?_⟩
    · rw [List.getElem?_set_ne (by omega)]; exact D4.at_ k hk hne
    · refine (T4.le (by omega)).of ?_
      rw [List.getElem?_set_ne (by omega)]
    · have z : (W.map rD).length < sizeLine := by rw [List.length_map]; exact Nat.lt_of_le_of_lt hl (by decide)
      have m2 : ∀ sl args, mthR gAppend args (.val (.ref cs0.length)) ⟨c4, sl⟩ = R.bd (args ⟨c4, sl⟩) (mthR2 gAppend (.val (.ref cs0.length))) := fun sl args => mthR_ev (xs := W.map rD) (by simp [D4.fnd])
      have m3 : ∀ sl, mthR2 gAppend (.val (.ref cs0.length)) [.tup [.int sg, .int cnt]] ⟨c4, sl⟩ = .ok (.opd (.val .non)) ⟨c4.set cs0.length (.lst ((W ++ [(sg, cnt)]).map rD)), sl⟩ := fun sl => by
        rw [mthR2_ref (xs := W.map rD) (ys := (W ++ [(sg, cnt)]).map rD) (r := vN) D4.fnd (by
          unfold gAppend
          dsimp only
          rw [if_pos z]
          simp [rD])]
        rfl
      have g4 := g4 x5 x6
      rw [ev_seq] at g4
      simp only [Int.reducePow, Int.reduceMul, Int.reduceSub] at v1 v2 v3 e3 kc
      generalize (W ++ [(sg, cnt)]).map rD = LW at m3 ⊢
      cases hsif : (sIf (mAndB (mCmpB fNe (mVar 3) (mLst aNil)) (mCmpB fEq (mBin fIx (mBin fIx (mVar 3) (mNeg (mC (.int 1)))) (mC (.int 0))) (mVar 5)))
    (sSet 5 (mBin fAdd (mBin fMod (mVar 5) (mVar 4)) (mC (.int 1))))
    sNext) ⟨c1, [some (.fz (.ref n)), x1, x2, some (.fz (.ref cs0.length)), some (.fz (.int top)), some (.fz (.int (1 + r1))), x6]⟩ with
      | next s' =>
        rw [hsif] at g4
        simp only [RS.bd_next, DS.ev_next, RS.next.injEq] at g4
        subst g4
        unfold runsBody
        rw [ev_seq]
        have first : sSet 5 (mBin fAdd (mC (.int 1)) (mCall (p__law_next a) (aCons (mVar 0) (aCons (mVar 4) aNil)))) ⟨cs, [some (.fz (.ref n)), x1, x2, some (.fz (.ref cs0.length)), some (.fz (.int top)), x5, x6]⟩ = .next ⟨c1, [some (.fz (.ref n)), x1, x2, some (.fz (.ref cs0.length)), some (.fz (.int top)), some (.fz (.int (1 + r1))), x6]⟩ := by
          simp [e1]
        rw [first, RS.bd_next, ev_seq, hsif, RS.bd_next]
        simp [e2, e3, e4, v1, v2, v3, kc, m2, m3]
      | _ => rw [hsif] at g4; simp at g4
  rcases List.eq_nil_or_concat W with hW0 | ⟨P, q, hWq⟩
  · subst hW0
    refine tail (1 + r1).toNat (by omega) (by omega) (by simp) fun x5 x6 => ?_
    have i1 : (((1 + r1).toNat : Nat) : Int) = 1 + r1 := Int.toNat_of_nonneg (by omega)
    simp [k1, i1]
  · rw [List.concat_eq_append] at hWq
    have kl : ∀ sl, fIx ⟨c1, sl⟩ (.val (.ref cs0.length)) (.val (.int (-1))) = some (.opd (.val (rD q))) := fun sl => ix_last (P := P) (by rw [← hWq]; exact D1.fnd)
    have k8 : ∀ s, fIx s (.val (rD q)) (.val (.int 0)) = some (vI q.1) := fun s => ix_sign
    have hq : RunOk q := hW q (by rw [hWq]; simp)
    have hne : W.isEmpty = false := by rw [hWq]; simp
    have last : ∀ y, W.getLast? = some y → y = q := fun y hy => by rw [hWq] at hy; simpa using hy.symm
    by_cases he : (q.1 : Int) = 1 + r1
    · have b0 : 0 ≤ (1 + r1) % top := Int.emod_nonneg _ (by omega)
      have b1 : (1 + r1) % top < top := Int.emod_lt_of_pos _ (by omega)
      have b2 : (1 + r1) % top + 1 ≠ 1 + r1 := by
        by_cases hr : 1 + r1 = top
        · rw [hr, Int.emod_self]; omega
        · rw [Int.emod_eq_of_lt (by omega) (by omega)]; omega
      refine tail ((1 + r1) % top + 1).toNat (by omega) (by omega) (fun y hy => ?_) fun x5 x6 => ?_
      · rw [last y hy]; omega
      · have i1 : ((((1 + r1) % top + 1).toNat : Nat) : Int) = (1 + r1) % top + 1 := Int.toNat_of_nonneg (by omega)
        simp [k1, hne, kl, k8, he, w1, i1]
    · refine tail (1 + r1).toNat (by omega) (by omega) (fun y hy => ?_) fun x5 x6 => ?_
      · rw [last y hy]; omega
      · have i1 : (((1 + r1).toNat : Nat) : Int) = 1 + r1 := Int.toNat_of_nonneg (by omega)
        simp [k1, hne, kl, k8, he, i1]
end DS.K81
namespace DS.K81
open PySem DS

theorem ev_runs (a : Ad) (n many : Nat) (m : Int) (cs : List Cont) (h : Tape cs n m) (h0 : 0 ≤ m) (hm : m ≤ 10 ^ 7) (h1 : 1 ≤ many) (h2 : many ≤ 200) :
    ∃ cs' W, p__law_runs a [.ref n, .int many] cs = .ok (.val (.ref cs.length)) cs' ∧ Good W ∧ Drawn cs cs' n (m + 1000) W ∧ W.length = many := by
  have hn := h.lt
  obtain ⟨r0, c0, e0, p0, p1, T0, K0⟩ := ev_next a n 3 m (cs ++ [.lst []]) (h.more _) (by omega) (by decide) (by decide)
  have e0 : p__law_next a [.ref n, .int 3] (cs ++ [.lst []]) = .ok (.val (.int r0)) c0 := e0
  obtain ⟨top, ht1, ht2, kt⟩ : ∃ top : Int, 2 ≤ top ∧ top ≤ 60 ∧ ∀ s, fIx s (.val (.lst [.int 2, .int 10, .int 60])) (.val (.int r0)) = some (vI top) := by
    rcases (by omega : r0 = 0 ∨ r0 = 1 ∨ r0 = 2) with rfl | rfl | rfl
    · exact ⟨2, by decide, by decide, fun s => fIx_ok (xs := [.int 2, .int 10, .int 60]) (by simp) rfl⟩
    · exact ⟨10, by decide, by decide, fun s => fIx_ok (xs := [.int 2, .int 10, .int 60]) (by simp) rfl⟩
    · exact ⟨60, by decide, by decide, fun s => fIx_ok (xs := [.int 2, .int 10, .int 60]) (by simp) rfl⟩
  have D0 : Drawn cs c0 n (m + 1) [] := ⟨by rw [K0.len]; simp, fun k hk hne => by rw [K0.at_ k hne, List.getElem?_append_left hk], T0, by rw [K0.at_ _ (by omega)]; simp⟩
  have step : ∀ (i : Nat) (d : D) (s : DS.S), (rngD 0 many)[i]? = some d → (∃ cs' W x2 x5 x6, s = (⟨cs', [some (.fz (.ref n)), some (.fz (.int many)), x2, some (.fz (.ref cs.length)), some (.fz (.int top)), x5, x6]⟩ : DS.S) ∧ Drawn cs cs' n (m + 1 + 4 * i) W ∧ W.length = i ∧ (∀ r ∈ W, RunOk r) ∧ Apart W) →
      ∃ s1, gSet 2 d s = some s1 ∧ ∃ s2, (runsBody a s1 = .next s2 ∨ runsBody a s1 = .cont s2) ∧ ∃ cs' W x2 x5 x6, s2 = (⟨cs', [some (.fz (.ref n)), some (.fz (.int many)), x2, some (.fz (.ref cs.length)), some (.fz (.int top)), x5, x6]⟩ : DS.S) ∧ Drawn cs cs' n (m + 1 + 4 * (i + 1 : Nat)) W ∧ W.length = i + 1 ∧ (∀ r ∈ W, RunOk r) ∧ Apart W := by
    rintro i d s hd ⟨cs', W, x2, x5, x6, rfl, hD, hl, hW, hA⟩
    obtain ⟨hi, rfl⟩ := rngD_at hd
    obtain ⟨cs2, r, hr, hA2, hD2, y5, y6, e⟩ := runs_turn a cs cs' n (m + 1 + 4 * i) W top (some (.fz (.int many))) (some (.fz (.int (0 + i)))) x5 x6 hD (by omega) hn ht1 ht2 hW hA (by omega)
    refine ⟨_, rfl, _, .inl e, cs2, W ++ [r], _, y5, y6, rfl, ?_, by simp [hl], ?_, hA2⟩
    · have e4 : m + 1 + 4 * (i : Int) + 4 = m + 1 + 4 * ((i + 1 : Nat) : Int) := by push_cast; omega
      rw [← e4]; exact hD2
    · intro q hq
      rcases List.mem_append.mp hq with hq | hq
      · exact hW q hq
      · simp at hq; subst hq; exact hr
  obtain ⟨s', e1, cs', W, x2, x5, x6, e2, hD, hl, hW, hA⟩ := sFor_inv (chk := fun _ => True) (fun i s => ∃ cs' W x2 x5 x6, s = (⟨cs', [some (.fz (.ref n)), some (.fz (.int many)), x2, some (.fz (.ref cs.length)), some (.fz (.int top)), x5, x6]⟩ : DS.S) ∧ Drawn cs cs' n (m + 1 + 4 * i) W ∧ W.length = i ∧ (∀ r ∈ W, RunOk r) ∧ Apart W) (fun _ _ _ _ => trivial) step
    (s := ⟨c0, [some (.fz (.ref n)), some (.fz (.int many)), none, some (.fz (.ref cs.length)), some (.fz (.int top)), none, none]⟩) ⟨c0, [], none, none, none, rfl, by simpa using D0, rfl, by simp, by intro i x y hx; simp at hx⟩
  subst e2
  rw [rngD_length] at hD hl
  refine ⟨cs', W, ?_, ⟨by intro z; rw [z] at hl; simp at hl; omega, ⟨hW, by omega⟩, hA⟩, ⟨hD.len, hD.at_, hD.tape.le (by omega), hD.fnd⟩, hl⟩
  show finR (m__law_runs a ⟨cs, [some (.fz (.ref n)), some (.fz (.int many)), none, none, none, none, none]⟩) = _
  have rg : ∀ s, rg1 [.int many] s = .ok ⟨rngD 0 many, fun _ => True⟩ s := fun s => rg1_ok (by omega) (by omega)
  have e1' : sFor (fun _ => True) (gSet 2) (sSeq (sSet 5 (mBin fAdd (mC (.int 1)) (mCall (p__law_next a) (aCons (mVar 0) (aCons (mVar 4) aNil)))))
    (sSeq (sIf (mAndB (mCmpB fNe (mVar 3) (mLst aNil)) (mCmpB fEq (mBin fIx (mBin fIx (mVar 3) (mNeg (mC (.int 1)))) (mC (.int 0))) (mVar 5)))
    (sSet 5 (mBin fAdd (mBin fMod (mVar 5) (mVar 4)) (mC (.int 1))))
    sNext)
    (sSeq (sSet 6 (mBin fIx (mLst (aCons (mC (.int 1)) (aCons (mBin fAdd (mC (.int 1)) (mCall (p__law_next a) (aCons (mVar 0) (aCons (mC (.int 3)) aNil)))) (aCons (mBin fAdd (mC (.int 1)) (mCall (p__law_next a) (aCons (mVar 0) (aCons (mBin fPow (mC (.int 10)) (mC (.int 18))) aNil)))) (aCons (mBin fSub (mBin fMul (mBin fPow (mC (.int 10)) (mC (.int 30))) (mBin fPow (mC (.int 10)) (mC (.int 30)))) (mC (.int 1))) aNil))))) (mCall (p__law_next a) (aCons (mVar 0) (aCons (mC (.int 4)) aNil)))))
    (sDrop (mMeth gAppend (mVar 3) (aCons (mTup (aCons (mVar 5) (aCons (mVar 6) aNil))) aNil)))))) (rngD 0 many) ⟨c0, [some (.fz (.ref n)), some (.fz (.int many)), none, some (.fz (.ref cs.length)), some (.fz (.int top)), none, none]⟩ = .next ⟨cs', [some (.fz (.ref n)), some (.fz (.int many)), x2, some (.fz (.ref cs.length)), some (.fz (.int top)), x5, x6]⟩ := e1
  have q1 : sPar 3 4 (aCons (mShare (mLst aNil)) (aCons (mBin fIx (mLst (aCons (mC (.int 2)) (aCons (mC (.int 10)) (aCons (mC (.int 60)) aNil)))) (mCall (p__law_next a) (aCons (mVar 0) (aCons (mC (.int 3)) aNil)))) aNil)) ⟨cs, [some (.fz (.ref n)), some (.fz (.int many)), none, none, none, none, none]⟩ =
      .next ⟨c0, [some (.fz (.ref n)), some (.fz (.int many)), none, some (.fz (.ref cs.length)), some (.fz (.int top)), none, none]⟩ := by
    simp [e0, kt]
  have q2 : (mRange1 (aCons (mVar 1) aNil)) ⟨c0, [some (.fz (.ref n)), some (.fz (.int many)), none, some (.fz (.ref cs.length)), some (.fz (.int top)), none, none]⟩ = .ok ⟨rngD 0 many, fun _ => True⟩ ⟨c0, [some (.fz (.ref n)), some (.fz (.int many)), none, some (.fz (.ref cs.length)), some (.fz (.int top)), none, none]⟩ := by
    have q3 : (aCons (mVar 1) aNil) ⟨c0, [some (.fz (.ref n)), some (.fz (.int many)), none, some (.fz (.ref cs.length)), some (.fz (.int top)), none, none]⟩ = .ok [.int many] ⟨c0, [some (.fz (.ref n)), some (.fz (.int many)), none, some (.fz (.ref cs.length)), some (.fz (.int top)), none, none]⟩ := by simp
    rw [ev_range1, q3, R.bd_ok, rg]
  unfold m__law_runs
  rw [ev_seq, q1, RS.bd_next, ev_seq, ev_forM, q2, R.ts_ok, forS_ev, e1']
  simp
end DS.K81
namespace DS.K81
open PySem DS

structure Scale (vs : List Int) : Prop where
  ne : vs ≠ []
  len : vs.length ≤ 6
  rng : ∀ v ∈ vs, 1 ≤ v ∧ v ≤ 60
  inc : vs.Pairwise (· < ·)
theorem Scale.take {vs : List Int} (h : Scale vs) {k : Nat} (hk : 1 ≤ k) : Scale (vs.take k) := by
  refine ⟨?_, ?_, fun v hv => h.rng v (List.mem_of_mem_take hv), h.inc.sublist (List.take_sublist _ _)⟩
  · intro z
    have h3 := congrArg List.length z
    have h2 : 0 < vs.length := List.length_pos_iff.mpr h.ne
    rw [List.length_take, List.length_nil] at h3
    omega
  · have := h.len; rw [List.length_take]; omega
theorem cut_take {xs : List D} {i : Int} (h0 : 0 ≤ i) (h1 : i ≤ xs.length) : cutD xs none (some i) = xs.take i.toNat := by
  have e1 : HT.sIx xs.length 0 none = 0 := rfl
  have e2 : HT.sIx xs.length xs.length (some i) = i.toNat := by
    show (if i < 0 then (i + (xs.length : Int)).toNat else min i.toNat xs.length) = _
    rw [if_neg (by omega)]; omega
  unfold cutD
  rw [e1, e2, List.drop_zero, Nat.sub_zero]
/-- what is still there and what was taken -/
structure Left (N : Nat) (L P : List Int) (i : Nat) : Prop where
  len : L.length + i = N
  got : P.length = i
  nd : (P ++ L).Nodup
  rng : ∀ v ∈ P ++ L, 1 ≤ v ∧ v ≤ 60
theorem Left.pop {N i k : Nat} {L P : List Int} {v : Int} (h : Left N L P i) (hv : L[k]? = some v) : Left N (L.eraseIdx k) (P ++ [v]) (i + 1) := by
  obtain ⟨hk, e⟩ := List.getElem?_eq_some_iff.mp hv
  have hp : L.Perm (v :: L.eraseIdx k) := by
    have e2 : L = L.take k ++ L[k] :: L.drop (k + 1) := by rw [← List.drop_eq_getElem_cons hk, List.take_append_drop]
    have e3 : L.eraseIdx k = L.take k ++ L.drop (k + 1) := List.eraseIdx_eq_take_drop_succ L k
    rw [e3, ← e]
    have e4 := List.perm_middle (a := L[k]) (l₁ := L.take k) (l₂ := L.drop (k + 1))
    rw [← e2] at e4
    exact e4
  have hp2 : (P ++ L).Perm (P ++ [v] ++ L.eraseIdx k) := by
    rw [List.append_assoc]; exact hp.append_left P
  refine ⟨?_, by simp [h.got], hp2.nodup_iff.mp h.nd, fun x hx => h.rng x (hp2.mem_iff.mpr hx)⟩
  rw [List.length_eraseIdx_of_lt hk]
  have := h.len; omega
theorem Left.scale {N i : Nat} {L P : List Int} (h : Left N L P i) (h1 : 1 ≤ i) (h6 : i ≤ 6) : Scale (P.mergeSort (· ≤ ·)) := by
  have hp : (P.mergeSort (· ≤ ·)).Perm P := List.mergeSort_perm P _
  have nd : P.Nodup := (List.nodup_append.mp h.nd).1
  have nd2 := hp.nodup_iff.mpr nd
  have srt : (P.mergeSort (fun a b => decide (a ≤ b))).Pairwise (fun a b => (decide (a ≤ b)) = true) := List.pairwise_mergeSort (by intro a b c h1 h2; simp at *; omega) (by intro a b; simp; omega) P
  refine ⟨?_, by rw [hp.length_eq, h.got]; exact h6, fun v hv => h.rng v (by simp [hp.mem_iff.mp hv]), ?_⟩
  · intro z
    have := congrArg List.length z
    rw [hp.length_eq, h.got] at this
    simp at this; omega
  · have := srt.and nd2
    refine this.imp fun hab => ?_
    have h1 := hab.1; have h2 := hab.2
    simp only [decide_eq_true_eq] at h1
    omega
theorem gPop_ok {L : List Int} {r : Int} (h0 : 0 ≤ r) (h1 : r < L.length) (h2 : L.length ≤ 1000) : ∃ v, L[r.toNat]? = some v ∧ gPopAt (L.map D.int) [.int r] = some ((L.eraseIdx r.toNat).map D.int, vI v) := by
  have hl : r.toNat < L.length := by omega
  refine ⟨L[r.toNat], by simp [hl], ?_⟩
  unfold gPopAt
  dsimp only
  rw [if_pos ⟨by omega, by omega⟩, List.length_map, seqIndex_of h0 (by exact_mod_cast h1)]
  have e3 : ∀ (L : List Int) (k : Nat), (L.map D.int).eraseIdx k = (L.eraseIdx k).map D.int := fun L k => by
    rw [List.eraseIdx_eq_take_drop_succ, List.eraseIdx_eq_take_drop_succ, List.map_append, List.map_take, List.map_drop]
  simp only [Option.bind_some, e3]
  simp [hl]
theorem pop_turn (a : Ad) (n N i : Nat) (m : Int) (cs : List Cont) (L P : List Int) (x2 x3 x4 x6 : Option SV) (h : Tape cs n m) (hm : m ≤ 10 ^ 8) (hL : Left N L P i) (hN : i < N) (hN2 : N ≤ 60) :
    ∃ cs' v, (fc (mMeth gPopAt (mVar 5) (aCons (mCall (p__law_next a) (aCons (mVar 0) (aCons (fnN (f1 fLen) (o1 (mVar 5))) aNil))) aNil))) ⟨cs, [some (.fz (.ref n)), some (.fz (.int 6)), x2, x3, x4, some (.own (.lst (L.map D.int))), x6]⟩ =
      .ok (.int v) ⟨cs', [some (.fz (.ref n)), some (.fz (.int 6)), x2, x3, x4, some (.own (.lst ((L.eraseIdx (L.idxOf v)).map D.int))), x6]⟩ ∧ Tape cs' n (m + 1) ∧ Keep cs cs' n ∧ Left N (L.eraseIdx (L.idxOf v)) (P ++ [v]) (i + 1) := by
  have hlen := hL.len
  obtain ⟨r, cs', e, h0, h1, T, K⟩ := ev_next a n L.length m cs h (by omega) (by omega) (by omega)
  obtain ⟨v, hv, hg⟩ := gPop_ok h0 h1 (by omega)
  have hix : L.idxOf v = r.toNat := by
    obtain ⟨hk, e⟩ := List.getElem?_eq_some_iff.mp hv
    rw [← e]
    exact (List.nodup_append.mp hL.nd).2.1.idxOf_getElem _ hk
  refine ⟨cs', v, ?_, T, K, ?_⟩
  · rw [hix]
    have k1 : ∀ x6, f1 fLen ⟨cs, [some (.fz (.ref n)), some (.fz (.int 6)), x2, x3, x4, some (.own (.lst (L.map D.int))), x6]⟩ [.bor 5] = some (vI L.length) := fun x6 => by
      rw [fLen_seq (xs := L.map D.int) (by simp)]; simp
    have k2 : ∀ args, mthR gPopAt args (.bor 5) ⟨cs, [some (.fz (.ref n)), some (.fz (.int 6)), x2, x3, x4, some (.own (.lst (L.map D.int))), x6]⟩ = R.bd (args ⟨cs, [some (.fz (.ref n)), some (.fz (.int 6)), x2, x3, x4, some (.own (.lst (L.map D.int))), x6]⟩) (mthR2 gPopAt (.bor 5)) := fun args => mthR_ev (xs := L.map D.int) (by simp)
    have k3 : mthR2 gPopAt (.bor 5) [.int r] ⟨cs', [some (.fz (.ref n)), some (.fz (.int 6)), x2, x3, x4, some (.own (.lst (L.map D.int))), x6]⟩ = .ok (.opd (.val (.int v))) ⟨cs', [some (.fz (.ref n)), some (.fz (.int 6)), x2, x3, x4, some (.own (.lst ((L.eraseIdx r.toNat).map D.int))), x6]⟩ := by
      rw [mthR2_own (xs := L.map D.int) rfl hg]
      simp
    generalize (L.eraseIdx r.toNat).map D.int = out at k3 ⊢
    generalize L.map D.int = inn at k1 k2 k3 ⊢
    simp [k1, k2, e, k3]
  · rw [hix]; exact hL.pop hv
theorem idx_map (N : Nat) (top : Int) (h : top = N + 1) : rangeD 1 top = ((List.range N).map fun i : Nat => 1 + (i : Int)).map D.int := by
  unfold rangeD
  rw [List.map_map, h, show ((N : Int) + 1 - 1).toNat = N by omega]
  rfl
theorem left0 (N : Nat) (h : N ≤ 60) : Left N ((List.range N).map fun i : Nat => 1 + (i : Int)) [] 0 := by
  refine ⟨by simp, rfl, ?_, ?_⟩
  · rw [List.nil_append, List.nodup_iff_pairwise_ne, List.pairwise_map]
    refine List.Pairwise.imp ?_ List.pairwise_lt_range
    intro a b h; omega
  · intro v hv
    rw [List.nil_append, List.mem_map] at hv
    obtain ⟨i, hi, rfl⟩ := hv
    rw [List.mem_range] at hi
    omega
noncomputable def scaleE (a : Ad) : M RV := mMeth gPopAt (mVar 5) (aCons (mCall (p__law_next a) (aCons (mVar 0) (aCons (fnN (f1 fLen) (o1 (mVar 5))) aNil))) aNil)
theorem ev_picks (a : Ad) (n N : Nat) (m r1 : Int) (cs : List Cont) (L : List Int) (x2 x3 x4 : Option SV) (h : Tape cs n m) (h0 : 0 ≤ m) (hm : m ≤ 10 ^ 7 + 5) (hL : Left N L [] 0) (hN : 6 ≤ N) (hN2 : N ≤ 60) (p0 : 0 ≤ r1) (p1 : r1 < 6) :
    ∃ cs' L' P, lcRun (gSet 6) mYes (fc (scaleE a)) [6] ⟨rngD 0 (1 + r1).toNat, fun _ => True⟩ ⟨cs, [some (.fz (.ref n)), some (.fz (.int 6)), x2, x3, x4, some (.own (.lst (L.map D.int))), none]⟩ =
      .ok (.own (.lst (P.map D.int))) ⟨cs', [some (.fz (.ref n)), some (.fz (.int 6)), x2, x3, x4, some (.own (.lst (L'.map D.int))), none]⟩ ∧ Left N L' P (1 + r1).toNat ∧ Tape cs' n (m + 10) ∧ Keep cs cs' n := by
  obtain ⟨ys, s', e, cs', L', P, e2, e3, hL', hT, hK⟩ := lcGo_inv (chk := fun _ => True) (g := gSet 6) (t := mYes) (e := fc (scaleE a)) (vs := [6]) (xs := rngD 0 (1 + r1).toNat)
    (fun i acc s => ∃ cs' L' P, s = (⟨cs', [some (.fz (.ref n)), some (.fz (.int 6)), x2, x3, x4, some (.own (.lst (L'.map D.int))), none]⟩ : DS.S) ∧ acc = P.map D.int ∧ Left N L' P i ∧ Tape cs' n (m + i) ∧ Keep cs cs' n)
    (fun _ _ _ _ _ => trivial) (fun i d acc s hd ⟨cs', L', P, e2, e3, hL', hT, hK⟩ => by
      obtain ⟨hi, rfl⟩ := rngD_at hd
      subst e2 e3
      obtain ⟨c4, v, e4, T4, K4, L4⟩ := pop_turn a n N i (m + i) cs' L' P x2 x3 x4 (some (.fz (.int (0 + i)))) hT (by omega) hL' (by omega) hN2
      refine ⟨_, rfl, .inl ⟨_, .int v, _, rfl, e4, c4, _, P ++ [v], rfl, by simp, L4, ?_, hK.trans K4⟩⟩
      have e5 : m + (i : Int) + 1 = m + ((i + 1 : Nat) : Int) := by push_cast; omega
      rw [← e5]; exact T4)
    (s := ⟨cs, [some (.fz (.ref n)), some (.fz (.int 6)), x2, x3, x4, some (.own (.lst (L.map D.int))), none]⟩) (acc := []) ⟨cs, L, [], rfl, rfl, hL, by simpa using h, Keep.refl⟩
  rw [rngD_length] at hL' hT
  refine ⟨cs', L', P, ?_, hL', hT.le (by omega), hK⟩
  subst e2 e3
  have hz : (rngD 0 (1 + r1).toNat).length ≤ sizeLine := by rw [rngD_length]; exact small16 (by omega)
  unfold lcRun
  rw [if_pos ⟨hz, rfl⟩]
  have e' : lcGo (fun _ => True) (gSet 6) mYes (fc (scaleE a)) [6] (rngD 0 (1 + r1).toNat) [] ⟨cs, wipeS [some (.fz (.ref n)), some (.fz (.int 6)), x2, x3, x4, some (.own (.lst (L.map D.int))), none] [6]⟩ = _ := e
  dsimp only
  rw [e']
  rfl
theorem ev_scale (a : Ad) (n : Nat) (m : Int) (cs : List Cont) (h : Tape cs n m) (h0 : 0 ≤ m) (hm : m ≤ 10 ^ 7) :
    ∃ vs cs', p__law_scale a [.ref n, .int 6] cs = .ok (.own (.lst (vs.map D.int))) cs' ∧ Scale vs ∧ Tape cs' n (m + 100) ∧ Keep cs cs' n := by
  obtain ⟨r1, c1, e1, p0, p1, T1, K1⟩ := ev_next a n 6 m cs h (by omega) (by decide) (by decide)
  have e1 : p__law_next a [.ref n, .int 6] cs = .ok (.val (.int r1)) c1 := e1
  obtain ⟨r2, c2, e2, q0, q1, T2, K2⟩ := ev_next a n 6 (m + 1) c1 T1 (by omega) (by decide) (by decide)
  have e2 : p__law_next a [.ref n, .int 6] c1 = .ok (.val (.int r2)) c2 := e2
  have K12 := K1.trans K2
  let some4 : List (List Int) := [[1, 2, 3, 4, 5, 6], [1, 2, 4, 8, 16, 32], [1, 5, 10, 20, 50, 60], [2, 3, 4, 5, 9, 60]]
  by_cases hs : r2 < 4
  · obtain ⟨vs, hv, hok, hl⟩ : ∃ vs : List Int, L2.atI ([.lst [.int 1, .int 2, .int 3, .int 4, .int 5, .int 6], .lst [.int 1, .int 2, .int 4, .int 8, .int 16, .int 32], .lst [.int 1, .int 5, .int 10, .int 20, .int 50, .int 60], .lst [.int 2, .int 3, .int 4, .int 5, .int 9, .int 60]] : List D) r2 = some (.lst (vs.map D.int)) ∧ Scale vs ∧ vs.length = 6 := by
      rcases (by omega : r2 = 0 ∨ r2 = 1 ∨ r2 = 2 ∨ r2 = 3) with rfl | rfl | rfl | rfl
      · exact ⟨[1, 2, 3, 4, 5, 6], rfl, ⟨by decide, by decide, by decide, by decide⟩, rfl⟩
      · exact ⟨[1, 2, 4, 8, 16, 32], rfl, ⟨by decide, by decide, by decide, by decide⟩, rfl⟩
      · exact ⟨[1, 5, 10, 20, 50, 60], rfl, ⟨by decide, by decide, by decide, by decide⟩, rfl⟩
      · exact ⟨[2, 3, 4, 5, 9, 60], rfl, ⟨by decide, by decide, by decide, by decide⟩, rfl⟩
    refine ⟨vs.take (1 + r1).toNat, c2, ?_, hok.take (by omega), T2.le (by omega), K12⟩
    show finR (m__law_scale a ⟨cs, [some (.fz (.ref n)), some (.fz (.int 6)), none, none, none, none, none]⟩) = _
    have k1 : ∀ sl, fIx ⟨c2, sl⟩ (.bor 3) (.val (.int r2)) = ixR (L2.atI ((slD (sl[3]?)).elim [] fun d => match d with | .lst xs => xs | _ => []) r2) → True := fun _ _ => trivial
    have k2 : ∀ x1 x2 x4 x5 x6, fIx ⟨c2, [some (.fz (.ref n)), x1, x2, some (.own (.lst [.lst [.int 1, .int 2, .int 3, .int 4, .int 5, .int 6], .lst [.int 1, .int 2, .int 4, .int 8, .int 16, .int 32], .lst [.int 1, .int 5, .int 10, .int 20, .int 50, .int 60], .lst [.int 2, .int 3, .int 4, .int 5, .int 9, .int 60]])), x4, x5, x6]⟩ (.bor 3) (.val (.int r2)) = some (.opd (.val (.lst (vs.map D.int)))) := fun x1 x2 x4 x5 x6 => fIx_ok (by simp) hv
    have k3 : ∀ s, fSl s (.val (.lst (vs.map D.int))) none (some (1 + r1)) = some (.lst ((vs.take (1 + r1).toNat).map D.int)) := fun s => by
      unfold fSl
      simp only [vL_ev, dat_val, daL_lst]
      rw [cut_take (by omega) (by rw [List.length_map]; omega), List.map_take]
    generalize (vs.take (1 + r1).toNat).map D.int = out at k3 ⊢
    generalize vs.map D.int = mid at k2 k3
    simp [m__law_scale, e1, e2, hs, k2, k3]
  · obtain ⟨top, N, kt, hN, hN2, hrg⟩ : ∃ (top : Int) (N : Nat), L2.atI ([.int 16, .int 61] : List D) (r2 - 4) = some (.int top) ∧ 6 ≤ N ∧ N ≤ 60 ∧ top = N + 1 := by
      rcases (by omega : r2 = 4 ∨ r2 = 5) with rfl | rfl
      · exact ⟨16, 15, rfl, by decide, by decide, by decide⟩
      · exact ⟨61, 60, rfl, by decide, by decide, by decide⟩
    obtain ⟨c3, L', P, e3, hL, T3, K3⟩ := ev_picks a n N (m + 1 + 1) r1 c2 ((List.range N).map fun i : Nat => 1 + (i : Int)) (some (.fz (.int (1 + r1)))) (some (.own (.lst [.lst [.int 1, .int 2, .int 3, .int 4, .int 5, .int 6], .lst [.int 1, .int 2, .int 4, .int 8, .int 16, .int 32], .lst [.int 1, .int 5, .int 10, .int 20, .int 50, .int 60], .lst [.int 2, .int 3, .int 4, .int 5, .int 9, .int 60]]))) (some (.fz (.int r2))) T2 (by omega) (by omega) (left0 N hN2) hN hN2 p0 p1
    refine ⟨P.mergeSort (· ≤ ·), c3, ?_, hL.scale (by omega) (by omega), T3.le (by omega), K12.trans K3⟩
    show finR (m__law_scale a ⟨cs, [some (.fz (.ref n)), some (.fz (.int 6)), none, none, none, none, none]⟩) = _
    rw [← idx_map N top hrg] at e3
    have rg : ∀ s, rg1 [.int (1 + r1)] s = .ok ⟨rngD 0 (1 + r1).toNat, fun _ => True⟩ s := fun s => rg1_ok (by omega) (by omega)
    have k1 : ∀ s, fIx s (.val (.lst [.int 16, .int 61])) (.val (.int (r2 - 4))) = some (.opd (.val (.int top))) := fun s => fIx_ok (xs := [.int 16, .int 61]) (by simp) kt
    have k2 : ∀ s, rgR 1 top s = .ok (.own (.lst (rangeD 1 top))) s := fun s => rgR_ok (by unfold RgFit; omega)
    have q6 : fnN (f1 fSorted) (o1 (mLc (mRange1 (aCons (mVar 2) aNil)) (gSet 6) mYes (scaleE a) [6])) ⟨c2, [some (.fz (.ref n)), some (.fz (.int 6)), some (.fz (.int (1 + r1))), some (.own (.lst [.lst [.int 1, .int 2, .int 3, .int 4, .int 5, .int 6], .lst [.int 1, .int 2, .int 4, .int 8, .int 16, .int 32], .lst [.int 1, .int 5, .int 10, .int 20, .int 50, .int 60], .lst [.int 2, .int 3, .int 4, .int 5, .int 9, .int 60]])), some (.fz (.int r2)), some (.own (.lst (rangeD 1 top))), none]⟩ =
        .ok (.own (.lst ((P.mergeSort (· ≤ ·)).map D.int))) ⟨c3, [some (.fz (.ref n)), some (.fz (.int 6)), some (.fz (.int (1 + r1))), some (.own (.lst [.lst [.int 1, .int 2, .int 3, .int 4, .int 5, .int 6], .lst [.int 1, .int 2, .int 4, .int 8, .int 16, .int 32], .lst [.int 1, .int 5, .int 10, .int 20, .int 50, .int 60], .lst [.int 2, .int 3, .int 4, .int 5, .int 9, .int 60]])), some (.fz (.int r2)), some (.own (.lst (L'.map D.int))), none]⟩ := by
      generalize [D.lst [.int 1, .int 2, .int 3, .int 4, .int 5, .int 6], .lst [.int 1, .int 2, .int 4, .int 8, .int 16, .int 32], .lst [.int 1, .int 5, .int 10, .int 20, .int 50, .int 60], .lst [.int 2, .int 3, .int 4, .int 5, .int 9, .int 60]] = t3 at e3 ⊢
      generalize rangeD 1 top = t5 at e3 ⊢
      have q3 : ∀ s, (aCons (mVar 2) aNil) ⟨c2, [some (.fz (.ref n)), some (.fz (.int 6)), some (.fz (.int (1 + r1))), some (.own (.lst t3)), some (.fz (.int r2)), some (.own (.lst t5)), s]⟩ = .ok [.int (1 + r1)] ⟨c2, [some (.fz (.ref n)), some (.fz (.int 6)), some (.fz (.int (1 + r1))), some (.own (.lst t3)), some (.fz (.int r2)), some (.own (.lst t5)), s]⟩ := fun s => by simp
      have q4 : ∀ s, f1 fSorted s [.val (.lst (P.map D.int))] = some (.lst ((P.mergeSort (· ≤ ·)).map D.int)) := fun s => fSorted_ok (by simp [dInts_map])
      unfold o1; rw [ev_fnN, ev_oCons, ev_fz, ev_lc, ev_range1, q3, R.bd_ok, rg, R.bd_ok, e3]
      simp [q4]
    change finR ((sSeq _ (sSeq _ (sSeq _ (sSeq _ (sSeq _ (sRet (fnN (f1 fSorted) (o1 (mLc (mRange1 (aCons (mVar 2) aNil)) (gSet 6) mYes (scaleE a) [6]))))))))) _) = _
    generalize fnN (f1 fSorted) (o1 (mLc (mRange1 (aCons (mVar 2) aNil)) (gSet 6) mYes (scaleE a) [6])) = F at q6 ⊢
    generalize rangeD 1 top = t5 at k2 q6
    generalize (P.mergeSort (· ≤ ·)).map D.int = t6 at q6 ⊢
    simp [e1, e2, hs, k1, k2, q6]
end DS.K81
namespace DS.K81
open PySem DS

theorem ev_is_integer (a : Ad) (v : Int) (cs : List Cont) (h : 1 ≤ v) : p_is_integer a [.int v, .int 1] cs = .ok (.val (.bl true)) cs := by
  show finR (m_is_integer a ⟨cs, [some (.fz (.int v)), some (.fz (.int 1))]⟩) = _
  simp [m_is_integer, h]
def IsKind (z : Str) : Prop := z = "plain" ∨ z = "next" ∨ z = "single" ∨ z = "block" ∨ z = "later"
theorem kind_in {z : Str} (h : IsKind z) (s : DS.S) : fIn s (.val (.str z)) (.val k_Rule_ALL) = some (vB true) := by
  rcases h with rfl | rfl | rfl | rfl | rfl <;> rfl
theorem kind_nin {z : Str} (h : IsKind z) (s : DS.S) : fNotIn s (.val (.str z)) (.val k_Rule_ALL) = some (vB false) := by
  rcases h with rfl | rfl | rfl | rfl | rfl <;> rfl
theorem ev_is_rule (a : Ad) (z : Str) (cs : List Cont) (h : IsKind z) : p_is_rule a [.str z] cs = .ok (.val (.bl true)) cs := by
  show finR (m_is_rule a ⟨cs, [some (.fz (.str z))]⟩) = _
  have k := kind_in h
  simp [m_is_rule, k]
theorem zip_map (f : Int → D) : ∀ (xs ys : List Int), zipD (xs.map D.int) (ys.map D.int) = (xs.zip ys).map fun d => D.tup [.int d.1, .int d.2] := by
  intro xs ys
  unfold zipD
  rw [List.zip_map, List.map_map]
  rfl
theorem cut_drop1 {xs : List D} : cutD xs (some 1) none = xs.drop 1 := by
  have e1 : HT.sIx xs.length 0 (some 1) = min 1 xs.length := rfl
  have e2 : HT.sIx xs.length xs.length none = xs.length := rfl
  unfold cutD
  rw [e1, e2]
  cases xs with
  | nil => rfl
  | cons x r =>
    rw [List.length_cons, Nat.min_eq_left (by omega)]
    rw [List.drop_one, List.tail_cons]
    apply List.take_of_length_le
    omega
theorem ev_are_values (a : Ad) (vs : List Int) (cs : List Cont) (h : Scale vs) : p_are_values a [.lst (vs.map D.int)] cs = .ok (.val (.bl true)) cs := by
  show finR (m_are_values a ⟨cs, [some (.fz (.lst (vs.map D.int))), none, none, none]⟩) = _
  have hl : 1 ≤ vs.length := List.length_pos_iff.mpr h.ne
  have hz : (vs.map D.int).length ≤ sizeLine := by rw [List.length_map]; exact small16 (by have := h.len; omega)
  have k1 : ∀ s, f1 fLen s [.val (.lst (vs.map D.int))] = some (vI vs.length) := fun s => by rw [fLen_seq (xs := vs.map D.int) (by simp), List.length_map]
  have i1 : (1 : Int) ≤ (vs.length : Nat) := by omega
  have i2 : ((vs.length : Nat) : Int) ≤ 6 := by have := h.len; omega
  have k2 : ∀ chk : DS.S → Prop, (∀ s, chk s) → lcRun (gSet 1) mYes (fc (mAnd (mCall (p_is_integer a) (aCons (mVar 1) (aCons (mC (.int 1)) aNil))) (mBin (fCmp pLe) (mVar 1) (mC (.int 60))))) [1] ⟨vs.map D.int, chk⟩ ⟨cs, [some (.fz (.lst (vs.map D.int))), none, none, none]⟩ =
      .ok (.own (.lst (vs.map fun _ => D.bl true))) ⟨cs, [some (.fz (.lst (vs.map D.int))), none, none, none]⟩ := by
    intro chk hk
    rw [lcRun_map1 (fun _ => .bl true) hz rfl (fun _ => hk _)]
    · simp
    · intro d hd
      simp only [List.mem_map] at hd
      obtain ⟨v, hv, rfl⟩ := hd
      have e1 := ev_is_integer a v cs (h.rng v hv).1
      have e2 := (h.rng v hv).2
      simp [e1, e2]
  have k3 : ∀ (s : DS.S) (n : List Int), f1 fAll s [.val (.lst (n.map fun _ => D.bl true))] = some (vB true) := fun s n => by
    rw [fAll_bls (bs := n.map fun _ => true)]
    · simp
    · simp only [vL_ev, dat_val, daL_lst, Option.bind_some]
      rw [show n.map (fun _ => D.bl true) = (n.map fun _ => true).map D.bl by simp]
      exact dBls_map _
  have k4 : ∀ s : DS.S, fSl s (.val (.lst (vs.map D.int))) (some 1) none = some (.lst ((vs.drop 1).map D.int)) := fun s => by
    unfold fSl
    simp only [vL_ev, dat_val, daL_lst]
    rw [cut_drop1, List.map_drop]
  have hp : ∀ p ∈ vs.zip (vs.drop 1), p.1 < p.2 := by
    intro p hp
    obtain ⟨i, hi⟩ := List.getElem?_of_mem hp
    rw [List.getElem?_zip_eq_some] at hi
    obtain ⟨ha, hb⟩ := hi
    rw [List.getElem?_drop] at hb
    obtain ⟨h1, e1⟩ := List.getElem?_eq_some_iff.mp ha
    obtain ⟨h2, e2⟩ := List.getElem?_eq_some_iff.mp hb
    have := List.pairwise_iff_getElem.mp h.inc i (1 + i) h1 h2 (by omega)
    rw [e1, e2] at this
    exact this
  have k5 : ∀ chk : DS.S → Prop, (∀ s, chk s) → lcRun (gTup (gCons (gSet 2) (gCons (gSet 3) gNil))) mYes (fc (mBin (fCmp pLt) (mVar 2) (mVar 3))) [2, 3] ⟨zipD (vs.map D.int) ((vs.drop 1).map D.int), chk⟩ ⟨cs, [some (.fz (.lst (vs.map D.int))), none, none, none]⟩ =
      .ok (.own (.lst ((vs.zip (vs.drop 1)).map fun _ => D.bl true))) ⟨cs, [some (.fz (.lst (vs.map D.int))), none, none, none]⟩ := by
    intro chk hk
    rw [zip_map D.int]
    have e : ((vs.zip (vs.drop 1)).map fun d => D.tup [.int d.1, .int d.2]) = ((vs.zip (vs.drop 1)).map fun d => (D.int d.1, D.int d.2)).map fun d => D.tup [d.1, d.2] := by rw [List.map_map]; rfl
    rw [e, lcRun_map2 (fun _ => .bl true) (by decide) (by
      rw [List.length_map, List.length_zip]
      exact Nat.le_trans (Nat.min_le_left _ _) (by simpa using hz)) rfl rfl (fun _ => hk _)]
    · simp
    · intro d hd
      simp only [List.mem_map] at hd
      obtain ⟨p, hp2, rfl⟩ := hd
      have e2 := hp p hp2
      simp [e2]
  have k6 : ∀ s : DS.S, f1 fAll s [.val (.lst ((vs.zip (vs.drop 1)).map fun _ => D.bl true))] = some (vB true) := fun s => by
    have : ((vs.zip (vs.drop 1)).map fun _ => D.bl true) = ((vs.zip (vs.drop 1)).map Prod.fst).map fun _ => D.bl true := by rw [List.map_map]; rfl
    rw [this]
    exact k3 s _
  have k3 := fun s => k3 s vs
  generalize ((vs.zip (vs.drop 1)).map fun _ => D.bl true) = t1 at k5 k6
  generalize (vs.map fun _ => D.bl true) = t2 at k2 k3
  generalize ((vs.drop 1).map D.int) = t3 at k4 k5
  generalize (vs.map D.int) = t4 at k1 k2 k4 k5 ⊢
  simp [m_are_values, k_System_MOST, k1, i1, i2, k2, k3, k4, k5, k6]
/-! ### systems -/
def Sys (a : Ad) (vs : List Int) (z : Str) : Cont := .ins a.c_System [("held_values", .lst (vs.map D.int)), ("held_rule", .str z)]
theorem ev_init (a : Ad) (vs : List Int) (z : Str) (cs : List Cont) (h : Scale vs) (hz : IsKind z) : p_System_init_k_rule a (.ref cs.length :: (vs.map D.int ++ [.str z])) (cs ++ [.ins a.c_System []]) = .ok (.val .non) (cs ++ [Sys a vs z]) := by
  unfold p_System_init_k_rule skFn
  dsimp only
  have hl : (vs.map D.int ++ [D.str z]).length ≤ sizeLine := by simp only [List.length_append, List.length_map, List.length_cons, List.length_nil]; exact small16 (by have := h.len; omega)
  rw [List.getLast?_append, List.getLast?_singleton]
  dsimp only [Option.or]
  rw [if_pos hl, List.dropLast_concat]
  show finR (m_System_init a ⟨cs ++ [.ins a.c_System []], [some (.fz (.ref cs.length)), some (.fz (.str z)), some (.fz (.tup (vs.map D.int)))]⟩) = _
  have e1 := fun cs => ev_are_values a vs cs h
  have e2 := fun cs => ev_is_rule a z cs hz
  have k1 : ∀ s, f1 fListOf s [.val (.tup (vs.map D.int))] = some (.lst (vs.map D.int)) := fun s => fListOf_seq (by simp)
  have p1 : ∀ (c : Cont) (f : Cont → Option (Cont × NV)) (c' : Cont) (sl : Sl), f c = some (c', vN) → mutC (.val (.ref cs.length)) f ⟨cs ++ [c], sl⟩ = .ok (.opd (.val .non)) ⟨cs ++ [c'], sl⟩ := fun c f c' sl hf => by
    rw [ev_mutRef (c := c) (c' := c') (r := vN) (by simp) hf]
    simp [set_end]
  have q1 : ∀ sl, mutC (.val (.ref cs.length)) (fldSet a.c_System "held_values" (.lst (vs.map D.int))) ⟨cs ++ [.ins a.c_System []], sl⟩ = .ok (.opd (.val .non)) ⟨cs ++ [.ins a.c_System [("held_values", .lst (vs.map D.int))]], sl⟩ := fun sl => p1 _ _ _ _ (by
    unfold fldSet
    dsimp only
    rw [if_pos ⟨rfl, by decide⟩]; rfl)
  have q2 : ∀ sl, mutC (.val (.ref cs.length)) (fldSet a.c_System "held_rule" (.str z)) ⟨cs ++ [.ins a.c_System [("held_values", .lst (vs.map D.int))]], sl⟩ = .ok (.opd (.val .non)) ⟨cs ++ [Sys a vs z], sl⟩ := fun sl => p1 _ _ _ _ (by
    unfold fldSet
    dsimp only
    rw [if_pos ⟨rfl, by simp⟩]; rfl)
  generalize (vs.map D.int) = t1 at e1 k1 q1 q2 ⊢
  simp [m_System_init, e1, e2, k1, q1, q2]
theorem ev_of (a : Ad) (vs : List Int) (z : Str) (cs : List Cont) (h : Scale vs) (hz : IsKind z) : p_System_of a [cD a.c_System, .lst (vs.map D.int), .str z] cs = .ok (.val (.ref cs.length)) (cs ++ [Sys a vs z]) := by
  show finR (m_System_of a ⟨cs, [some (.fz (cD a.c_System)), some (.fz (.lst (vs.map D.int))), some (.fz (.str z))]⟩) = _
  have e1 := fun cs => ev_are_values a vs cs h
  have e2 := ev_init a vs z cs h hz
  have e3 : ∀ sl, mMakeC a.c_System (p_System_init_k_rule a) (vs.map D.int ++ [.str z]) ⟨cs, sl⟩ = .ok (.opd (.val (.ref cs.length))) ⟨cs ++ [Sys a vs z], sl⟩ := fun sl => mMakeC_ev e2
  generalize (vs.map D.int) = t1 at e1 e3 ⊢
  simp [m_System_of, e1, e3, cD, msR3_ev]
end DS.K81
namespace DS.K81
open PySem DS

/-! ### the divisor -/
theorem ev_while (cs : List Cont) (x0 x2 : Option SV) : ∀ (n x y : Nat), y < n → sWhile n (mCmpB (fCmp pGt) (mVar 3) (mC (.int 0))) (sPar 1 3 (aCons (mVar 3) (aCons (mBin fMod (mVar 1) (mVar 3)) aNil))) ⟨cs, [x0, some (.fz (.int x)), x2, some (.fz (.int y))]⟩ =
    .next ⟨cs, [x0, some (.fz (.int (Nat.gcd x y : Nat))), x2, some (.fz (.int 0))]⟩
  | 0, _, _, h => absurd h (Nat.not_lt_zero _)
  | n + 1, x, 0, _ => by
    rw [while_stop (s1 := ⟨cs, [x0, some (.fz (.int x)), x2, some (.fz (.int (0 : Nat)))]⟩) (by simp)]
    simp
  | n + 1, x, y + 1, h => by
    have hm : x % (y + 1) < y + 1 := Nat.mod_lt _ (Nat.succ_pos _)
    have k1 : ∀ s, fMod s (.val (.int (x : Int))) (.val (.int ((y + 1 : Nat) : Int))) = some (vI ((x % (y + 1) : Nat) : Int)) := fun s => by
      rw [fMod_int (by omega)]; rfl
    have e : Nat.gcd x (y + 1) = Nat.gcd (y + 1) (x % (y + 1)) := by
      rw [Nat.gcd_comm x, Nat.gcd_rec, Nat.gcd_comm]
    have i1 : (0 : Int) < ((y + 1 : Nat) : Int) := by omega
    generalize hy : y + 1 = q at *
    rw [while_step (s1 := ⟨cs, [x0, some (.fz (.int x)), x2, some (.fz (.int q))]⟩) (s2 := ⟨cs, [x0, some (.fz (.int q)), x2, some (.fz (.int (x % q : Nat)))]⟩) (by simp; omega) (by simp [k1]), ev_while cs x0 x2 n q (x % q) (by omega), e]
def gcdI (x v : Int) : Int := (Nat.gcd x.toNat v.toNat : Nat)
theorem gcdI_rng {x v : Int} (h : 1 ≤ x ∧ x ≤ 60) : 1 ≤ gcdI x v ∧ gcdI x v ≤ 60 := by
  have h0 : 0 < x.toNat := by omega
  have h1 := Nat.gcd_pos_of_pos_left v.toNat h0
  have h2 := Nat.gcd_le_left v.toNat h0
  unfold gcdI
  omega
def gD (vs : List Int) : Int := (vs.drop 1).foldl gcdI (vs.headD 0)
theorem ev_common (a : Ad) (vs : List Int) (cs : List Cont) (h : Scale vs) : p_common_divisor a [.lst (vs.map D.int)] cs = .ok (.val (.int (gD vs))) cs := by
  show finR (m_common_divisor a ⟨cs, [some (.fz (.lst (vs.map D.int))), none, none, none]⟩) = _
  obtain ⟨v, r, rfl⟩ : ∃ v r, vs = v :: r := by
    cases vs with
    | nil => exact absurd rfl h.ne
    | cons v r => exact ⟨v, r, rfl⟩
  have hr : ∀ w ∈ r, 1 ≤ w ∧ w ≤ 60 := fun w hw => h.rng w (by simp [hw])
  have hv := h.rng v (by simp)
  obtain ⟨s', e1, x2, x3, e2, _⟩ := sFor_inv (chk := fun _ => True) (g := gSet 2) (body := sSeq (sSet 3 (mVar 2)) (sWhile 100 (mCmpB (fCmp pGt) (mVar 3) (mC (.int 0))) (sPar 1 3 (aCons (mVar 3) (aCons (mBin fMod (mVar 1) (mVar 3)) aNil))))) (xs := r.map D.int)
    (fun i s => ∃ x2 x3, s = (⟨cs, [some (.fz (.lst ((v :: r).map D.int))), some (.fz (.int ((r.take i).foldl gcdI v))), x2, x3]⟩ : DS.S) ∧ 1 ≤ (r.take i).foldl gcdI v ∧ (r.take i).foldl gcdI v ≤ 60) (fun _ _ _ _ => trivial)
    (fun i d s hd ⟨x2, x3, e, g1, g2⟩ => by
      subst e
      simp only [List.getElem?_map, Option.map_eq_some_iff] at hd
      obtain ⟨w, hw, rfl⟩ := hd
      obtain ⟨hi, hir⟩ := List.getElem?_eq_some_iff.mp hw
      have hwr := hr w (List.mem_of_getElem? hw)
      have e3 : (r.take (i + 1)).foldl gcdI v = gcdI ((r.take i).foldl gcdI v) w := by
        rw [List.take_succ_eq_append_getElem hi, hir, List.foldl_append]; rfl
      have e4 := gcdI_rng (v := w) ⟨g1, g2⟩
      rw [e3]
      generalize (r.take i).foldl gcdI v = g at g1 g2 e4 ⊢
      refine ⟨_, rfl, ⟨cs, [some (.fz (.lst ((v :: r).map D.int))), some (.fz (.int (gcdI g w))), some (.fz (.int w)), some (.fz (.int 0))]⟩, .inl ?_, _, _, rfl, e4.1, e4.2⟩
      have e5 := ev_while cs (some (.fz (.lst ((v :: r).map D.int)))) (some (.fz (.int w))) 100 g.toNat w.toNat (by omega)
      rw [show ((g.toNat : Nat) : Int) = g by omega, show ((w.toNat : Nat) : Int) = w by omega] at e5
      have e5 : sWhile 100 (mCmpB (fCmp pGt) (mVar 3) (mC (.int 0))) (sPar 1 3 (aCons (mVar 3) (aCons (mBin fMod (mVar 1) (mVar 3)) aNil))) ⟨cs, [some (.fz (.lst ((v :: r).map D.int))), some (.fz (.int g)), some (.fz (.int w)), some (.fz (.int w))]⟩ = .next ⟨cs, [some (.fz (.lst ((v :: r).map D.int))), some (.fz (.int (gcdI g w))), some (.fz (.int w)), some (.fz (.int 0))]⟩ := e5
      generalize ((v :: r).map D.int) = t at e5 ⊢
      simp [e5])
    (s := ⟨cs, [some (.fz (.lst ((v :: r).map D.int))), some (.fz (.int v)), none, none]⟩) ⟨none, none, rfl, hv.1, hv.2⟩
  subst e2
  have k1 : ∀ s : DS.S, fSl s (.val (.lst ((v :: r).map D.int))) (some 1) none = some (.lst (r.map D.int)) := fun s => by
    unfold fSl
    simp only [vL_ev, dat_val, daL_lst]
    rw [cut_drop1]; rfl
  have k2 : ∀ s : DS.S, fIx s (.val (.lst ((v :: r).map D.int))) (.val (.int 0)) = some (.opd (.val (.int v))) := fun s => fIx_ok (xs := (v :: r).map D.int) (by simp) (by simp)
  rw [List.length_map, List.take_length] at e1
  have e3 : gD (v :: r) = r.foldl gcdI v := rfl
  rw [e3]
  generalize r.foldl gcdI v = g at e1 ⊢
  generalize (v :: r).map D.int = t at e1 k1 k2 ⊢
  generalize r.map D.int = t2 at e1 k1
  simp [m_common_divisor, k1, k2, forS_ev, e1]
theorem gD_rng {vs : List Int} (h : Scale vs) : 1 ≤ gD vs ∧ gD vs ≤ 60 := by
  obtain ⟨v, r, rfl⟩ : ∃ v r, vs = v :: r := by
    cases vs with
    | nil => exact absurd rfl h.ne
    | cons v r => exact ⟨v, r, rfl⟩
  have hv := h.rng v (by simp)
  show 1 ≤ r.foldl gcdI v ∧ r.foldl gcdI v ≤ 60
  clear h
  induction r generalizing v with
  | nil => exact hv
  | cons w r ih => exact ih _ (gcdI_rng hv)
/-! ### the properties -/
section
variable {a : Ad} {vs : List Int} {z : Str} {cs : List Cont} {n : Nat}
theorem ev_row (h : cs[n]? = some (Sys a vs z)) : p_System_row a [.ref n] cs = .ok (.own (.lst (vs.map D.int))) cs := by
  show finR (m_System_row a ⟨cs, [some (.fz (.ref n))]⟩) = _
  have k1 : ∀ sl, fdR a.c_System "held_values" (.val (.ref n)) ⟨cs, sl⟩ = .ok (.opd (.val (.lst (vs.map D.int)))) ⟨cs, sl⟩ := fun sl => fdR_ev h rfl
  have k2 : ∀ s, f1 fListOf s [.val (.lst (vs.map D.int))] = some (.lst (vs.map D.int)) := fun s => fListOf_seq (by simp)
  generalize vs.map D.int = t at k1 k2 ⊢
  simp [m_System_row, k1, k2]
theorem ev_rule (h : cs[n]? = some (Sys a vs z)) : p_System_rule a [.ref n] cs = .ok (.val (.str z)) cs := by
  show finR (m_System_rule a ⟨cs, [some (.fz (.ref n))]⟩) = _
  have k1 : ∀ sl, fdR a.c_System "held_rule" (.val (.ref n)) ⟨cs, sl⟩ = .ok (.opd (.val (.str z))) ⟨cs, sl⟩ := fun sl => fdR_ev h rfl
  simp [m_System_rule, k1]
theorem ev_greatest (h : cs[n]? = some (Sys a vs z)) (hs : Scale vs) : p_System_greatest a [.ref n] cs = .ok (.val (.int (vs.getLast hs.ne))) cs := by
  show finR (m_System_greatest a ⟨cs, [some (.fz (.ref n))]⟩) = _
  have k1 : ∀ sl, fdR a.c_System "held_values" (.val (.ref n)) ⟨cs, sl⟩ = .ok (.opd (.val (.lst (vs.map D.int)))) ⟨cs, sl⟩ := fun sl => fdR_ev h rfl
  have e : vs.map D.int = vs.dropLast.map D.int ++ [.int (vs.getLast hs.ne)] := by
    conv => lhs; rw [← List.dropLast_concat_getLast hs.ne]
    rw [List.map_append]; rfl
  have k2 : ∀ s, fIx s (.val (.lst (vs.map D.int))) (.val (.int (-1))) = some (.opd (.val (.int (vs.getLast hs.ne)))) := fun s => fIx_ok (xs := vs.map D.int) (by simp) (by rw [e]; exact atI_last)
  generalize vs.map D.int = t at k1 k2
  simp [m_System_greatest, k1, k2]
theorem ev_divisor (h : cs[n]? = some (Sys a vs z)) (hs : Scale vs) : p_System_divisor a [.ref n] cs = .ok (.val (.int (gD vs))) cs := by
  show finR (m_System_divisor a ⟨cs, [some (.fz (.ref n))]⟩) = _
  have k1 : ∀ sl, fdR a.c_System "held_values" (.val (.ref n)) ⟨cs, sl⟩ = .ok (.opd (.val (.lst (vs.map D.int)))) ⟨cs, sl⟩ := fun sl => fdR_ev h rfl
  have k2 := ev_common a vs cs hs
  generalize vs.map D.int = t at k1 k2
  simp [m_System_divisor, k1, k2]
def shD (vs : List Int) (z : Str) (l : Int) : List D := [.lst (vs.map D.int), .str z, .int l, .int (gD vs)]
theorem ev_shown (h : cs[n]? = some (Sys a vs z)) (hs : Scale vs) : p__law_shown a [.ref n] cs = .ok (.own (.lst (shD vs z (vs.getLast hs.ne)))) cs := by
  show finR (m__law_shown a ⟨cs, [some (.fz (.ref n))]⟩) = _
  have k1 := ev_row h
  have k2 := ev_rule h
  have k3 := ev_greatest h hs
  have k4 := ev_divisor h hs
  have p := fun (φ : Fn) (sl : Sl) => prR_ev (φ := φ) (s := ⟨cs, sl⟩) h
  unfold shD
  generalize vs.map D.int = t at k1 ⊢
  generalize gD vs = g at k4 ⊢
  simp [m__law_shown, p, k1, k2, k3, k4]
end
end DS.K81
namespace DS.K81
open PySem DS

/-! ### a system's text -/
def vT (v : Int) : List Nat := TL.numL v.toNat
def sysL (z : Str) (vs : List Int) : List (List Nat) := z.cps.toList :: vs.map vT
def sysT (z : Str) (vs : List Int) : List Nat := TL.joinL [32] (sysL z vs)
theorem kind_len {z : Str} (h : IsKind z) : z.cps.toList.length ≤ 6 := by
  rcases h with rfl | rfl | rfl | rfl | rfl <;> decide
theorem kind_free {z : Str} (h : IsKind z) : 32 ∉ z.cps.toList := by
  rcases h with rfl | rfl | rfl | rfl | rfl <;> decide
theorem sysL_ok {z : Str} {vs : List Int} (h : Scale vs) (hz : IsKind z) : ∀ p ∈ sysL z vs, p.length ≤ 6 ∧ 32 ∉ p := by
  intro p hp
  rcases List.mem_cons.mp hp with rfl | hp
  · exact ⟨kind_len hz, kind_free hz⟩
  · simp only [List.mem_map] at hp
    obtain ⟨v, hv, rfl⟩ := hp
    have h2 := h.rng v hv
    have h3 := num2 (n := v.toNat) (by omega)
    exact ⟨by unfold vT; omega, no_space _⟩
theorem sysL_len {z : Str} {vs : List Int} (h : Scale vs) : (sysL z vs).length ≤ 7 := by
  have := h.len
  simp [sysL]; omega
theorem sysT_len {z : Str} {vs : List Int} (h : Scale vs) (hz : IsKind z) : (sysT z vs).length ≤ 49 := by
  have h1 := joinL_len (k := 6) (sysL z vs) fun p hp => (sysL_ok h hz p hp).1
  have h2 := sysL_len (z := z) h
  unfold sysT
  omega
def strsD (z : Str) (vs : List Int) : List D := .str z :: vs.map fun v => .str (Tx (vT v))
theorem strsD_eq (z : Str) (vs : List Int) : strsD z vs = ((sysL z vs).map Tx).map D.str := by
  unfold strsD sysL
  rw [List.map_cons, List.map_cons, List.map_map, List.map_map]
  rfl
theorem join_sys {z : Str} {vs : List Int} (h : Scale vs) (hz : IsKind z) : ((dStrs (strsD z vs)).bind fun ys => fJoin " " ys) = some (vSt (Tx (sysT z vs))) := by
  rw [strsD_eq, dStrs_map, Option.bind_some]
  have e : (" " : Str) = SX.S [32] := by decide
  unfold fJoin
  have hs := sum_le (f := fun r : List Nat => r.length) (k := 6) (sysL z vs) fun r hr => (sysL_ok h hz r hr).1
  have hl := sysL_len (z := z) h
  have e2 : (((sysL z vs).map Tx).map (·.length)).sum = ((sysL z vs).map fun r => r.length).sum := by
    simp only [List.map_map]; congr 1
  have e3 : (" " : Str).length = 1 := by decide
  rw [if_pos (by rw [e2, e3]; simp only [List.length_map] at hs ⊢; omega), e]
  show some (vSt (Txt.join (SX.S [32]) ((sysL z vs).map SX.S))) = _
  rw [SX.join_S]
  rfl
theorem split_sys {z : Str} {vs : List Int} (h : Scale vs) (hz : IsKind z) : fSplit (Tx (sysT z vs)) " " = some (.lst (strsD z vs)) := by
  rw [strsD_eq]
  refine fSplit_ok ?_ (by decide) ?_
  · have e : (" " : Str) = SX.S [32] := by decide
    rw [e]
    show Txt.split (SX.S _) _ = _
    rw [SX.split_S (by decide) (by decide)]
    unfold sysT
    rw [SX.spl_join (by simp [sysL]) fun p hp => (sysL_ok h hz p hp).2]
  · rw [Tx_len]
    have := sysT_len h hz
    exact Nat.le_trans (by omega : _ ≤ 100) (by decide)
theorem v_log {v : Int} (h : 1 ≤ v ∧ v ≤ 60) : v.natAbs.log2 < 1920 := by
  have e : v = ((v.toNat : Nat) : Int) := by omega
  rw [e]
  exact log_small (by omega)
theorem v_str {v : Int} (h : 1 ≤ v ∧ v ≤ 60) (s : DS.S) : f1 fStrI s [.val (.int v)] = some (vSt (Tx (vT v))) := by
  rw [fStr_int (v_log h)]
  have e : v = ((v.toNat : Nat) : Int) := by omega
  unfold vT
  conv => lhs; rw [e]
  rw [iStr_nat]
theorem strs_run {vs : List Int} (h : Scale vs) (i : Nat) (cs : List Cont) (sl : Sl) (hi : isFz sl[i]? = true) : lcRun (gSet i) mYes (fc (fnN (f1 fStrI) (o1 (mVar i)))) [i] ⟨vs.map D.int, fun _ => True⟩ ⟨cs, sl⟩ =
    .ok (.own (.lst (vs.map fun v => .str (Tx (vT v))))) ⟨cs, sl⟩ := by
  rw [lcRun_map1 (fun d => match d with | .int v => .str (Tx (vT v)) | _ => .non) (by rw [List.length_map]; exact small16 (by have := h.len; omega)) hi (fun _ => trivial)]
  · rw [List.map_map]; rfl
  · intro d hd
    simp only [List.mem_map] at hd
    obtain ⟨v, hv, rfl⟩ := hd
    have e1 := v_str (h.rng v hv)
    have e2 : (sl.set i (some (.fz (.int v))))[i]? = some (some (.fz (.int v))) := List.getElem?_set_self (isFz_lt hi)
    simp [e2, e1]
theorem add_sys {z : Str} {vs : List Int} (h : Scale vs) (s : DS.S) : fAdd s (.val (.lst [.str z])) (.val (.lst (vs.map fun v => .str (Tx (vT v))))) = some (.lst (strsD z vs)) := by
  rw [fAdd_lst (xs := [.str z]) (ys := vs.map fun v => .str (Tx (vT v))) (by simp) (by simp) (by
    simp only [List.length_map, List.length_cons, List.length_nil]
    exact small16 (by have := h.len; omega))]
  rfl
theorem enumD1_at {xs : List D} {i : Nat} {d : D} (h : (enumD 1 xs)[i]? = some d) : ∃ x, xs[i]? = some x ∧ d = .tup [.int (1 + i), x] := by
  simp only [enumD, List.getElem?_map, Option.map_eq_some_iff, List.getElem?_zipIdx] at h
  obtain ⟨⟨d1, k1⟩, ⟨d2, hd, e2⟩, rfl⟩ := h
  cases e2
  exact ⟨_, hd, by simp⟩
section
variable {a : Ad} {vs : List Int} {z : Str} {cs : List Cont} {n : Nat}
theorem ev_write_system (h : cs[n]? = some (Sys a vs z)) (hs : Scale vs) (hz : IsKind z) : p_write_system a [.ref n] cs = .ok (.val (.str (Tx (sysT z vs)))) cs := by
  show finR (m_write_system a ⟨cs, [some (.fz (.ref n)), none]⟩) = _
  have k1 := ev_row h
  have k2 := ev_rule h
  have p := fun (φ : Fn) (sl : Sl) => prR_ev (φ := φ) (s := ⟨cs, sl⟩) h
  have k3 := strs_run hs 1 cs [some (.fz (.ref n)), none] rfl
  have k4 := fun s => add_sys (z := z) hs s
  have k5 := join_sys hs hz
  generalize vs.map D.int = t at k1 k3
  generalize (vs.map fun v => D.str (Tx (vT v))) = t2 at k3 k4
  generalize strsD z vs = t3 at k4 k5
  simp [m_write_system, p, k1, k2, k3, k4, k5]
/-! ### reading a system -/
theorem ev_read_system (cs : List Cont) (hs : Scale vs) (hz : IsKind z) : p_read_system a [.str (Tx (sysT z vs))] cs = .ok (.val (.ref cs.length)) (cs ++ [Sys a vs z]) := by
  show finR (m_read_system a ⟨cs, [some (.fz (.str (Tx (sysT z vs)))), none, none, none, none, none, none]⟩) = _
  have q1 := split_sys hs hz
  have q2 := kind_nin hz
  let rs : List D := vs.map fun v => .str (Tx (vT v))
  obtain ⟨s', e1, x3, x4, x5, e2⟩ := sFor_inv (chk := fun _ => True) (g := gTup (gCons (gSet 3) (gCons (gSet 4) gNil)))
    (body := (sSeq (sSet 5 (mCall (p_sign_in a) (aCons (mVar 4) aNil)))
    (sSeq (sIf (mOrB (mCmpB (fIsN false) (mVar 5) (mC .non)) (mOrB (mCmpB (fCmp pGe) (fnN (f1 fLen) (o1 (mVar 1))) (mC (k_System_MOST))) (mAndB (mCmpB fNe (mVar 1) (mLst aNil)) (mCmpB (fCmp pLe) (mVar 5) (mBin fIx (mVar 1) (mNeg (mC (.int 1))))))))
    sStuck
    sNext)
    (sDrop (mMeth gAppend (mVar 1) (aCons (mVar 5) aNil)))))) (xs := enumD 1 rs)
    (fun i s => ∃ x3 x4 x5, s = (⟨cs, [some (.fz (.str (Tx (sysT z vs)))), some (.own (.lst ((vs.take i).map D.int))), some (.fz (.str z)), x3, x4, x5, some (.fz (.lst rs))]⟩ : DS.S)) (fun _ _ _ _ => trivial)
    (fun i d s hd ⟨x3, x4, x5, e⟩ => by
      subst e
      obtain ⟨x, hx, rfl⟩ := enumD1_at hd
      simp only [rs, List.getElem?_map, Option.map_eq_some_iff] at hx
      obtain ⟨v, hv, rfl⟩ := hx
      obtain ⟨hi, hir⟩ := List.getElem?_eq_some_iff.mp hv
      have hvr := hs.rng v (List.mem_of_getElem? hv)
      have hlen := hs.len
      have e4 : ∀ cs, p_sign_in a [.str (Tx (vT v))] cs = .ok (.val (.int v)) cs := fun cs => by
        have := ev_sign_in a v.toNat cs (by omega) (by omega)
        rw [show ((v.toNat : Nat) : Int) = v by omega] at this
        exact this
      have k0 : (vs.take (i + 1)).map D.int = (vs.take i).map D.int ++ [.int v] := by rw [List.take_succ_eq_append_getElem hi, hir, List.map_append]; rfl
      have hL : ((vs.take i).map D.int).length = i := by simp; omega
      have k1 : ∀ cs x0 x2 x3 x4 x5 x6, fNe ⟨cs, [x0, some (.own (.lst ((vs.take i).map D.int))), x2, x3, x4, x5, x6]⟩ (.bor 1) (.val (.lst [])) = some (vB (!(vs.take i).isEmpty)) := fun cs x0 x2 x3 x4 x5 x6 => by
        rw [fNe_den (p := .list ((vs.take i).map PyData.int)) (q := .list []) fEqS_bor (by
          simp only [denO_ev, dat_bor, List.getElem?_cons_succ, List.getElem?_cons_zero, slD_own, toD_lst, doR_some, den_lst]
          rw [denL_map (h := PyData.int) _ fun _ _ => by simp]; rfl) (by simp) (by
          simp only [told]
          exact tolds_map _ fun w hw => by
            simp only [told, decide_eq_true_eq]
            exact v_log (hs.rng w (List.mem_of_mem_take hw))) rfl, eqv_nil]
        cases vs.take i <;> rfl
      have k5 : (vs.take i).isEmpty = true ∨ ((vs.take i).isEmpty = false ∧ ∃ q : Int, q < v ∧ ∀ cs x0 x2 x3 x4 x5 x6, fIx ⟨cs, [x0, some (.own (.lst ((vs.take i).map D.int))), x2, x3, x4, x5, x6]⟩ (.bor 1) (.val (.int (-1))) = some (.opd (.val (.int q)))) := by
        cases i with
        | zero => exact .inl rfl
        | succ i =>
          have hil2 : i < vs.length := by omega
          have e5 : (vs.take (i + 1)).map D.int = (vs.take i).map D.int ++ [.int vs[i]] := by rw [List.take_succ_eq_append_getElem hil2, List.map_append]; rfl
          have hne := hs.ne
          refine .inr ⟨by simpa using hne, vs[i], ?_, fun cs x0 x2 x3 x4 x5 x6 => fIx_ok (xs := (vs.take i).map D.int ++ [.int vs[i]]) (by simp [e5]) atI_last⟩
          have := List.pairwise_iff_getElem.mp hs.inc i (i + 1) hil2 hi (by omega)
          rw [hir] at this
          exact this
      rw [k0]
      generalize (vs.take i).map D.int = L at hL k1 k5 ⊢
      generalize (vs.take i).isEmpty = b at k1 k5
      have k2 : ∀ cs x0 x2 x3 x4 x5 x6, f1 fLen ⟨cs, [x0, some (.own (.lst L)), x2, x3, x4, x5, x6]⟩ [.bor 1] = some (vI i) := fun cs x0 x2 x3 x4 x5 x6 => by
        rw [fLen_seq (xs := L) (by simp), hL]
      have k3 : ∀ cs x0 x2 x3 x4 x5 x6 args, mthR gAppend args (.bor 1) ⟨cs, [x0, some (.own (.lst L)), x2, x3, x4, x5, x6]⟩ = R.bd (args ⟨cs, [x0, some (.own (.lst L)), x2, x3, x4, x5, x6]⟩) (mthR2 gAppend (.bor 1)) := fun cs x0 x2 x3 x4 x5 x6 args => mthR_ev (xs := L) (by simp)
      have k4 : ∀ cs x0 x2 x3 x4 x5 x6, mthR2 gAppend (.bor 1) [.int v] ⟨cs, [x0, some (.own (.lst L)), x2, x3, x4, x5, x6]⟩ = .ok (.opd (.val .non)) ⟨cs, [x0, some (.own (.lst (L ++ [.int v]))), x2, x3, x4, x5, x6]⟩ := fun cs x0 x2 x3 x4 x5 x6 => by
        rw [mthR2_own (xs := L) (ys := L ++ [.int v]) (r := vN) rfl (by
          unfold gAppend
          dsimp only
          rw [if_pos (Nat.lt_of_le_of_lt (by omega : L.length ≤ 6) (by decide))])]
        simp
      have i1 : ¬ (6 : Int) ≤ (i : Int) := by omega
      refine ⟨_, rfl, ⟨cs, [some (.fz (.str (Tx (sysT z vs)))), some (.own (.lst (L ++ [.int v]))), some (.fz (.str z)), some (.fz (.int (1 + i))), some (.fz (.str (Tx (vT v)))), some (.fz (.int v)), some (.fz (.lst rs))]⟩, .inl ?_, _, _, _, rfl⟩
      generalize Tx (vT v) = tv at e4 ⊢
      generalize Tx (sysT z vs) = ts
      generalize rs = rs'
      rcases k5 with rfl | ⟨rfl, q, hq, k7⟩
      · simp [e4, k1, k2, k3, k4, k_System_MOST, i1]
      · have i2 : ¬ v ≤ q := by omega
        simp [e4, k1, k2, k3, k4, k_System_MOST, i1, k7, i2])
    (s := ⟨cs, [some (.fz (.str (Tx (sysT z vs)))), some (.own (.lst [])), some (.fz (.str z)), none, none, none, some (.fz (.lst rs))]⟩) ⟨none, none, none, rfl⟩
  subst e2
  have hR : (enumD 1 rs).length = vs.length := by simp [enumD, rs]
  rw [hR, List.take_length] at e1
  have q3 : strsD z vs = .str z :: rs := rfl
  rw [q3] at q1
  have q4 : ∀ cs x0 x2 x3 x4 x5 x6, fEq ⟨cs, [x0, some (.own (.lst (vs.map D.int))), x2, x3, x4, x5, x6]⟩ (.bor 1) (.val (.lst [])) = some (vB false) := fun cs x0 x2 x3 x4 x5 x6 => by
    rw [fEq_den (p := .list (vs.map PyData.int)) (q := .list []) fEqS_bor (by
      simp only [denO_ev, dat_bor, List.getElem?_cons_succ, List.getElem?_cons_zero, slD_own, toD_lst, doR_some, den_lst]
      rw [denL_map (h := PyData.int) _ fun _ _ => by simp]; rfl) (by simp) (by
      simp only [told]
      exact tolds_map _ fun w hw => by
        simp only [told, decide_eq_true_eq]
        exact v_log (hs.rng w hw)) rfl, eqv_nil]
    have := hs.ne
    simp [this]
  have q5 := ev_of a vs z cs hs hz
  generalize rs = rs' at e1 q1
  generalize vs.map D.int = t at e1 q4 q5
  generalize Tx (sysT z vs) = ts at e1 q1 ⊢
  simp [m_read_system, q1, q2, forS_ev, e1, q4, q5]
end
end DS.K81
namespace DS.K81
open PySem DS

theorem joinL_chars {k : Nat} (hk : 32 < k) : ∀ ps : List (List Nat), (∀ p ∈ ps, ∀ c ∈ p, c < k) → ∀ c ∈ TL.joinL [32] ps, c < k := by
  intro ps
  induction ps with
  | nil => intro _ c hc; simp [TL.joinL] at hc
  | cons p r ih =>
    intro hp c hc
    cases r with
    | nil => exact hp p (by simp) c (by simpa [TL.joinL] using hc)
    | cons q r =>
      simp only [TL.joinL, List.mem_append, List.mem_cons, List.not_mem_nil, or_false] at hc
      rcases hc with hc | hc | hc
      · exact hp p (by simp) c hc
      · omega
      · exact ih (fun y hy => hp y (by simp [hy])) c (by simpa [TL.joinL] using hc)
theorem kind_chars {z : Str} (h : IsKind z) : ∀ c ∈ z.cps.toList, c < 0x110000 := by
  rcases h with rfl | rfl | rfl | rfl | rfl <;> decide
theorem told_tx {l : List Nat} (h : ∀ c ∈ l, c < 0x110000) : told (.str (Tx l)) = true := by
  simp only [told]
  rw [← Array.all_toList, List.all_eq_true]
  intro c hc
  simpa using h c hc
theorem told_kind {z : Str} (h : IsKind z) : told (.str z) = true := told_tx (l := z.cps.toList) (kind_chars h)
theorem vT_chars {v : Int} : ∀ c ∈ vT v, c < 0x110000 := fun c hc => by
  have := num_dig (n := v.toNat) hc
  omega
theorem told_sys {z : Str} {vs : List Int} (hz : IsKind z) : told (.str (Tx (sysT z vs))) = true := by
  refine told_tx (joinL_chars (by decide) _ fun p hp c hc => ?_)
  rcases List.mem_cons.mp hp with rfl | hp
  · exact kind_chars hz c hc
  · simp only [List.mem_map] at hp
    obtain ⟨v, hv, rfl⟩ := hp
    exact vT_chars c hc
section
variable {a : Ad} {vs : List Int} {z : Str} {cs : List Cont} {n : Nat}
theorem repr_texts (hs : Scale vs) (hz : IsKind z) : ∃ X, ∀ s : DS.S, f1 fRepr s [.val (.lst [.str (Tx (sysT z vs)), .str (Tx (sysT z vs))])] = some (vSt X) := by
  have t := told_sys (vs := vs) hz
  have hl := sysT_len hs hz
  refine ⟨_, fun s => fRepr_ok (p := .list [.str (Tx (sysT z vs)), .str (Tx (sysT z vs))]) (by simp) ?_ ?_⟩
  · simp only [told] at t
    simp only [told, tolds, t, Bool.and_self]
  · simp only [cost, costs, Tx_len]
    omega
def shP (vs : List Int) (z : Str) (l : Int) : PyData := .list [.list (vs.map PyData.int), .str z, .int l, .int (gD vs)]
theorem repr_shown (hs : Scale vs) (hz : IsKind z) : ∃ X, ∀ s : DS.S, f1 fRepr s [.val (.lst [.lst (shD vs z (vs.getLast hs.ne)), .lst (shD vs z (vs.getLast hs.ne))])] = some (vSt X) := by
  have hl := hs.rng _ (List.getLast_mem hs.ne)
  generalize vs.getLast hs.ne = l at hl
  have hg := gD_rng hs
  have tv : told (.list (vs.map PyData.int)) = true := by
    simp only [told]
    exact tolds_map _ fun w hw => by
      simp only [told, decide_eq_true_eq]
      exact v_log (hs.rng w hw)
  have tz := told_kind hz
  have tl : told (.int l) = true := by simp only [told, decide_eq_true_eq]; exact v_log hl
  have tg : told (.int (gD vs)) = true := by simp only [told, decide_eq_true_eq]; exact v_log hg
  have ci : ∀ v : Int, 1 ≤ v ∧ v ≤ 60 → cost (.int v) ≤ 2000 := fun v hv => by
    have := v_log hv
    simp only [cost]; omega
  have cv : cost (.list (vs.map PyData.int)) ≤ 20000 := by
    have := costs_map (h := PyData.int) (c := 2000) vs fun v hv => ci v (hs.rng v hv)
    have h6 := hs.len
    simp only [cost]
    omega
  have cz : cost (.str z) ≤ 100 := by
    have : z.length ≤ 6 := kind_len hz
    simp only [cost]; omega
  have cl := ci l hl
  have cg := ci _ hg
  refine ⟨_, fun s => fRepr_ok (p := .list [shP vs z l, shP vs z l]) ?_ ?_ ?_⟩
  · have e : ∀ n, den s.cs (n + 2) (.lst (shD vs z l)) = some (shP vs z l) := fun n => by
      unfold shD shP
      rw [den_lst, denL_cons, den_lst, denL_map (h := PyData.int) _ fun _ _ => by simp]
      simp
    rw [denO_ev, dat_val, doR_some, den_lst, denL_cons, denL_cons, denL_nil, e 5]
    rfl
  · have e : told (shP vs z l) = true := by
      unfold shP
      simp only [told, tolds] at tv tz tl tg ⊢
      simp only [tv, tz, tl, tg, Bool.and_self]
    simp only [told, tolds, e, Bool.and_self]
  · have e : cost (shP vs z l) ≤ 30000 := by
      unfold shP
      simp only [cost, costs] at cv cz cl cg ⊢
      omega
    simp only [cost, costs]
    omega
theorem ev_with_rule (z' : Str) (h : cs[n]? = some (Sys a vs z)) (hs : Scale vs) (hz' : IsKind z') : p_System_with_rule a [.ref n, .str z'] cs = .ok (.val (.ref cs.length)) (cs ++ [Sys a vs z']) := by
  show finR (m_System_with_rule a ⟨cs, [some (.fz (.ref n)), some (.fz (.str z'))]⟩) = _
  have k1 : ∀ sl, fdR a.c_System "held_values" (.val (.ref n)) ⟨cs, sl⟩ = .ok (.opd (.val (.lst (vs.map D.int)))) ⟨cs, sl⟩ := fun sl => fdR_ev h rfl
  have e2 := ev_init a vs z' cs hs hz'
  have e3 : ∀ sl, mMakeC a.c_System (p_System_init_k_rule a) (vs.map D.int ++ [.str z']) ⟨cs, sl⟩ = .ok (.opd (.val (.ref cs.length))) ⟨cs ++ [Sys a vs z'], sl⟩ := fun sl => mMakeC_ev e2
  generalize (vs.map D.int) = t1 at k1 e3
  simp [m_System_with_rule, k1, e3, cD, msR3_ev]
end
theorem later_kind : IsKind "later" := .inr (.inr (.inr (.inr rfl)))
theorem ev_system_right (a : Ad) (vs : List Int) (z : Str) (cs : List Cont) (hs : Scale vs) (hz : IsKind z) : ∃ ex, p__law_system_right a [.lst (vs.map D.int), .str z] cs = .ok (.val (.bl true)) (cs ++ ex) := by
  refine ⟨[Sys a vs z, Sys a vs z, Sys a vs z, Sys a vs "later"], ?_⟩
  show finR (m__law_system_right a ⟨cs, [some (.fz (.lst (vs.map D.int))), some (.fz (.str z)), none, none, none, none, none, none, none]⟩) = _
  have e1 := ev_of a vs z cs hs hz
  obtain ⟨X1, r1⟩ := repr_texts hs hz
  obtain ⟨X2, r2⟩ := repr_shown hs hz
  have k3 := fun x => strs_run hs 8 (cs ++ [Sys a vs z]) [some (.fz (.lst (vs.map D.int))), some (.fz (.str z)), some (.fz (.ref cs.length)), none, none, none, none, none, x]
  have k3 := k3 none rfl
  have k4 := fun s => add_sys (z := z) hs s
  have k4b := fun s => add_sys (z := "later") hs s
  have k5 := join_sys hs hz
  have q1 := split_sys hs hz
  have q2 := split_sys hs later_kind
  have k6 : ∀ s : DS.S, fSl s (.val (.lst (strsD z vs))) (some 1) none = some (.lst (vs.map fun v => .str (Tx (vT v)))) := fun s => by
    unfold fSl
    simp only [vL_ev, dat_val, daL_lst]
    rw [cut_drop1]; rfl
  have at0 : ∀ r, (cs ++ Sys a vs z :: r)[cs.length]? = some (Sys a vs z) := fun r => by simp
  have at1 : ∀ x r, (cs ++ x :: Sys a vs z :: r)[cs.length + 1]? = some (Sys a vs z) := fun x r => by simp
  have at2 : ∀ x y r, (cs ++ x :: y :: Sys a vs z :: r)[cs.length + 2]? = some (Sys a vs z) := fun x y r => by simp
  have at3 : ∀ x y w r, (cs ++ x :: y :: w :: Sys a vs "later" :: r)[cs.length + 3]? = some (Sys a vs "later") := fun x y w r => by simp
  have s1 := ev_shown (at0 []) hs
  have s2 := ev_shown (at1 (Sys a vs z) [Sys a vs z]) hs
  have s3 := ev_shown (at2 (Sys a vs z) (Sys a vs z) []) hs
  have w1 := ev_write_system (at0 []) hs hz
  have w1k : p_write_system_k_system a [.ref cs.length] (cs ++ [Sys a vs z]) = _ := w1
  have d1 := ev_read_system (a := a) (cs ++ [Sys a vs z]) hs hz
  have d2 := ev_read_system (a := a) (cs ++ [Sys a vs z, Sys a vs z]) hs hz
  have d2k : p_read_system_k_text a [.str (Tx (sysT z vs))] (cs ++ [Sys a vs z, Sys a vs z]) = _ := d2
  have u1 := ev_with_rule "later" (at1 (Sys a vs z) [Sys a vs z]) hs later_kind
  have u2 : ∀ args sl, mcR a.c_System "with_rule" (p_System_with_rule a) args (.val (.ref (cs.length + 1))) ⟨cs ++ [Sys a vs z, Sys a vs z, Sys a vs z], sl⟩ = R.bd (args ⟨cs ++ [Sys a vs z, Sys a vs z, Sys a vs z], sl⟩) fun ds => callF (p_System_with_rule a) (.ref (cs.length + 1) :: ds) := fun args sl => mcR_ev (s := ⟨cs ++ [Sys a vs z, Sys a vs z, Sys a vs z], sl⟩) (at1 _ _) rfl
  have w2 := ev_write_system (at3 (Sys a vs z) (Sys a vs z) (Sys a vs z) []) hs later_kind
  have w3 := ev_write_system (at1 (Sys a vs z) [Sys a vs z, Sys a vs "later"]) hs hz
  have i1 : ∀ sl, fEqI a.c_System ⟨cs ++ [Sys a vs z, Sys a vs z, Sys a vs z], sl⟩ (.val (.ref (cs.length + 1))) (.val (.ref (cs.length + 2))) = some (vB false) := fun sl => by
    unfold fEqI
    dsimp only
    rw [at1, at2]
    unfold Sys
    dsimp only
    rw [if_pos ⟨by omega, rfl, rfl⟩]
  have i2 : ∀ sl, fEqI a.c_System ⟨cs ++ [Sys a vs z, Sys a vs z, Sys a vs z], sl⟩ (.val (.ref (cs.length + 1))) (.val (.ref cs.length)) = some (vB false) := fun sl => by
    unfold fEqI
    dsimp only
    rw [at1, at0]
    unfold Sys
    dsimp only
    rw [if_pos ⟨by omega, rfl, rfl⟩]
  have q5 : ∀ s, fEq s (.val (.lst (strsD "later" vs))) (.val (.lst (strsD "later" vs))) = some (vB true) := fun s => by
    have e : denL (den s.cs 7) (strsD "later" vs) = some (.str "later" :: vs.map fun v => .str (Tx (vT v))) := by
      unfold strsD
      rw [denL_cons, denL_map (h := fun v => PyData.str (Tx (vT v))) _ fun _ _ => by simp]
      simp
    have t : told (.list (.str "later" :: vs.map fun v => .str (Tx (vT v)))) = true := by
      have t1 := told_kind later_kind
      have t2 := tolds_map (h := fun v => PyData.str (Tx (vT v))) vs fun v _ => told_tx vT_chars
      simp only [told, tolds] at t1 ⊢
      rw [t1, t2]; rfl
    rw [fEq_den (p := .list (.str "later" :: vs.map fun v => .str (Tx (vT v)))) fEqS_lst (by rw [denO_ev, dat_val, doR_some, den_lst, e]; rfl) (by rw [denO_ev, dat_val, doR_some, den_lst, e]; rfl) t t, eqv_self t]
  simp only [List.append_assoc, List.cons_append, List.nil_append, List.length_append, List.length_cons, List.length_nil, Nat.zero_add] at d1 d2 d2k u1
  generalize vs.getLast hs.ne = l at *
  generalize shD vs z l = t5 at *
  generalize hS : Sys a vs z = S1 at *
  generalize hS2 : Sys a vs "later" = S2 at *
  generalize hT : Tx (sysT z vs) = T at *
  generalize hT2 : Tx (sysT "later" vs) = T2 at *
  generalize hM : (vs.map D.int) = t1 at *
  generalize hM2 : (vs.map fun v => D.str (Tx (vT v))) = t2 at *
  generalize hM3 : strsD z vs = t3 at *
  generalize hM4 : strsD "later" vs = t4 at *
  simp [m__law_system_right, e1, r1, r2, k3, k4, k4b, k5, q1, q2, k6, s1, s2, s3, w1, w1k, d1, d2, d2k, u1, u2, w2, w3, i1, i2, q5]
end DS.K81
namespace DS.K81
open PySem DS

/-! ### one turn of the law -/
theorem apart_congr {W W' : List (Nat × Nat)} (e : W.map Prod.fst = W'.map Prod.fst) (h : Apart W) : Apart W' := by
  have key : ∀ (i : Nat) (x : Nat × Nat), W'[i]? = some x → ∃ y : Nat × Nat, W[i]? = some y ∧ y.1 = x.1 := by
    intro i x hx
    have h1 : (W'.map Prod.fst)[i]? = some x.1 := by rw [List.getElem?_map, hx]; rfl
    rw [← e, List.getElem?_map, Option.map_eq_some_iff] at h1
    exact h1
  intro i x y hx hy
  obtain ⟨x', hx', ex⟩ := key i x hx
  obtain ⟨y', hy', ey⟩ := key (i + 1) y hy
  have := h i x' y' hx' hy'
  rw [ex, ey] at this
  exact this
theorem good_end {P : List (Nat × Nat)} {q : Nat × Nat} (h : Good (P ++ [q])) : Good (P ++ [(q.1, q.2 % 9 + 2)]) := by
  refine ⟨by simp, ⟨fun r hr => ?_, by simpa using h.ok.2⟩, apart_congr (by simp) h.ap⟩
  rcases List.mem_append.mp hr with hr | hr
  · exact h.ok.1 r (by simp [hr])
  · simp only [List.mem_cons, List.not_mem_nil, or_false] at hr
    subst hr
    have hq := h.ok.1 q (by simp)
    exact ⟨hq.1, hq.2.1, by show 1 ≤ q.2 % 9 + 2; omega, by show q.2 % 9 + 2 < 10 ^ 60; exact Nat.lt_of_lt_of_le (by omega : _ < 100) (by decide)⟩
theorem good_more {P : List (Nat × Nat)} {q : Nat × Nat} (h : Good (P ++ [q])) (hl : (P ++ [q]).length < 200) : Good (P ++ [q] ++ [(q.1 % 60 + 1, 1)]) := by
  have hq := h.ok.1 q (by simp)
  refine ⟨by simp, ⟨fun r hr => ?_, by rw [List.length_append, List.length_singleton]; omega⟩, apart_snoc h.ap fun q' e => ?_⟩
  · rcases List.mem_append.mp hr with hr | hr
    · exact h.ok.1 r hr
    · simp only [List.mem_cons, List.not_mem_nil, or_false] at hr
      subst hr
      exact ⟨by show 1 ≤ q.1 % 60 + 1; omega, by show q.1 % 60 + 1 ≤ 60; omega, Nat.le_refl _, by show 1 < 10 ^ 60; decide⟩
  · rw [List.getLast?_append, List.getLast?_singleton] at e
    cases e
    show q.1 ≠ q.1 % 60 + 1
    have := hq.1; have := hq.2.1
    omega
noncomputable abbrev turnBody (a : Ad) : MS := (sSeq (sSet 2 (mCall (p__law_runs a) (aCons (mVar 3) (aCons (mBin fAdd (mC (.int 1)) (mCall (p__law_next a) (aCons (mVar 3) (aCons (mBin fIx (mLst (aCons (mC (.int 3)) (aCons (mC (.int 20)) (aCons (mC (.int 200)) aNil)))) (mVar 4)) aNil)))) aNil))))
    (sSeq (sIf (mOrB (mNotB (mTru (mCall (p__law_word_right a) (aCons (mVar 2) aNil)))) (mNotB (mTru (mCall (p__law_system_right a) (aCons (mCall (p__law_scale a) (aCons (mVar 3) (aCons (mC (.int 6)) aNil))) (aCons (mCall (p__law_kind a) (aCons (mVar 3) aNil)) aNil))))))
    (sRet (mC (.bl false)))
    sNext)
    (sSeq (sPut (mVar 2) (mNeg (mC (.int 1))) (mTup (aCons (mBin fIx (mBin fIx (mVar 2) (mNeg (mC (.int 1)))) (mC (.int 0))) (aCons (mBin fAdd (mBin fMod (mBin fIx (mBin fIx (mVar 2) (mNeg (mC (.int 1)))) (mC (.int 1))) (mC (.int 9))) (mC (.int 2))) aNil))))
    (sSeq (sIf (mCmpB (fCmp pLt) (fnN (f1 fLen) (o1 (mVar 2))) (mC (.int 200)))
    (sDrop (mMeth gAppend (mVar 2) (aCons (mTup (aCons (mBin fAdd (mBin fMod (mBin fIx (mBin fIx (mVar 2) (mNeg (mC (.int 1)))) (mC (.int 0))) (mC (.int 60))) (mC (.int 1))) (aCons (mC (.int 1)) aNil))) aNil)))
    sNext)
    (sIf (mNotB (mTru (mCall (p__law_word_right a) (aCons (mVar 2) aNil))))
    (sRet (mC (.bl false)))
    sNext)))))
theorem law_turn (a : Ad) (n t : Nat) (m : Int) (cs : List Cont) (x0 x1 x2 x5 : Option SV) (h : Tape cs n m) (h0 : 0 ≤ m) (hm : m ≤ 10 ^ 6) (ht : t < 3) :
    ∃ cs' y2, turnBody a ⟨cs, [x0, x1, x2, some (.fz (.ref n)), some (.fz (.int t)), x5]⟩ = .next ⟨cs', [x0, x1, y2, some (.fz (.ref n)), some (.fz (.int t)), x5]⟩ ∧ Tape cs' n (m + 2000) := by
  -- how many runs
  obtain ⟨size, kt, hs1, hs2⟩ : ∃ size : Int, (∀ s, fIx s (.val (.lst [.int 3, .int 20, .int 200])) (.val (.int t)) = some (vI size)) ∧ 0 < size ∧ size ≤ 200 := by
    rcases (by omega : t = 0 ∨ t = 1 ∨ t = 2) with rfl | rfl | rfl
    · exact ⟨3, fun s => fIx_ok (xs := [.int 3, .int 20, .int 200]) (by simp) rfl, by decide, by decide⟩
    · exact ⟨20, fun s => fIx_ok (xs := [.int 3, .int 20, .int 200]) (by simp) rfl, by decide, by decide⟩
    · exact ⟨200, fun s => fIx_ok (xs := [.int 3, .int 20, .int 200]) (by simp) rfl, by decide, by decide⟩
  obtain ⟨r, c1, e1, p0, p1, T1, K1⟩ := ev_next a n size m cs h (by omega) hs1 (by omega)
  have e1 : p__law_next a [.ref n, .int size] cs = .ok (.val (.int r)) c1 := e1
  obtain ⟨c2, W, e2, g2, D2, hl2⟩ := ev_runs a n (1 + r).toNat (m + 1) c1 T1 (by omega) (by omega) (by omega) (by omega)
  rw [show (((1 + r).toNat : Nat) : Int) = 1 + r by omega] at e2
  have hn1 := T1.lt
  obtain ⟨w, hw⟩ : ∃ w, w = c1.length := ⟨_, rfl⟩
  rw [← hw] at e2 hn1
  have f2 : c2[w]? = some (.lst (W.map rD)) := by rw [hw]; exact D2.fnd
  have T2 := D2.tape
  clear D2 hw
  -- the word
  obtain ⟨ex3, e3⟩ := ev_word_right a W (.ref w) c2 (IsW.ref f2) g2
  have T3 := T2.more ex3
  have f3 : (c2 ++ ex3)[w]? = some (.lst (W.map rD)) := by
    obtain ⟨hl, _⟩ := List.getElem?_eq_some_iff.mp f2
    rw [List.getElem?_append_left hl]; exact f2
  generalize c2 ++ ex3 = c3 at e3 T3 f3
  -- the system
  obtain ⟨vs, c4, e4, sc, T4, K4⟩ := ev_scale a n _ c3 T3 (by omega) (by omega)
  obtain ⟨kd, c5, e5, hkd, T5, K5⟩ := ev_kind a n _ c4 T4 (by omega)
  have hk : IsKind kd := by simpa [kinds, IsKind] using hkd
  obtain ⟨ex6, e6⟩ := ev_system_right a vs kd c5 sc hk
  have f5 : c5[w]? = some (.lst (W.map rD)) := by rw [K5.at_ w (by omega), K4.at_ w (by omega)]; exact f3
  have T6 := T5.more ex6
  have f6 : (c5 ++ ex6)[w]? = some (.lst (W.map rD)) := by
    obtain ⟨hl, _⟩ := List.getElem?_eq_some_iff.mp f5
    rw [List.getElem?_append_left hl]; exact f5
  generalize c5 ++ ex6 = c6 at e6 T6 f6
  -- its end changed
  obtain ⟨P, q, rfl⟩ : ∃ P q, W = P ++ [q] := ⟨W.dropLast, W.getLast g2.ne, (List.dropLast_concat_getLast g2.ne).symm⟩
  have g7 := good_end g2
  obtain ⟨hl6, _⟩ := List.getElem?_eq_some_iff.mp f6
  have ix6 : ∀ sl, fIx ⟨c6, sl⟩ (.val (.ref w)) (.val (.int (-1))) = some (.opd (.val (rD q))) := fun sl => ix_last f6
  have ixs : ∀ (s : DS.S) (q : Nat × Nat), fIx s (.val (rD q)) (.val (.int 0)) = some (vI q.1) := fun s q => ix_sign
  have ixc : ∀ (s : DS.S) (q : Nat × Nat), fIx s (.val (rD q)) (.val (.int 1)) = some (vI q.2) := fun s q => fIx_ok (xs := [.int q.1, .int q.2]) (by simp [rD]) (by simp)
  have md9 : ∀ s : DS.S, fMod s (.val (.int (q.2 : Int))) (.val (.int 9)) = some (vI ((q.2 : Int) % 9)) := fun s => fMod_int (by decide)
  have md60 : ∀ s : DS.S, fMod s (.val (.int (q.1 : Int))) (.val (.int 60)) = some (vI ((q.1 : Int) % 60)) := fun s => fMod_int (by decide)
  have put7 : ∀ sl, mutC (.val (.ref w)) (onL gSetAt [.int (-1), .tup [.int q.1, .int ((q.2 : Int) % 9 + 2)]]) ⟨c6, sl⟩ = .ok (.opd (.val .non)) ⟨c6.set w (.lst ((P ++ [(q.1, q.2 % 9 + 2)]).map rD)), sl⟩ := fun sl => by
    have hix : L2.ixN ((P ++ [q]).map rD).length (-1) = some P.length := by
      unfold L2.ixN
      simp
      omega
    rw [put_ref (s := ⟨c6, sl⟩) f6 hix]
    simp [rD]
  have f7 : (c6.set w (.lst ((P ++ [(q.1, q.2 % 9 + 2)]).map rD)))[w]? = some (.lst ((P ++ [(q.1, q.2 % 9 + 2)]).map rD)) := List.getElem?_set_self hl6
  have T7 : Tape (c6.set w (.lst ((P ++ [(q.1, q.2 % 9 + 2)]).map rD))) n _ := T6.of (List.getElem?_set_ne (by omega))
  generalize c6.set w (.lst ((P ++ [(q.1, q.2 % 9 + 2)]).map rD)) = c7 at put7 f7 T7
  have hq1 := (g2.ok.1 q (by simp)).1
  obtain ⟨q', hq', eq'⟩ : ∃ q' : Nat × Nat, q' = (q.1, q.2 % 9 + 2) ∧ q'.1 = q.1 := ⟨_, rfl, rfl⟩
  rw [← hq'] at g7 f7
  have ix7 : ∀ sl, fIx ⟨c7, sl⟩ (.val (.ref w)) (.val (.int (-1))) = some (.opd (.val (rD q'))) := fun sl => ix_last f7
  have len7 : ∀ sl, f1 fLen ⟨c7, sl⟩ [.val (.ref w)] = some (vI ((P ++ [q']).length : Nat)) := fun sl => by
    rw [fLen_seq (xs := (P ++ [q']).map rD) (by simp [f7])]; simp
  have md60 : ∀ s : DS.S, fMod s (.val (.int (q'.1 : Int))) (.val (.int 60)) = some (vI ((q'.1 : Int) % 60)) := fun s => fMod_int (by decide)
  obtain ⟨hl7, _⟩ := List.getElem?_eq_some_iff.mp f7
  have hle := g7.ok.2
  by_cases hlen : (P ++ [q']).length < 200
  · have g8 := good_more g7 hlen
    have zz : ((P ++ [q']).map rD).length < sizeLine := by rw [List.length_map]; exact Nat.lt_trans hlen (by decide)
    have m1 : ∀ sl args, mthR gAppend args (.val (.ref w)) ⟨c7, sl⟩ = R.bd (args ⟨c7, sl⟩) (mthR2 gAppend (.val (.ref w))) := fun sl args => mthR_ev (xs := (P ++ [q']).map rD) (by simp [f7])
    have m2 : ∀ sl, mthR2 gAppend (.val (.ref w)) [.tup [.int ((q'.1 : Int) % 60 + 1), .int 1]] ⟨c7, sl⟩ = .ok (.opd (.val .non)) ⟨c7.set w (.lst ((P ++ [q'] ++ [(q'.1 % 60 + 1, 1)]).map rD)), sl⟩ := fun sl => by
      rw [mthR2_ref (xs := (P ++ [q']).map rD) (ys := (P ++ [q']).map rD ++ [.tup [.int ((q'.1 : Int) % 60 + 1), .int 1]]) (r := vN) f7 (by
        unfold gAppend
        dsimp only
        rw [if_pos zz])]
      have e : (P ++ [q'] ++ [(q'.1 % 60 + 1, 1)]).map rD = (P ++ [q']).map rD ++ [.tup [.int ((q'.1 : Int) % 60 + 1), .int 1]] := by
        rw [List.map_append]; rfl
      rw [e]; rfl
    have f8 : (c7.set w (.lst ((P ++ [q'] ++ [(q'.1 % 60 + 1, 1)]).map rD)))[w]? = some (.lst ((P ++ [q'] ++ [(q'.1 % 60 + 1, 1)]).map rD)) := List.getElem?_set_self hl7
    have T8 : Tape (c7.set w (.lst ((P ++ [q'] ++ [(q'.1 % 60 + 1, 1)]).map rD))) n _ := T7.of (List.getElem?_set_ne (by omega))
    generalize c7.set w (.lst ((P ++ [q'] ++ [(q'.1 % 60 + 1, 1)]).map rD)) = c8 at m2 f8 T8
    obtain ⟨ex9, e9⟩ := ev_word_right a _ (.ref w) c8 (IsW.ref f8) g8
    have T9 := T8.more ex9
    generalize c8 ++ ex9 = c9 at e9 T9
    refine ⟨c9, some (.fz (.ref w)), ?_, T9.le (by omega)⟩
    have i1 : (((P ++ [q']).length : Nat) : Int) < 200 := by omega
    generalize (((P ++ [q']).length : Nat) : Int) = ln at len7 i1
    generalize vs.map D.int = tv at e4 e6
    rw [eq'] at m2 md60
    simp [turnBody, kt, e1, e2, e3, e4, e5, e6, ix6, ixs, ixc, md9, put7, len7, i1, ix7, eq', md60, m1, m2, e9]
  · obtain ⟨ex9, e9⟩ := ev_word_right a _ (.ref w) c7 (IsW.ref f7) g7
    have T9 := T7.more ex9
    generalize c7 ++ ex9 = c9 at e9 T9
    refine ⟨c9, some (.fz (.ref w)), ?_, T9.le (by omega)⟩
    have i1 : ¬ (((P ++ [q']).length : Nat) : Int) < 200 := by omega
    generalize (((P ++ [q']).length : Nat) : Int) = ln at len7 i1
    generalize vs.map D.int = tv at e4 e6
    simp [turnBody, kt, e1, e2, e3, e4, e5, e6, ix6, ixs, ixc, md9, put7, len7, i1, e9]
end DS.K81
namespace DS.K81
open PySem DS

/-! ### the law's loops -/
theorem law_inner (a : Ad) (n : Nat) (cs : List Cont) (x0 x1 x2 x4 x5 : Option SV) (h : Tape cs n 0) :
    ∃ cs' y2 y4, sForM (mRange1 (aCons (mC (.int 3)) aNil)) (gSet 4) (turnBody a) ⟨cs, [x0, x1, x2, some (.fz (.ref n)), x4, x5]⟩ = .next ⟨cs', [x0, x1, y2, some (.fz (.ref n)), y4, x5]⟩ := by
  obtain ⟨s', e1, cs', y2, y4, e2, _⟩ := sFor_inv (chk := fun _ => True) (g := gSet 4) (body := turnBody a) (xs := rngD 0 3)
    (fun i s => ∃ cs' y2 y4, s = (⟨cs', [x0, x1, y2, some (.fz (.ref n)), y4, x5]⟩ : DS.S) ∧ Tape cs' n (2000 * i)) (fun _ _ _ _ => trivial)
    (fun i d s hd ⟨cs', y2, y4, e, T⟩ => by
      subst e
      obtain ⟨hi, rfl⟩ := rngD_at hd
      obtain ⟨c2, z2, e2, T2⟩ := law_turn a n i (2000 * i) cs' x0 x1 y2 x5 T (by omega) (by omega) hi
      refine ⟨_, rfl, ⟨c2, [x0, x1, z2, some (.fz (.ref n)), some (.fz (.int i)), x5]⟩, .inl ?_, c2, z2, _, rfl, T2.le (by push_cast; omega)⟩
      rw [show ((0 : Int) + i) = i by omega]
      exact e2)
    (s := ⟨cs, [x0, x1, x2, some (.fz (.ref n)), x4, x5]⟩) ⟨cs, x2, x4, rfl, by simpa using h⟩
  subst e2
  refine ⟨cs', y2, y4, ?_⟩
  have rg : rg1 [.int 3] ⟨cs, [x0, x1, x2, some (.fz (.ref n)), x4, x5]⟩ = .ok ⟨rngD 0 3, fun _ => True⟩ ⟨cs, [x0, x1, x2, some (.fz (.ref n)), x4, x5]⟩ := rg1_ok (by decide) (by decide)
  have q3 : (aCons (mC (.int 3)) aNil) ⟨cs, [x0, x1, x2, some (.fz (.ref n)), x4, x5]⟩ = .ok [.int 3] ⟨cs, [x0, x1, x2, some (.fz (.ref n)), x4, x5]⟩ := by simp
  rw [ev_forM, ev_range1, q3, R.bd_ok, rg, R.ts_ok, forS_ev]
  exact e1
noncomputable abbrev lawHead (a : Ad) : MS := (sForM (mRange1 (aCons (fnN fMax2 (oCons (mC (.int 1)) (o1 (fnN fMin2 (oCons (mC (.int 4)) (o1 (fnN (f1 fLen) (o1 (mVar 0))))))))) aNil)) (gSet 1)
    (sSeq (sSet 3 (mCall (p__law_tape a) (aCons (mVar 0) (aCons (mVar 1) aNil))))
    (sForM (mRange1 (aCons (mC (.int 3)) aNil)) (gSet 4) (turnBody a))))
theorem law_outer (a : Ad) (ns : List Int) (hn : ns.length ≤ 63) :
    ∃ cs' y1 y2 y3 y4, lawHead a ⟨[], [some (.fz (.klst (ns.map D.int))), none, none, none, none, none]⟩ = .next ⟨cs', [some (.fz (.klst (ns.map D.int))), y1, y2, y3, y4, none]⟩ := by
  obtain ⟨top, htop, h4⟩ : ∃ top : Int, top = (if (if (ns.length : Int) < 4 then (ns.length : Int) else 4) > 1 then (if (ns.length : Int) < 4 then (ns.length : Int) else 4) else 1) ∧ 0 ≤ top ∧ top ≤ 4 := ⟨_, rfl, by split <;> split <;> omega, by split <;> split <;> omega⟩
  obtain ⟨s', e1, cs', y1, y2, y3, y4, e2⟩ := sFor_inv (chk := fun _ => True) (g := gSet 1) (body := (sSeq (sSet 3 (mCall (p__law_tape a) (aCons (mVar 0) (aCons (mVar 1) aNil))))
    (sForM (mRange1 (aCons (mC (.int 3)) aNil)) (gSet 4) (turnBody a)))) (xs := rngD 0 top.toNat)
    (fun i s => ∃ cs' y1 y2 y3 y4, s = (⟨cs', [some (.fz (.klst (ns.map D.int))), y1, y2, y3, y4, none]⟩ : DS.S)) (fun _ _ _ _ => trivial)
    (fun i d s hd ⟨cs', y1, y2, y3, y4, e⟩ => by
      subst e
      obtain ⟨hi, rfl⟩ := rngD_at hd
      rw [show ((0 : Int) + i) = i by omega]
      obtain ⟨c, e3, T⟩ := ev_tape a ns i cs' (by omega)
      obtain ⟨c2, z2, z4, e4⟩ := law_inner a cs'.length (cs' ++ [c]) (some (.fz (.klst (ns.map D.int)))) (some (.fz (.int i))) y2 y4 none T
      refine ⟨_, rfl, _, .inl ?_, c2, some (.fz (.int i)), z2, some (.fz (.ref cs'.length)), z4, rfl⟩
      generalize (sForM (mRange1 (aCons (mC (.int 3)) aNil)) (gSet 4) (turnBody a)) = inner at e4 ⊢
      generalize ns.map D.int = t at e3 e4 ⊢
      simp [e3, e4])
    (s := ⟨[], [some (.fz (.klst (ns.map D.int))), none, none, none, none, none]⟩) ⟨[], none, none, none, none, rfl⟩
  subst e2
  refine ⟨cs', y1, y2, y3, y4, ?_⟩
  have q3 : (aCons (fnN fMax2 (oCons (mC (.int 1)) (o1 (fnN fMin2 (oCons (mC (.int 4)) (o1 (fnN (f1 fLen) (o1 (mVar 0))))))))) aNil) ⟨[], [some (.fz (.klst (ns.map D.int))), none, none, none, none, none]⟩ = .ok [.int top] ⟨[], [some (.fz (.klst (ns.map D.int))), none, none, none, none, none]⟩ := by
    have k1 := fun s => len_ints (s := s) (ns := ns)
    generalize ns.map D.int = t at k1 ⊢
    simp [k1, htop]
  have rg : ∀ s, rg1 [.int top] s = .ok ⟨rngD 0 top.toNat, fun _ => True⟩ s := fun s => rg1_ok (by omega) (by omega)
  unfold lawHead
  rw [ev_forM, ev_range1, q3, R.bd_ok, rg, R.ts_ok, forS_ev]
  exact e1
/-! ### the long word -/
def bigA : List (Nat × Nat) := (List.range 2).map fun i => (1 + i % 2, 10 ^ 60 - 1)
def bigB : List (Nat × Nat) := (List.range 198).map fun i => (1 + i % 2, 1)
theorem big_good : Good (bigA ++ bigB) := by
  refine ⟨by decide, ⟨fun r hr => ?_, by decide⟩, ?_⟩
  · rcases List.mem_append.mp hr with hr | hr
    · simp only [bigA, List.mem_map] at hr
      obtain ⟨i, _, rfl⟩ := hr
      exact ⟨by show 1 ≤ 1 + i % 2; omega, by show 1 + i % 2 ≤ 60; omega, by show 1 ≤ 10 ^ 60 - 1; decide, by show 10 ^ 60 - 1 < 10 ^ 60; decide⟩
    · simp only [bigB, List.mem_map] at hr
      obtain ⟨i, _, rfl⟩ := hr
      exact ⟨by show 1 ≤ 1 + i % 2; omega, by show 1 + i % 2 ≤ 60; omega, Nat.le_refl 1, by show 1 < 10 ^ 60; decide⟩
  · refine apart_congr (W := (List.range 200).map fun i => (1 + i % 2, 1)) ?_ ?_
    · decide
    · intro i x y hx hy
      simp only [List.getElem?_map, Option.map_eq_some_iff] at hx hy
      obtain ⟨i1, h1, rfl⟩ := hx
      obtain ⟨i2, h2, rfl⟩ := hy
      obtain ⟨_, h1⟩ := List.getElem?_eq_some_iff.mp h1
      obtain ⟨_, h2⟩ := List.getElem?_eq_some_iff.mp h2
      rw [List.getElem_range] at h1 h2
      subst h1 h2
      show 1 + i % 2 ≠ 1 + (i + 1) % 2
      omega
theorem lc_big (cs : List Cont) (x0 x1 x2 x3 x4 : Option SV) (N C : Nat) (e : M RV) (hN : N ≤ 198) (he : ∀ s, fc e s = .ok (.int C) s) :
    lcRun (gSet 5) mYes (fc (mTup (aCons (mBin fAdd (mC (.int 1)) (mBin fMod (mVar 5) (mC (.int 2)))) (aCons e aNil)))) [5] ⟨rngD 0 N, fun _ => True⟩ ⟨cs, [x0, x1, x2, x3, x4, none]⟩ =
      .ok (.own (.lst (((List.range N).map fun i => (1 + i % 2, C)).map rD))) ⟨cs, [x0, x1, x2, x3, x4, none]⟩ := by
  rw [lcRun_map1 (fun d => match d with | .int i => .tup [.int (1 + i % 2), .int C] | _ => .non) (by rw [rngD_length]; exact Nat.le_trans hN (by decide)) rfl (fun _ => trivial)]
  · simp [rngD, rD, Function.comp_def]
  · intro d hd
    obtain ⟨i, hi⟩ := List.getElem?_of_mem hd
    obtain ⟨_, rfl⟩ := rngD_at hi
    have k1 : ∀ s, fMod s (.val (.int (0 + i))) (.val (.int 2)) = some (vI ((0 + i : Int) % 2)) := fun s => fMod_int (by decide)
    generalize (0 + i : Int) = j at k1 ⊢
    simp only [ev_fc, ev_fz] at he
    simp [k1, he]
noncomputable def lcA : M RV := (mLc (mRange1 (aCons (mC (.int 2)) aNil)) (gSet 5) mYes (mTup (aCons (mBin fAdd (mC (.int 1)) (mBin fMod (mVar 5) (mC (.int 2)))) (aCons (mBin fSub (mBin fMul (mBin fPow (mC (.int 10)) (mC (.int 30))) (mBin fPow (mC (.int 10)) (mC (.int 30)))) (mC (.int 1))) aNil))) [5])
noncomputable def lcB : M RV := (mLc (mRange1 (aCons (mC (.int 198)) aNil)) (gSet 5) mYes (mTup (aCons (mBin fAdd (mC (.int 1)) (mBin fMod (mVar 5) (mC (.int 2)))) (aCons (mC (.int 1)) aNil))) [5])
theorem law_true (a : Ad) : LawTrue (p_law a) 63 := by
  intro ns hn
  obtain ⟨cs, y1, y2, y3, y4, e1⟩ := law_outer a ns hn
  have w := ev_word_right a (bigA ++ bigB) (.lst ((bigA ++ bigB).map rD)) cs (.inl rfl) big_good
  obtain ⟨ex, e2⟩ := w
  refine ⟨cs ++ ex, ?_⟩
  have e3 : p_write_word a [.lst [.tup [.int 1, .int 2], .tup [.int 10, .int 1]]] (cs ++ ex) = .ok (.val (.str "1*2 10")) (cs ++ ex) := by
    have := ev_write_word a [(1, 2), (10, 1)] (.lst ([(1, 2), (10, 1)].map rD)) (cs ++ ex) (IsW.ov (W := [(1, 2), (10, 1)]) (.inl rfl)) ⟨by
      intro r hr
      simp only [List.mem_cons, List.not_mem_nil, or_false] at hr
      rcases hr with rfl | rfl <;> exact ⟨by decide, by decide, by decide, by decide⟩, by decide⟩
    rw [show Tx (wT [(1, 2), (10, 1)]) = "1*2 10" by decide] at this
    exact this
  have v2 : ∀ s, fPow s (.val (.int 10)) (.val (.int 30)) = some (vI (10 ^ 30)) := fun s => fPow_int (by decide)
  have v3 : ∀ s, fMul s (.val (.int (10 ^ 30))) (.val (.int (10 ^ 30))) = some (vI (10 ^ 30 * 10 ^ 30)) := fun s => fMul_int (.inr (.inr (by decide)))
  simp only [Int.reducePow, Int.reduceMul] at v2 v3
  have he : ∀ s, fc (mBin fSub (mBin fMul (mBin fPow (mC (.int 10)) (mC (.int 30))) (mBin fPow (mC (.int 10)) (mC (.int 30)))) (mC (.int 1))) s = .ok (.int (10 ^ 60 - 1 : Nat)) s := fun s => by
    simp [v2, v3]
  have he1 : ∀ s, fc (mC (.int 1)) s = .ok (.int (1 : Nat)) s := fun s => by simp
  have b1 := lc_big cs (some (.fz (.klst (ns.map D.int)))) y1 y2 y3 y4 2 (10 ^ 60 - 1) _ (by decide) he
  have b2 := lc_big cs (some (.fz (.klst (ns.map D.int)))) y1 y2 y3 y4 198 1 _ (by decide) he1
  have rg : ∀ (j : Int) s, 0 ≤ j → j < 1000 → rg1 [.int j] s = .ok ⟨rngD 0 j.toNat, fun _ => True⟩ s := fun j s h1 h2 => rg1_ok (by omega) (by omega)
  have ad : ∀ s, fAdd s (.val (.lst (bigA.map rD))) (.val (.lst (bigB.map rD))) = some (.lst ((bigA ++ bigB).map rD)) := fun s => by
    rw [fAdd_lst (xs := bigA.map rD) (ys := bigB.map rD) (by simp) (by simp) (by
      rw [List.length_map, List.length_map]
      have : bigA.length + bigB.length ≤ 200 := by decide
      exact Nat.le_trans this (by decide)), List.map_append]
  have q1 : ∀ (N C : Nat) (e : M RV) (L : List D), N < 1000 → lcRun (gSet 5) mYes (fc (mTup (aCons (mBin fAdd (mC (.int 1)) (mBin fMod (mVar 5) (mC (.int 2)))) (aCons e aNil)))) [5] ⟨rngD 0 N, fun _ => True⟩ ⟨cs, [some (.fz (.klst (ns.map D.int))), y1, y2, y3, y4, none]⟩ = .ok (.own (.lst L)) ⟨cs, [some (.fz (.klst (ns.map D.int))), y1, y2, y3, y4, none]⟩ →
      mLc (mRange1 (aCons (mC (.int N)) aNil)) (gSet 5) mYes (mTup (aCons (mBin fAdd (mC (.int 1)) (mBin fMod (mVar 5) (mC (.int 2)))) (aCons e aNil))) [5] ⟨cs, [some (.fz (.klst (ns.map D.int))), y1, y2, y3, y4, none]⟩ = .ok (.own (.lst L)) ⟨cs, [some (.fz (.klst (ns.map D.int))), y1, y2, y3, y4, none]⟩ := by
    intro N C e L hN hL
    have q3 : (aCons (mC (.int N)) aNil) ⟨cs, [some (.fz (.klst (ns.map D.int))), y1, y2, y3, y4, none]⟩ = .ok [.int N] ⟨cs, [some (.fz (.klst (ns.map D.int))), y1, y2, y3, y4, none]⟩ := by simp
    rw [ev_lc, ev_range1, q3, R.bd_ok, rg _ _ (by omega) (by omega), R.bd_ok]
    exact hL
  have c1 : lcA ⟨cs, [some (.fz (.klst (ns.map D.int))), y1, y2, y3, y4, none]⟩ = .ok (.own (.lst (bigA.map rD))) ⟨cs, [some (.fz (.klst (ns.map D.int))), y1, y2, y3, y4, none]⟩ := q1 2 0 _ _ (by decide) b1
  have c2 : lcB ⟨cs, [some (.fz (.klst (ns.map D.int))), y1, y2, y3, y4, none]⟩ = .ok (.own (.lst (bigB.map rD))) ⟨cs, [some (.fz (.klst (ns.map D.int))), y1, y2, y3, y4, none]⟩ := q1 198 0 _ _ (by decide) b2
  change finR (sSeq (lawHead a) (sSeq (sSet 2 (mBin fAdd lcA lcB)) (sRet (mAnd (mCall (p__law_word_right a) (aCons (mVar 2) aNil)) (mBin fEq (mCall (p_write_word a) (aCons (mLst (aCons (mTup (aCons (mC (.int 1)) (aCons (mC (.int 2)) aNil))) (aCons (mTup (aCons (mC (.int 10)) (aCons (mC (.int 1)) aNil))) aNil))) aNil)) (mC (.str "1*2 10")))))) ⟨[], [some (.fz (.klst (ns.map D.int))), none, none, none, none, none]⟩) = _
  generalize lawHead a = hd at e1 ⊢
  generalize lcA = lA at c1 ⊢
  generalize lcB = lB at c2 ⊢
  generalize bigA.map rD = wA at *
  generalize bigB.map rD = wB at *
  generalize (bigA ++ bigB).map rD = wC at *
  generalize ns.map D.int = t at *
  simp [e1, c1, c2, ad, e2, e3]
end DS.K81
namespace DS.K81
open PySem L2 PySem.Spec PyProof.Rows DS
section
variable {P : Program} {w : World} {K : PySem.W.Frag} {mg : Str → Option Value} {base : Heap} {a : Ad}
theorem sc__law_tape : FnScope ["_law_script", "_law_k", "_law_cell"] ["_law_script", "_law_k"] (defScope s__law_tape) := ⟨rfl, rfl, rfl, by decide +kernel, rfl, by decide +kernel, by decide +kernel⟩
set_option maxRecDepth 100000 in
theorem d__law_tape (T : Fx K mg a) {f : Addr} {cd : Value} (A : Around) (outer : List Env) (s : Shared) (H : Hp) (E : XK) (hr : RoomG 0 (A.deeper (envOfC "_law_tape" (defScope s__law_tape) s.heap.objs.size f cd))) :
    DSs (cxOf (L2.CX P w) P w K mg base ["_law_script", "_law_k", "_law_cell"] "_law_tape" (defScope s__law_tape) f cd A outer s H E) (fun cls d _ H => E cls d H) (defBody s__law_tape) (m__law_tape a) := by
  have tk := takes_cx (P := P) (w := w) (K := K) (mg := mg) (base := base) (N := ["_law_script", "_law_k", "_law_cell"]) (qual := "_law_tape") (scope := defScope s__law_tape) (f := f) (cd := cd) (A := A) (outer := outer) (s := s) (H := H) (E := E)
  unfold m__law_tape
  exact (dss_cons (ds_set sc__law_tape.nd (i := 2) rfl (by first | exact .inl rfl | exact .inr rfl) (dp_if (tCmp kLt (dp_var (i := 1) rfl (by first | exact .inl rfl | exact .inr (.inl rfl) | exact .inr (.inr rfl))) (c_len T.b_len (dp_var (i := 0) rfl (by first | exact .inl rfl | exact .inr (.inl rfl) | exact .inr (.inr rfl))))) (c_abs T.b_abs (bIx (dp_var (i := 0) rfl (by first | exact .inl rfl | exact .inr (.inl rfl) | exact .inr (.inr rfl))) (dp_var (i := 1) rfl (by first | exact .inl rfl | exact .inr (.inl rfl) | exact .inr (.inr rfl))))) dp_int))
    (dss_one (ds_ret (dp_share (dp_lst (da_cons (c_max rfl T.b_max dp_int (bBin kSub (dp_var (i := 2) rfl (by first | exact .inl rfl | exact .inr (.inl rfl) | exact .inr (.inr rfl))) (bBin kPow dp_int dp_int))) (da_cons (bBin kAdd (bBin kMul (bBin kMod (dp_var (i := 2) rfl (by first | exact .inl rfl | exact .inr (.inl rfl) | exact .inr (.inr rfl))) (bBin kAdd (bBin kPow dp_int dp_int) dp_int)) dp_int) (dp_var (i := 1) rfl (by first | exact .inl rfl | exact .inr (.inl rfl) | exact .inr (.inr rfl)))) (da_cons dp_int da_nil))))))))
theorem g__law_tape (T : Fx K mg a) : FnG P w K mg base 1 a.f__law_tape [] (p__law_tape a) := by
  obtain ⟨oc, od, kV, doc, pm, an, cd, ct, osl, lk, hc⟩ := T.l__law_tape
  exact fnG_of lk hc sc__law_tape Perm.id (hb0 fun s us hl => match us, hl with | [_, _], _ => .of_eq rfl) (fun A outer s H E hr => d__law_tape T A outer s H E hr)
theorem sc__law_next : FnScope ["_law_tape_here", "_law_size", "_law_mixed", "_law_digit"] ["_law_tape_here", "_law_size"] (defScope s__law_next) := ⟨rfl, rfl, rfl, by decide +kernel, rfl, by decide +kernel, by decide +kernel⟩
set_option maxRecDepth 100000 in
theorem d__law_next (T : Fx K mg a) {f : Addr} {cd : Value} (A : Around) (outer : List Env) (s : Shared) (H : Hp) (E : XK) (hr : RoomG 0 (A.deeper (envOfC "_law_next" (defScope s__law_next) s.heap.objs.size f cd))) :
    DSs (cxOf (L2.CX P w) P w K mg base ["_law_tape_here", "_law_size", "_law_mixed", "_law_digit"] "_law_next" (defScope s__law_next) f cd A outer s H E) (fun cls d _ H => E cls d H) (defBody s__law_next) (m__law_next a) := by
  have tk := takes_cx (P := P) (w := w) (K := K) (mg := mg) (base := base) (N := ["_law_tape_here", "_law_size", "_law_mixed", "_law_digit"]) (qual := "_law_next") (scope := defScope s__law_next) (f := f) (cd := cd) (A := A) (outer := outer) (s := s) (H := H) (E := E)
  unfold m__law_next
  exact (dss_cons (ds_if (tCmp kGt (bIx (dp_var (i := 0) rfl (by first | exact .inl rfl | exact .inr (.inl rfl) | exact .inr (.inr rfl))) dp_int) dp_int)
    (dss_cons (ds_set sc__law_next.nd (i := 3) rfl (by first | exact .inl rfl | exact .inr rfl) (bBin kMod (bIx (dp_var (i := 0) rfl (by first | exact .inl rfl | exact .inr (.inl rfl) | exact .inr (.inr rfl))) dp_int) (dp_var (i := 1) rfl (by first | exact .inl rfl | exact .inr (.inl rfl) | exact .inr (.inr rfl)))))
    (dss_cons (ds_put (dp_var (i := 0) rfl (by first | exact .inl rfl | exact .inr (.inl rfl) | exact .inr (.inr rfl))) dp_int (bBin kDiv (bIx (dp_var (i := 0) rfl (by first | exact .inl rfl | exact .inr (.inl rfl) | exact .inr (.inr rfl))) dp_int) (dp_var (i := 1) rfl (by first | exact .inl rfl | exact .inr (.inl rfl) | exact .inr (.inr rfl)))))
    (dss_one (ds_ret (dp_var (i := 3) rfl (by first | exact .inl rfl | exact .inr (.inl rfl) | exact .inr (.inr rfl)))))))
    dss_nil)
    (dss_cons (ds_put (dp_var (i := 0) rfl (by first | exact .inl rfl | exact .inr (.inl rfl) | exact .inr (.inr rfl))) dp_int (bBin kAdd (bIx (dp_var (i := 0) rfl (by first | exact .inl rfl | exact .inr (.inl rfl) | exact .inr (.inr rfl))) dp_int) dp_int))
    (dss_cons (ds_set sc__law_next.nd (i := 2) rfl (by first | exact .inl rfl | exact .inr rfl) (bBin kMod (bBin kPow (bBin kAdd (bIx (dp_var (i := 0) rfl (by first | exact .inl rfl | exact .inr (.inl rfl) | exact .inr (.inr rfl))) dp_int) (bBin kMul dp_int (bIx (dp_var (i := 0) rfl (by first | exact .inl rfl | exact .inr (.inl rfl) | exact .inr (.inr rfl))) dp_int))) dp_int) (bBin kAdd (bBin kPow dp_int dp_int) dp_int)))
    (dss_cons (ds_set sc__law_next.nd (i := 2) rfl (by first | exact .inl rfl | exact .inr rfl) (bBin kMod (bBin kPow (bBin kAdd (dp_var (i := 2) rfl (by first | exact .inl rfl | exact .inr (.inl rfl) | exact .inr (.inr rfl))) (bBin kMul dp_int (bIx (dp_var (i := 0) rfl (by first | exact .inl rfl | exact .inr (.inl rfl) | exact .inr (.inr rfl))) dp_int))) dp_int) (bBin kAdd (bBin kPow dp_int dp_int) dp_int)))
    (dss_one (ds_ret (bBin kMod (bBin kDiv (dp_var (i := 2) rfl (by first | exact .inl rfl | exact .inr (.inl rfl) | exact .inr (.inr rfl))) dp_int) (dp_var (i := 1) rfl (by first | exact .inl rfl | exact .inr (.inl rfl) | exact .inr (.inr rfl))))))))))
theorem g__law_next (T : Fx K mg a) : FnG P w K mg base 1 a.f__law_next [] (p__law_next a) := by
  obtain ⟨oc, od, kV, doc, pm, an, cd, ct, osl, lk, hc⟩ := T.l__law_next
  exact fnG_of lk hc sc__law_next Perm.id (hb0 fun s us hl => match us, hl with | [_, _], _ => .of_eq rfl) (fun A outer s H E hr => d__law_next T A outer s H E hr)
theorem sc__law_runs : FnScope ["_law_tape_here", "_law_many", "_law_at", "_law_found", "_law_top", "_law_sign", "_law_count"] ["_law_tape_here", "_law_many"] (defScope s__law_runs) := ⟨rfl, rfl, rfl, by decide +kernel, rfl, by decide +kernel, by decide +kernel⟩
set_option maxRecDepth 100000 in
theorem d__law_runs (T : Fx K mg a) {f : Addr} {cd : Value} (A : Around) (outer : List Env) (s : Shared) (H : Hp) (E : XK) (hr : RoomG 1 (A.deeper (envOfC "_law_runs" (defScope s__law_runs) s.heap.objs.size f cd))) :
    DSs (cxOf (L2.CX P w) P w K mg base ["_law_tape_here", "_law_many", "_law_at", "_law_found", "_law_top", "_law_sign", "_law_count"] "_law_runs" (defScope s__law_runs) f cd A outer s H E) (fun cls d _ H => E cls d H) (defBody s__law_runs) (m__law_runs a) := by
  have tk := takes_cx (P := P) (w := w) (K := K) (mg := mg) (base := base) (N := ["_law_tape_here", "_law_many", "_law_at", "_law_found", "_law_top", "_law_sign", "_law_count"]) (qual := "_law_runs") (scope := defScope s__law_runs) (f := f) (cd := cd) (A := A) (outer := outer) (s := s) (H := H) (E := E)
  unfold m__law_runs
  exact (dss_cons (ds_par (i := 3) (j := 4) rfl sc__law_runs.nd rfl rfl (by decide) rfl rfl (da_cons (dp_share (dp_lst da_nil)) (da_cons (bIx (dp_lst (da_cons dp_int (da_cons dp_int (da_cons dp_int da_nil)))) (dp_call (g__law_next T) (hr.mono (by decide)) tk rfl T.m__law_next T.kp__law_next (da_cons (dp_var (i := 0) rfl (by first | exact .inl rfl | exact .inr (.inl rfl) | exact .inr (.inr rfl))) (da_cons dp_int da_nil)))) da_nil)) rfl)
    (dss_cons (ds_for (passes_of rfl) rfl (di_range1 rfl T.b_range (da_cons (dp_var (i := 1) rfl (by first | exact .inl rfl | exact .inr (.inl rfl) | exact .inr (.inr rfl))) da_nil)) (dg_name sc__law_runs.nd (i := 2) rfl (by first | exact .inl rfl | exact .inr rfl))
    (dss_cons (ds_set sc__law_runs.nd (i := 5) rfl (by first | exact .inl rfl | exact .inr rfl) (bBin kAdd dp_int (dp_call (g__law_next T) (hr.mono (by decide)) tk rfl T.m__law_next T.kp__law_next (da_cons (dp_var (i := 0) rfl (by first | exact .inl rfl | exact .inr (.inl rfl) | exact .inr (.inr rfl))) (da_cons (dp_var (i := 4) rfl (by first | exact .inl rfl | exact .inr (.inl rfl) | exact .inr (.inr rfl))) da_nil)))))
    (dss_cons (ds_if (dt_w (dw_and (tCmp (kNe hr.hu) (dp_var (i := 3) rfl (by first | exact .inl rfl | exact .inr (.inl rfl) | exact .inr (.inr rfl))) (dp_lst da_nil)) (dw_and1 (tCmp (kEq hr.hu) (bIx (bIx (dp_var (i := 3) rfl (by first | exact .inl rfl | exact .inr (.inl rfl) | exact .inr (.inr rfl))) (dp_neg dp_int)) dp_int) (dp_var (i := 5) rfl (by first | exact .inl rfl | exact .inr (.inl rfl) | exact .inr (.inr rfl)))))))
    (dss_one (ds_set sc__law_runs.nd (i := 5) rfl (by first | exact .inl rfl | exact .inr rfl) (bBin kAdd (bBin kMod (dp_var (i := 5) rfl (by first | exact .inl rfl | exact .inr (.inl rfl) | exact .inr (.inr rfl))) (dp_var (i := 4) rfl (by first | exact .inl rfl | exact .inr (.inl rfl) | exact .inr (.inr rfl)))) dp_int)))
    dss_nil)
    (dss_cons (ds_set sc__law_runs.nd (i := 6) rfl (by first | exact .inl rfl | exact .inr rfl) (bIx (dp_lst (da_cons dp_int (da_cons (bBin kAdd dp_int (dp_call (g__law_next T) (hr.mono (by decide)) tk rfl T.m__law_next T.kp__law_next (da_cons (dp_var (i := 0) rfl (by first | exact .inl rfl | exact .inr (.inl rfl) | exact .inr (.inr rfl))) (da_cons dp_int da_nil)))) (da_cons (bBin kAdd dp_int (dp_call (g__law_next T) (hr.mono (by decide)) tk rfl T.m__law_next T.kp__law_next (da_cons (dp_var (i := 0) rfl (by first | exact .inl rfl | exact .inr (.inl rfl) | exact .inr (.inr rfl))) (da_cons (bBin kPow dp_int dp_int) da_nil)))) (da_cons (bBin kSub (bBin kMul (bBin kPow dp_int dp_int) (bBin kPow dp_int dp_int)) dp_int) da_nil))))) (dp_call (g__law_next T) (hr.mono (by decide)) tk rfl T.m__law_next T.kp__law_next (da_cons (dp_var (i := 0) rfl (by first | exact .inl rfl | exact .inr (.inl rfl) | exact .inr (.inr rfl))) (da_cons dp_int da_nil)))))
    (dss_one (ds_expr (dp_append (dp_var (i := 3) rfl (by first | exact .inl rfl | exact .inr (.inl rfl) | exact .inr (.inr rfl))) (da_cons (dp_tup (da_cons (dp_var (i := 5) rfl (by first | exact .inl rfl | exact .inr (.inl rfl) | exact .inr (.inr rfl))) (da_cons (dp_var (i := 6) rfl (by first | exact .inl rfl | exact .inr (.inl rfl) | exact .inr (.inr rfl))) da_nil))) da_nil))))))))
    (dss_one (ds_ret (dp_var (i := 3) rfl (by first | exact .inl rfl | exact .inr (.inl rfl) | exact .inr (.inr rfl)))))))
theorem g__law_runs (T : Fx K mg a) : FnG P w K mg base 2 a.f__law_runs [] (p__law_runs a) := by
  obtain ⟨oc, od, kV, doc, pm, an, cd, ct, osl, lk, hc⟩ := T.l__law_runs
  exact fnG_of lk hc sc__law_runs Perm.id (hb0 fun s us hl => match us, hl with | [_, _], _ => .of_eq rfl) (fun A outer s H E hr => d__law_runs T A outer s H E hr)
theorem sc__law_text : FnScope ["_law_runs_here", "_law_sign", "_law_count"] ["_law_runs_here"] (defScope s__law_text) := ⟨rfl, rfl, rfl, by decide +kernel, rfl, by decide +kernel, by decide +kernel⟩
set_option maxRecDepth 100000 in
theorem d__law_text (T : Fx K mg a) {f : Addr} {cd : Value} (A : Around) (outer : List Env) (s : Shared) (H : Hp) (E : XK) (hr : RoomG 0 (A.deeper (envOfC "_law_text" (defScope s__law_text) s.heap.objs.size f cd))) :
    DSs (cxOf (L2.CX P w) P w K mg base ["_law_runs_here", "_law_sign", "_law_count"] "_law_text" (defScope s__law_text) f cd A outer s H E) (fun cls d _ H => E cls d H) (defBody s__law_text) (m__law_text a) := by
  have tk := takes_cx (P := P) (w := w) (K := K) (mg := mg) (base := base) (N := ["_law_runs_here", "_law_sign", "_law_count"]) (qual := "_law_text") (scope := defScope s__law_text) (f := f) (cd := cd) (A := A) (outer := outer) (s := s) (H := H) (E := E)
  unfold m__law_text
  exact (dss_one (ds_ret (dp_join dp_str (dp_lc (own := [("_law_sign", 1), ("_law_count", 2)]) rfl sc__law_text.nd (di_list (dp_var (i := 0) rfl (by first | exact .inl rfl | exact .inr (.inl rfl) | exact .inr (.inr rfl)))) (blkOk_by rfl) (fun _ _ _ _ _ => (dv_tup rfl (dvs_cons (dv_name sc__law_text.nd (i := 1) rfl (by decide) (by first | exact .inl rfl | exact .inr rfl) (by first | exact .inr rfl | exact .inl rfl)) (dvs_cons (dv_name sc__law_text.nd (i := 2) rfl (by decide) (by first | exact .inl rfl | exact .inr rfl) (by first | exact .inr rfl | exact .inl rfl)) dvs_nil)) (fun _ _ _ h => gCons_len (fun _ _ _ h => gCons_len (fun _ _ _ h => gNil_len h) h) h))) (fun _ _ _ _ _ => dts_nil) (fun _ _ _ _ _ => (bBin kAdd (c_str T.b_str (dp_var (i := 1) rfl (by first | exact .inl rfl | exact .inr (.inl rfl) | exact .inr (.inr rfl)))) (dp_if (tCmp kGt (dp_var (i := 2) rfl (by first | exact .inl rfl | exact .inr (.inl rfl) | exact .inr (.inr rfl))) dp_int) (bBin kAdd dp_str (c_str T.b_str (dp_var (i := 2) rfl (by first | exact .inl rfl | exact .inr (.inl rfl) | exact .inr (.inr rfl))))) dp_str)))))))
theorem g__law_text (T : Fx K mg a) : FnG P w K mg base 1 a.f__law_text [] (p__law_text a) := by
  obtain ⟨oc, od, kV, doc, pm, an, cd, ct, osl, lk, hc⟩ := T.l__law_text
  exact fnG_of lk hc sc__law_text Perm.id (hb0 fun s us hl => match us, hl with | [_], _ => .of_eq rfl) (fun A outer s H E hr => d__law_text T A outer s H E hr)
theorem sc_run_text : FnScope ["run", "value", "count"] ["run"] (defScope s_run_text) := ⟨rfl, rfl, rfl, by decide +kernel, rfl, by decide +kernel, by decide +kernel⟩
set_option maxRecDepth 100000 in
theorem d_run_text (T : Fx K mg a) {f : Addr} {cd : Value} (A : Around) (outer : List Env) (s : Shared) (H : Hp) (E : XK) (hr : RoomG 0 (A.deeper (envOfC "run_text" (defScope s_run_text) s.heap.objs.size f cd))) :
    DSs (cxOf (L2.CX P w) P w K mg base ["run", "value", "count"] "run_text" (defScope s_run_text) f cd A outer s H E) (fun cls d _ H => E cls d H) (defBody s_run_text) (m_run_text a) := by
  have tk := takes_cx (P := P) (w := w) (K := K) (mg := mg) (base := base) (N := ["run", "value", "count"]) (qual := "run_text") (scope := defScope s_run_text) (f := f) (cd := cd) (A := A) (outer := outer) (s := s) (H := H) (E := E)
  unfold m_run_text
  exact (dss_cons (ds_asg (dp_var (i := 0) rfl (by first | exact .inl rfl | exact .inr (.inl rfl) | exact .inr (.inr rfl))) (dg_tup rfl (dgs_cons (dg_name sc_run_text.nd (i := 1) rfl (by first | exact .inl rfl | exact .inr rfl)) (dgs_cons (dg_name sc_run_text.nd (i := 2) rfl (by first | exact .inl rfl | exact .inr rfl)) dgs_nil)) (fun _ _ _ h => gCons_len (fun _ _ _ h => gCons_len (fun _ _ _ h => gNil_len h) h) h)))
    (dss_one (ds_ret (dp_if (tCmp kGt (dp_var (i := 2) rfl (by first | exact .inl rfl | exact .inr (.inl rfl) | exact .inr (.inr rfl))) dp_int) (dp_joined (.cons (dp_fmt (dp_var (i := 1) rfl (by first | exact .inl rfl | exact .inr (.inl rfl) | exact .inr (.inr rfl)))) (.cons dp_str (.cons (dp_fmt (dp_var (i := 2) rfl (by first | exact .inl rfl | exact .inr (.inl rfl) | exact .inr (.inr rfl)))) .nil)))) (dp_joined1 (dp_fmt (dp_var (i := 1) rfl (by first | exact .inl rfl | exact .inr (.inl rfl) | exact .inr (.inr rfl)))))))))
theorem g_run_text (T : Fx K mg a) : FnG P w K mg base 1 a.f_run_text [] (p_run_text a) := by
  obtain ⟨oc, od, kV, doc, pm, an, cd, ct, osl, lk, hc⟩ := T.l_run_text
  exact fnG_of lk hc sc_run_text Perm.id (hb0 fun s us hl => match us, hl with | [_], _ => .of_eq rfl) (fun A outer s H E hr => d_run_text T A outer s H E hr)
theorem sc_write_word : FnScope ["word", "run"] ["word"] (defScope s_write_word) := ⟨rfl, rfl, rfl, by decide +kernel, rfl, by decide +kernel, by decide +kernel⟩
set_option maxRecDepth 100000 in
theorem d_write_word (T : Fx K mg a) {f : Addr} {cd : Value} (A : Around) (outer : List Env) (s : Shared) (H : Hp) (E : XK) (hr : RoomG 1 (A.deeper (envOfC "write_word" (defScope s_write_word) s.heap.objs.size f cd))) :
    DSs (cxOf (L2.CX P w) P w K mg base ["word", "run"] "write_word" (defScope s_write_word) f cd A outer s H E) (fun cls d _ H => E cls d H) (defBody s_write_word) (m_write_word a) := by
  have tk := takes_cx (P := P) (w := w) (K := K) (mg := mg) (base := base) (N := ["word", "run"]) (qual := "write_word") (scope := defScope s_write_word) (f := f) (cd := cd) (A := A) (outer := outer) (s := s) (H := H) (E := E)
  unfold m_write_word
  exact (dss_one (ds_ret (dp_join dp_str (dp_lc (own := [("run", 1)]) rfl sc_write_word.nd (di_list (dp_var (i := 0) rfl (by first | exact .inl rfl | exact .inr (.inl rfl) | exact .inr (.inr rfl)))) (blkOk_by rfl) (fun _ _ _ _ _ => (dv_name sc_write_word.nd (i := 1) rfl (by decide) (by first | exact .inl rfl | exact .inr rfl) (by first | exact .inr rfl | exact .inl rfl))) (fun _ _ _ _ _ => dts_nil) (fun _ _ _ _ _ => (dp_call (g_run_text T) (hr.mono (by decide)) takes_no rfl T.m_run_text T.kp_run_text (da_cons (dp_var (i := 1) rfl (by first | exact .inl rfl | exact .inr (.inl rfl) | exact .inr (.inr rfl))) da_nil)))))))
theorem g_write_word (T : Fx K mg a) : FnG P w K mg base 2 a.f_write_word [] (p_write_word a) := by
  obtain ⟨oc, od, kV, doc, pm, an, cd, ct, osl, lk, hc⟩ := T.l_write_word
  exact fnG_of lk hc sc_write_word Perm.id (hb0 fun s us hl => match us, hl with | [_], _ => .of_eq rfl) (fun A outer s H E hr => d_write_word T A outer s H E hr)
theorem g_write_word_k_word (T : Fx K mg a) : FnG P w K mg base 2 a.f_write_word ["word"] (p_write_word_k_word a) := by
  obtain ⟨oc, od, kV, doc, pm, an, cd, ct, osl, lk, hc⟩ := T.l_write_word
  exact fnG_of lk hc sc_write_word Perm.id (hbK fun s us hl => match us, hl with | [_], _ => .of_eq rfl) (fun A outer s H E hr => d_write_word T A outer s H E hr)
theorem sc_number_in : FnScope ["text", "most", "digit"] ["text", "most"] (defScope s_number_in) := ⟨rfl, rfl, rfl, by decide +kernel, rfl, by decide +kernel, by decide +kernel⟩
set_option maxRecDepth 100000 in
theorem d_number_in (T : Fx K mg a) {f : Addr} {cd : Value} (A : Around) (outer : List Env) (s : Shared) (H : Hp) (E : XK) (hr : RoomG 0 (A.deeper (envOfC "number_in" (defScope s_number_in) s.heap.objs.size f cd))) :
    DSs (cxOf (L2.CX P w) P w K mg base ["text", "most", "digit"] "number_in" (defScope s_number_in) f cd A outer s H E) (fun cls d _ H => E cls d H) (defBody s_number_in) (m_number_in a) := by
  have tk := takes_cx (P := P) (w := w) (K := K) (mg := mg) (base := base) (N := ["text", "most", "digit"]) (qual := "number_in") (scope := defScope s_number_in) (f := f) (cd := cd) (A := A) (outer := outer) (s := s) (H := H) (E := E)
  unfold m_number_in
  exact (dss_cons (ds_if (dt_w (dw_or (dt_not (tChain kLe kLe dp_int (c_len T.b_len (dp_var (i := 0) rfl (by first | exact .inl rfl | exact .inr (.inl rfl) | exact .inr (.inr rfl)))) (dp_var (i := 1) rfl (by first | exact .inl rfl | exact .inr (.inl rfl) | exact .inr (.inr rfl))))) (dw_or1 (tCmp (kEq hr.hu) (bIx (dp_var (i := 0) rfl (by first | exact .inl rfl | exact .inr (.inl rfl) | exact .inr (.inr rfl))) dp_int) dp_str))))
    (dss_one (ds_ret dp_non))
    dss_nil)
    (dss_one (ds_ret (dp_if (dt_tru (c_all rfl T.b_all (dp_lc (own := [("digit", 2)]) rfl sc_number_in.nd (di_str (dp_var (i := 0) rfl (by first | exact .inl rfl | exact .inr (.inl rfl) | exact .inr (.inr rfl)))) (blkOk_by rfl) (fun _ _ _ _ _ => (dv_name sc_number_in.nd (i := 2) rfl (by decide) (by first | exact .inl rfl | exact .inr rfl) (by first | exact .inr rfl | exact .inl rfl))) (fun _ _ _ _ _ => dts_nil) (fun _ _ _ _ _ => (bCmp kIn (dp_var (i := 2) rfl (by first | exact .inl rfl | exact .inr (.inl rfl) | exact .inr (.inr rfl))) (dp_globS rfl T.gs_DIGITS)))))) (c_int T.b_int (dp_var (i := 0) rfl (by first | exact .inl rfl | exact .inr (.inl rfl) | exact .inr (.inr rfl)))) dp_non))))
theorem g_number_in (T : Fx K mg a) : FnG P w K mg base 1 a.f_number_in [] (p_number_in a) := by
  obtain ⟨oc, od, kV, doc, pm, an, cd, ct, osl, lk, hc⟩ := T.l_number_in
  exact fnG_of lk hc sc_number_in Perm.id (hb0 fun s us hl => match us, hl with | [_, _], _ => .of_eq rfl) (fun A outer s H E hr => d_number_in T A outer s H E hr)
theorem sc_sign_in : FnScope ["text", "found"] ["text"] (defScope s_sign_in) := ⟨rfl, rfl, rfl, by decide +kernel, rfl, by decide +kernel, by decide +kernel⟩
set_option maxRecDepth 100000 in
theorem d_sign_in (T : Fx K mg a) {f : Addr} {cd : Value} (A : Around) (outer : List Env) (s : Shared) (H : Hp) (E : XK) (hr : RoomG 1 (A.deeper (envOfC "sign_in" (defScope s_sign_in) s.heap.objs.size f cd))) :
    DSs (cxOf (L2.CX P w) P w K mg base ["text", "found"] "sign_in" (defScope s_sign_in) f cd A outer s H E) (fun cls d _ H => E cls d H) (defBody s_sign_in) (m_sign_in a) := by
  have tk := takes_cx (P := P) (w := w) (K := K) (mg := mg) (base := base) (N := ["text", "found"]) (qual := "sign_in") (scope := defScope s_sign_in) (f := f) (cd := cd) (A := A) (outer := outer) (s := s) (H := H) (E := E)
  unfold m_sign_in
  exact (dss_cons (ds_set sc_sign_in.nd (i := 1) rfl (by first | exact .inl rfl | exact .inr rfl) (dp_call (g_number_in T) (hr.mono (by decide)) tk rfl T.m_number_in T.kp_number_in (da_cons (dp_var (i := 0) rfl (by first | exact .inl rfl | exact .inr (.inl rfl) | exact .inr (.inr rfl))) (da_cons (c_len T.b_len (c_str T.b_str (dp_globI rfl T.gi_GREATEST_SIGN))) da_nil))))
    (dss_one (ds_ret (dp_if (dt_w (dw_and (tCmp kIsNot (dp_var (i := 1) rfl (by first | exact .inl rfl | exact .inr (.inl rfl) | exact .inr (.inr rfl))) dp_non) (dw_and1 (tCmp kLe (dp_var (i := 1) rfl (by first | exact .inl rfl | exact .inr (.inl rfl) | exact .inr (.inr rfl))) (dp_globI rfl T.gi_GREATEST_SIGN))))) (dp_var (i := 1) rfl (by first | exact .inl rfl | exact .inr (.inl rfl) | exact .inr (.inr rfl))) dp_non))))
theorem g_sign_in (T : Fx K mg a) : FnG P w K mg base 2 a.f_sign_in [] (p_sign_in a) := by
  obtain ⟨oc, od, kV, doc, pm, an, cd, ct, osl, lk, hc⟩ := T.l_sign_in
  exact fnG_of lk hc sc_sign_in Perm.id (hb0 fun s us hl => match us, hl with | [_], _ => .of_eq rfl) (fun A outer s H E hr => d_sign_in T A outer s H E hr)
theorem sc_run_in : FnScope ["text", "sign", "run", "count"] ["text"] (defScope s_run_in) := ⟨rfl, rfl, rfl, by decide +kernel, rfl, by decide +kernel, by decide +kernel⟩
set_option maxRecDepth 100000 in
theorem d_run_in (T : Fx K mg a) {f : Addr} {cd : Value} (A : Around) (outer : List Env) (s : Shared) (H : Hp) (E : XK) (hr : RoomG 2 (A.deeper (envOfC "run_in" (defScope s_run_in) s.heap.objs.size f cd))) :
    DSs (cxOf (L2.CX P w) P w K mg base ["text", "sign", "run", "count"] "run_in" (defScope s_run_in) f cd A outer s H E) (fun cls d _ H => E cls d H) (defBody s_run_in) (m_run_in a) := by
  have tk := takes_cx (P := P) (w := w) (K := K) (mg := mg) (base := base) (N := ["text", "sign", "run", "count"]) (qual := "run_in") (scope := defScope s_run_in) (f := f) (cd := cd) (A := A) (outer := outer) (s := s) (H := H) (E := E)
  unfold m_run_in
  exact (dss_cons (ds_match (dp_split (dp_var (i := 0) rfl (by first | exact .inl rfl | exact .inr (.inl rfl) | exact .inr (.inr rfl))) dp_str) (mc_seq1 (i := 1) rfl sc_run_in.nd rfl (by first | exact .inl rfl | exact .inr rfl) (by first | exact .inr rfl | exact .inl rfl) (dss_one (ds_set sc_run_in.nd (i := 2) rfl (by first | exact .inl rfl | exact .inr rfl) (dp_tup (da_cons (dp_call (g_sign_in T) (hr.mono (by decide)) tk rfl T.m_sign_in T.kp_sign_in (da_cons (dp_var (i := 1) rfl (by first | exact .inl rfl | exact .inr (.inl rfl) | exact .inr (.inr rfl))) da_nil)) (da_cons dp_int da_nil))))) (mc_seq2 (i := 1) (j := 3) rfl sc_run_in.nd rfl rfl (by first | exact .inl rfl | exact .inr rfl) (by first | exact .inr rfl | exact .inl rfl) (by first | exact .inl rfl | exact .inr rfl) (by first | exact .inr rfl | exact .inl rfl) (dss_cons (ds_set sc_run_in.nd (i := 2) rfl (by first | exact .inl rfl | exact .inr rfl) (dp_tup (da_cons (dp_call (g_sign_in T) (hr.mono (by decide)) tk rfl T.m_sign_in T.kp_sign_in (da_cons (dp_var (i := 1) rfl (by first | exact .inl rfl | exact .inr (.inl rfl) | exact .inr (.inr rfl))) da_nil)) (da_cons (dp_call (g_number_in T) (hr.mono (by decide)) tk rfl T.m_number_in T.kp_number_in (da_cons (dp_var (i := 3) rfl (by first | exact .inl rfl | exact .inr (.inl rfl) | exact .inr (.inr rfl))) (da_cons (dp_globI rfl T.gi_MOST_DIGITS) da_nil))) da_nil))))
    (dss_one (ds_set sc_run_in.nd (i := 2) rfl (by first | exact .inl rfl | exact .inr rfl) (dp_if (tCmp (kNe hr.hu) (bIx (dp_var (i := 2) rfl (by first | exact .inl rfl | exact .inr (.inl rfl) | exact .inr (.inr rfl))) dp_int) dp_int) (dp_var (i := 2) rfl (by first | exact .inl rfl | exact .inr (.inl rfl) | exact .inr (.inr rfl))) (dp_tup (da_cons dp_non (da_cons dp_int da_nil))))))) (mc_any (dss_one (ds_set sc_run_in.nd (i := 2) rfl (by first | exact .inl rfl | exact .inr rfl) (dp_tup (da_cons dp_non (da_cons dp_non da_nil)))))))))
    (dss_one (ds_ret (dp_if (tCmp kNotIn dp_non (dp_var (i := 2) rfl (by first | exact .inl rfl | exact .inr (.inl rfl) | exact .inr (.inr rfl)))) (dp_var (i := 2) rfl (by first | exact .inl rfl | exact .inr (.inl rfl) | exact .inr (.inr rfl))) dp_non))))
theorem g_run_in (T : Fx K mg a) : FnG P w K mg base 3 a.f_run_in [] (p_run_in a) := by
  obtain ⟨oc, od, kV, doc, pm, an, cd, ct, osl, lk, hc⟩ := T.l_run_in
  exact fnG_of lk hc sc_run_in Perm.id (hb0 fun s us hl => match us, hl with | [_], _ => .of_eq rfl) (fun A outer s H E hr => d_run_in T A outer s H E hr)
theorem sc_read_word : FnScope ["text", "found", "index", "part", "run"] ["text"] (defScope s_read_word) := ⟨rfl, rfl, rfl, by decide +kernel, rfl, by decide +kernel, by decide +kernel⟩
set_option maxRecDepth 100000 in
theorem d_read_word (T : Fx K mg a) {f : Addr} {cd : Value} (A : Around) (outer : List Env) (s : Shared) (H : Hp) (E : XK) (hr : RoomG 3 (A.deeper (envOfC "read_word" (defScope s_read_word) s.heap.objs.size f cd))) :
    DSs (cxOf (L2.CX P w) P w K mg base ["text", "found", "index", "part", "run"] "read_word" (defScope s_read_word) f cd A outer s H E) (fun cls d _ H => E cls d H) (defBody s_read_word) (m_read_word a) := by
  have tk := takes_cx (P := P) (w := w) (K := K) (mg := mg) (base := base) (N := ["text", "found", "index", "part", "run"]) (qual := "read_word") (scope := defScope s_read_word) (f := f) (cd := cd) (A := A) (outer := outer) (s := s) (H := H) (E := E)
  unfold m_read_word
  exact (dss_cons (ds_set sc_read_word.nd (i := 1) rfl (by first | exact .inl rfl | exact .inr rfl) (dp_share (dp_lst da_nil)))
    (dss_cons (ds_for (passes_of rfl) rfl (di_enum rfl T.b_enumerate (da_cons (dp_split (dp_var (i := 0) rfl (by first | exact .inl rfl | exact .inr (.inl rfl) | exact .inr (.inr rfl))) dp_str) da_nil)) (dg_tup rfl (dgs_cons (dg_name sc_read_word.nd (i := 2) rfl (by first | exact .inl rfl | exact .inr rfl)) (dgs_cons (dg_name sc_read_word.nd (i := 3) rfl (by first | exact .inl rfl | exact .inr rfl)) dgs_nil)) (fun _ _ _ h => gCons_len (fun _ _ _ h => gCons_len (fun _ _ _ h => gNil_len h) h) h))
    (dss_cons (ds_set sc_read_word.nd (i := 4) rfl (by first | exact .inl rfl | exact .inr rfl) (dp_call (g_run_in T) (hr.mono (by decide)) tk rfl T.m_run_in T.kp_run_in (da_cons (dp_var (i := 3) rfl (by first | exact .inl rfl | exact .inr (.inl rfl) | exact .inr (.inr rfl))) da_nil)))
    (dss_cons (ds_if (dt_w (dw_or (tCmp kIs (dp_var (i := 4) rfl (by first | exact .inl rfl | exact .inr (.inl rfl) | exact .inr (.inr rfl))) dp_non) (dw_or (tCmp kGe (dp_var (i := 2) rfl (by first | exact .inl rfl | exact .inr (.inl rfl) | exact .inr (.inr rfl))) (dp_globI rfl T.gi_MOST_RUNS)) (dw_or1 (dt_w (dw_and (tCmp (kNe hr.hu) (dp_var (i := 1) rfl (by first | exact .inl rfl | exact .inr (.inl rfl) | exact .inr (.inr rfl))) (dp_lst da_nil)) (dw_and1 (tCmp (kEq hr.hu) (bIx (bIx (dp_var (i := 1) rfl (by first | exact .inl rfl | exact .inr (.inl rfl) | exact .inr (.inr rfl))) (dp_neg dp_int)) dp_int) (bIx (dp_var (i := 4) rfl (by first | exact .inl rfl | exact .inr (.inl rfl) | exact .inr (.inr rfl))) dp_int)))))))))
    (dss_one ds_never)
    dss_nil)
    (dss_one (ds_expr (dp_append (dp_var (i := 1) rfl (by first | exact .inl rfl | exact .inr (.inl rfl) | exact .inr (.inr rfl))) (da_cons (dp_var (i := 4) rfl (by first | exact .inl rfl | exact .inr (.inl rfl) | exact .inr (.inr rfl))) da_nil)))))))
    (dss_one (ds_ret (dp_var (i := 1) rfl (by first | exact .inl rfl | exact .inr (.inl rfl) | exact .inr (.inr rfl)))))))
theorem g_read_word (T : Fx K mg a) : FnG P w K mg base 4 a.f_read_word [] (p_read_word a) := by
  obtain ⟨oc, od, kV, doc, pm, an, cd, ct, osl, lk, hc⟩ := T.l_read_word
  exact fnG_of lk hc sc_read_word Perm.id (hb0 fun s us hl => match us, hl with | [_], _ => .of_eq rfl) (fun A outer s H E hr => d_read_word T A outer s H E hr)
theorem g_read_word_k_text (T : Fx K mg a) : FnG P w K mg base 4 a.f_read_word ["text"] (p_read_word_k_text a) := by
  obtain ⟨oc, od, kV, doc, pm, an, cd, ct, osl, lk, hc⟩ := T.l_read_word
  exact fnG_of lk hc sc_read_word Perm.id (hbK fun s us hl => match us, hl with | [_], _ => .of_eq rfl) (fun A outer s H E hr => d_read_word T A outer s H E hr)
theorem sc__law_word_right : FnScope ["_law_runs_here", "_law_due", "_law_kept", "_law_told", "_law_again"] ["_law_runs_here"] (defScope s__law_word_right) := ⟨rfl, rfl, rfl, by decide +kernel, rfl, by decide +kernel, by decide +kernel⟩
set_option maxRecDepth 100000 in
theorem d__law_word_right (T : Fx K mg a) {f : Addr} {cd : Value} (A : Around) (outer : List Env) (s : Shared) (H : Hp) (E : XK) (hr : RoomG 4 (A.deeper (envOfC "_law_word_right" (defScope s__law_word_right) s.heap.objs.size f cd))) :
    DSs (cxOf (L2.CX P w) P w K mg base ["_law_runs_here", "_law_due", "_law_kept", "_law_told", "_law_again"] "_law_word_right" (defScope s__law_word_right) f cd A outer s H E) (fun cls d _ H => E cls d H) (defBody s__law_word_right) (m__law_word_right a) := by
  have tk := takes_cx (P := P) (w := w) (K := K) (mg := mg) (base := base) (N := ["_law_runs_here", "_law_due", "_law_kept", "_law_told", "_law_again"]) (qual := "_law_word_right") (scope := defScope s__law_word_right) (f := f) (cd := cd) (A := A) (outer := outer) (s := s) (H := H) (E := E)
  unfold m__law_word_right
  exact (dss_cons (ds_par (i := 1) (j := 2) rfl sc__law_word_right.nd rfl rfl (by decide) rfl rfl (da_cons (dp_call (g__law_text T) (hr.mono (by decide)) tk rfl T.m__law_text T.kp__law_text (da_cons (dp_var (i := 0) rfl (by first | exact .inl rfl | exact .inr (.inl rfl) | exact .inr (.inr rfl))) da_nil)) (da_cons (c_repr hr.g hr.hu T.b_repr (dp_var (i := 0) rfl (by first | exact .inl rfl | exact .inr (.inl rfl) | exact .inr (.inr rfl)))) da_nil)) rfl)
    (dss_cons (ds_if (tCmp (kNe hr.hu) (c_repr hr.g hr.hu T.b_repr (dp_lst (da_cons (dp_call (g_write_word T) (hr.mono (by decide)) tk rfl T.m_write_word T.kp_write_word (da_cons (dp_var (i := 0) rfl (by first | exact .inl rfl | exact .inr (.inl rfl) | exact .inr (.inr rfl))) da_nil)) (da_cons (dp_callK0 (g_write_word_k_word T) (hr.mono (by decide)) tk rfl T.m_write_word T.kp_write_word (dk_cons (dp_var (i := 0) rfl (by first | exact .inl rfl | exact .inr (.inl rfl) | exact .inr (.inr rfl))) dk_nil) (fun _ _ _ h => aCons_len (fun _ _ _ h => aNil_len h) h)) da_nil)))) (c_repr hr.g hr.hu T.b_repr (dp_lst (da_cons (dp_var (i := 1) rfl (by first | exact .inl rfl | exact .inr (.inl rfl) | exact .inr (.inr rfl))) (da_cons (dp_var (i := 1) rfl (by first | exact .inl rfl | exact .inr (.inl rfl) | exact .inr (.inr rfl))) da_nil)))))
    (dss_one (ds_ret dp_bl))
    dss_nil)
    (dss_cons (ds_par (i := 3) (j := 4) rfl sc__law_word_right.nd rfl rfl (by decide) rfl rfl (da_cons (dp_call (g_read_word T) (hr.mono (by decide)) tk rfl T.m_read_word T.kp_read_word (da_cons (dp_var (i := 1) rfl (by first | exact .inl rfl | exact .inr (.inl rfl) | exact .inr (.inr rfl))) da_nil)) (da_cons (dp_callK0 (g_read_word_k_text T) (hr.mono (by decide)) tk rfl T.m_read_word T.kp_read_word (dk_cons (dp_var (i := 1) rfl (by first | exact .inl rfl | exact .inr (.inl rfl) | exact .inr (.inr rfl))) dk_nil) (fun _ _ _ h => aCons_len (fun _ _ _ h => aNil_len h) h)) da_nil)) rfl)
    (dss_cons (ds_if (tCmp (kNe hr.hu) (c_repr hr.g hr.hu T.b_repr (dp_lst (da_cons (dp_var (i := 3) rfl (by first | exact .inl rfl | exact .inr (.inl rfl) | exact .inr (.inr rfl))) (da_cons (dp_var (i := 4) rfl (by first | exact .inl rfl | exact .inr (.inl rfl) | exact .inr (.inr rfl))) da_nil)))) (c_repr hr.g hr.hu T.b_repr (dp_lst (da_cons (dp_var (i := 0) rfl (by first | exact .inl rfl | exact .inr (.inl rfl) | exact .inr (.inr rfl))) (da_cons (dp_var (i := 0) rfl (by first | exact .inl rfl | exact .inr (.inl rfl) | exact .inr (.inr rfl))) da_nil)))))
    (dss_one (ds_ret dp_bl))
    dss_nil)
    (dss_cons (ds_expr (dp_reverse (dp_var (i := 3) rfl (by first | exact .inl rfl | exact .inr (.inl rfl) | exact .inr (.inr rfl)))))
    (dss_cons (ds_expr (dp_append (dp_var (i := 3) rfl (by first | exact .inl rfl | exact .inr (.inl rfl) | exact .inr (.inr rfl))) (da_cons (dp_tup (da_cons dp_int (da_cons dp_int da_nil))) da_nil)))
    (dss_one (ds_ret (dp_and (bCmp (kEq hr.hu) (c_repr hr.g hr.hu T.b_repr (dp_lst (da_cons (dp_var (i := 4) rfl (by first | exact .inl rfl | exact .inr (.inl rfl) | exact .inr (.inr rfl))) (da_cons (dp_call (g_read_word T) (hr.mono (by decide)) tk rfl T.m_read_word T.kp_read_word (da_cons (dp_var (i := 1) rfl (by first | exact .inl rfl | exact .inr (.inl rfl) | exact .inr (.inr rfl))) da_nil)) da_nil)))) (c_repr hr.g hr.hu T.b_repr (dp_lst (da_cons (dp_var (i := 0) rfl (by first | exact .inl rfl | exact .inr (.inl rfl) | exact .inr (.inr rfl))) (da_cons (dp_var (i := 0) rfl (by first | exact .inl rfl | exact .inr (.inl rfl) | exact .inr (.inr rfl))) da_nil))))) (dp_one (bCmp (kEq hr.hu) (c_repr hr.g hr.hu T.b_repr (dp_var (i := 0) rfl (by first | exact .inl rfl | exact .inr (.inl rfl) | exact .inr (.inr rfl)))) (dp_var (i := 2) rfl (by first | exact .inl rfl | exact .inr (.inl rfl) | exact .inr (.inr rfl))))))))))))))
theorem g__law_word_right (T : Fx K mg a) : FnG P w K mg base 5 a.f__law_word_right [] (p__law_word_right a) := by
  obtain ⟨oc, od, kV, doc, pm, an, cd, ct, osl, lk, hc⟩ := T.l__law_word_right
  exact fnG_of lk hc sc__law_word_right Perm.id (hb0 fun s us hl => match us, hl with | [_], _ => .of_eq rfl) (fun A outer s H E hr => d__law_word_right T A outer s H E hr)
theorem sc_is_integer : FnScope ["thing", "least"] ["thing", "least"] (defScope s_is_integer) := ⟨rfl, rfl, rfl, by decide +kernel, rfl, by decide +kernel, by decide +kernel⟩
set_option maxRecDepth 100000 in
theorem d_is_integer (T : Fx K mg a) {f : Addr} {cd : Value} (A : Around) (outer : List Env) (s : Shared) (H : Hp) (E : XK) (hr : RoomG 0 (A.deeper (envOfC "is_integer" (defScope s_is_integer) s.heap.objs.size f cd))) :
    DSs (cxOf (L2.CX P w) P w K mg base ["thing", "least"] "is_integer" (defScope s_is_integer) f cd A outer s H E) (fun cls d _ H => E cls d H) (defBody s_is_integer) (m_is_integer a) := by
  have tk := takes_cx (P := P) (w := w) (K := K) (mg := mg) (base := base) (N := ["thing", "least"]) (qual := "is_integer") (scope := defScope s_is_integer) (f := f) (cd := cd) (A := A) (outer := outer) (s := s) (H := H) (E := E)
  unfold m_is_integer
  exact (dss_one (ds_ret (dp_and (c_isi T.b_isinstance (dp_var (i := 0) rfl (by first | exact .inl rfl | exact .inr (.inl rfl) | exact .inr (.inr rfl))) (c_ty_int T.b_int)) (dp_and (dp_not (c_isi T.b_isinstance (dp_var (i := 0) rfl (by first | exact .inl rfl | exact .inr (.inl rfl) | exact .inr (.inr rfl))) (c_ty_bool T.b_bool))) (dp_one (bCmp kGe (dp_var (i := 0) rfl (by first | exact .inl rfl | exact .inr (.inl rfl) | exact .inr (.inr rfl))) (dp_var (i := 1) rfl (by first | exact .inl rfl | exact .inr (.inl rfl) | exact .inr (.inr rfl)))))))))
theorem g_is_integer (T : Fx K mg a) : FnG P w K mg base 1 a.f_is_integer [] (p_is_integer a) := by
  obtain ⟨oc, od, kV, doc, pm, an, cd, ct, osl, lk, hc⟩ := T.l_is_integer
  exact fnG_of lk hc sc_is_integer Perm.id (hb0 fun s us hl => match us, hl with | [_, _], _ => .of_eq rfl) (fun A outer s H E hr => d_is_integer T A outer s H E hr)
theorem sc_are_values : FnScope ["thing", "value", "one", "other"] ["thing"] (defScope s_are_values) := ⟨rfl, rfl, rfl, by decide +kernel, rfl, by decide +kernel, by decide +kernel⟩
set_option maxRecDepth 100000 in
theorem d_are_values (T : Fx K mg a) {f : Addr} {cd : Value} (A : Around) (outer : List Env) (s : Shared) (H : Hp) (E : XK) (hr : RoomG 1 (A.deeper (envOfC "are_values" (defScope s_are_values) s.heap.objs.size f cd))) :
    DSs (cxOf (L2.CX P w) P w K mg base ["thing", "value", "one", "other"] "are_values" (defScope s_are_values) f cd A outer s H E) (fun cls d _ H => E cls d H) (defBody s_are_values) (m_are_values a) := by
  have tk := takes_cx (P := P) (w := w) (K := K) (mg := mg) (base := base) (N := ["thing", "value", "one", "other"]) (qual := "are_values") (scope := defScope s_are_values) (f := f) (cd := cd) (A := A) (outer := outer) (s := s) (H := H) (E := E)
  unfold m_are_values
  exact (dss_cons (ds_if (dt_w (dw_or (dt_not (dt_tru (c_isi T.b_isinstance (dp_var (i := 0) rfl (by first | exact .inl rfl | exact .inr (.inl rfl) | exact .inr (.inr rfl))) (c_ty_list T.b_list)))) (dw_or1 (dt_not (tChain kLe kLe dp_int (c_len T.b_len (dp_var (i := 0) rfl (by first | exact .inl rfl | exact .inr (.inl rfl) | exact .inr (.inr rfl)))) (dp_cval rfl T.m_System T.cr_System T.cv_System_MOST T.cd_System_MOST))))))
    (dss_one (ds_ret dp_bl))
    dss_nil)
    (dss_cons (ds_if (dt_not (dt_tru (c_all rfl T.b_all (dp_lc (own := [("value", 1)]) rfl sc_are_values.nd (di_list (dp_var (i := 0) rfl (by first | exact .inl rfl | exact .inr (.inl rfl) | exact .inr (.inr rfl)))) (blkOk_by rfl) (fun _ _ _ _ _ => (dv_name sc_are_values.nd (i := 1) rfl (by decide) (by first | exact .inl rfl | exact .inr rfl) (by first | exact .inr rfl | exact .inl rfl))) (fun _ _ _ _ _ => dts_nil) (fun _ _ _ _ _ => (dp_and (dp_call (g_is_integer T) (hr.mono (by decide)) takes_no rfl T.m_is_integer T.kp_is_integer (da_cons (dp_var (i := 1) rfl (by first | exact .inl rfl | exact .inr (.inl rfl) | exact .inr (.inr rfl))) (da_cons dp_int da_nil))) (dp_one (bCmp kLe (dp_var (i := 1) rfl (by first | exact .inl rfl | exact .inr (.inl rfl) | exact .inr (.inr rfl))) (dp_globI rfl T.gi_MOST_VALUE)))))))))
    (dss_one (ds_ret dp_bl))
    dss_nil)
    (dss_one (ds_ret (c_all rfl T.b_all (dp_lc (own := [("one", 2), ("other", 3)]) rfl sc_are_values.nd (di_zip rfl T.b_zip (da_cons (dp_var (i := 0) rfl (by first | exact .inl rfl | exact .inr (.inl rfl) | exact .inr (.inr rfl))) (da_cons (dp_slice (dp_var (i := 0) rfl (by first | exact .inl rfl | exact .inr (.inl rfl) | exact .inr (.inr rfl))) (do_some dp_int) do_none) da_nil))) (blkOk_by rfl) (fun _ _ _ _ _ => (dv_tup rfl (dvs_cons (dv_name sc_are_values.nd (i := 2) rfl (by decide) (by first | exact .inl rfl | exact .inr rfl) (by first | exact .inr rfl | exact .inl rfl)) (dvs_cons (dv_name sc_are_values.nd (i := 3) rfl (by decide) (by first | exact .inl rfl | exact .inr rfl) (by first | exact .inr rfl | exact .inl rfl)) dvs_nil)) (fun _ _ _ h => gCons_len (fun _ _ _ h => gCons_len (fun _ _ _ h => gNil_len h) h) h))) (fun _ _ _ _ _ => dts_nil) (fun _ _ _ _ _ => (bCmp kLt (dp_var (i := 2) rfl (by first | exact .inl rfl | exact .inr (.inl rfl) | exact .inr (.inr rfl))) (dp_var (i := 3) rfl (by first | exact .inl rfl | exact .inr (.inl rfl) | exact .inr (.inr rfl)))))))))))
theorem g_are_values (T : Fx K mg a) : FnG P w K mg base 2 a.f_are_values [] (p_are_values a) := by
  obtain ⟨oc, od, kV, doc, pm, an, cd, ct, osl, lk, hc⟩ := T.l_are_values
  exact fnG_of lk hc sc_are_values Perm.id (hb0 fun s us hl => match us, hl with | [_], _ => .of_eq rfl) (fun A outer s H E hr => d_are_values T A outer s H E hr)
theorem sc_is_rule : FnScope ["thing"] ["thing"] (defScope s_is_rule) := ⟨rfl, rfl, rfl, by decide +kernel, rfl, by decide +kernel, by decide +kernel⟩
set_option maxRecDepth 100000 in
theorem d_is_rule (T : Fx K mg a) {f : Addr} {cd : Value} (A : Around) (outer : List Env) (s : Shared) (H : Hp) (E : XK) (hr : RoomG 0 (A.deeper (envOfC "is_rule" (defScope s_is_rule) s.heap.objs.size f cd))) :
    DSs (cxOf (L2.CX P w) P w K mg base ["thing"] "is_rule" (defScope s_is_rule) f cd A outer s H E) (fun cls d _ H => E cls d H) (defBody s_is_rule) (m_is_rule a) := by
  have tk := takes_cx (P := P) (w := w) (K := K) (mg := mg) (base := base) (N := ["thing"]) (qual := "is_rule") (scope := defScope s_is_rule) (f := f) (cd := cd) (A := A) (outer := outer) (s := s) (H := H) (E := E)
  unfold m_is_rule
  exact (dss_one (ds_ret (dp_and (c_isi T.b_isinstance (dp_var (i := 0) rfl (by first | exact .inl rfl | exact .inr (.inl rfl) | exact .inr (.inr rfl))) (c_ty_str T.b_str)) (dp_one (bCmp kIn (dp_var (i := 0) rfl (by first | exact .inl rfl | exact .inr (.inl rfl) | exact .inr (.inr rfl))) (dp_cval rfl T.m_Rule T.cr_Rule T.cv_Rule_ALL T.cd_Rule_ALL))))))
theorem g_is_rule (T : Fx K mg a) : FnG P w K mg base 1 a.f_is_rule [] (p_is_rule a) := by
  obtain ⟨oc, od, kV, doc, pm, an, cd, ct, osl, lk, hc⟩ := T.l_is_rule
  exact fnG_of lk hc sc_is_rule Perm.id (hb0 fun s us hl => match us, hl with | [_], _ => .of_eq rfl) (fun A outer s H E hr => d_is_rule T A outer s H E hr)
theorem sc_System_init : FnScope ["self", "rule", "values"] ["self", "rule", "values"] (defScope s_System_init) := ⟨rfl, rfl, rfl, by decide +kernel, rfl, by decide +kernel, by decide +kernel⟩
set_option maxRecDepth 100000 in
theorem d_System_init (T : Fx K mg a) {f : Addr} {cd : Value} (A : Around) (outer : List Env) (s : Shared) (H : Hp) (E : XK) (hr : RoomG 2 (A.deeper (envOfC "System.__init__" (defScope s_System_init) s.heap.objs.size f cd))) :
    DSs (cxOf (L2.CX P w) P w K mg base ["self", "rule", "values"] "System.__init__" (defScope s_System_init) f cd A outer s H E) (fun cls d _ H => E cls d H) (defBody s_System_init) (m_System_init a) := by
  have tk := takes_cx (P := P) (w := w) (K := K) (mg := mg) (base := base) (N := ["self", "rule", "values"]) (qual := "System.__init__") (scope := defScope s_System_init) (f := f) (cd := cd) (A := A) (outer := outer) (s := s) (H := H) (E := E)
  unfold m_System_init
  exact (dss_cons (ds_if (dt_w (dw_or (dt_not (dt_tru (dp_call (g_are_values T) (hr.mono (by decide)) tk rfl T.m_are_values T.kp_are_values (da_cons (c_list T.b_list (dp_var (i := 2) rfl (by first | exact .inl rfl | exact .inr (.inl rfl) | exact .inr (.inr rfl)))) da_nil)))) (dw_or1 (dt_not (dt_tru (dp_call (g_is_rule T) (hr.mono (by decide)) tk rfl T.m_is_rule T.kp_is_rule (da_cons (dp_var (i := 1) rfl (by first | exact .inl rfl | exact .inr (.inl rfl) | exact .inr (.inr rfl))) da_nil)))))))
    (dss_one ds_never)
    dss_nil)
    (dss_cons (ds_putF (dp_var (i := 0) rfl (by first | exact .inl rfl | exact .inr (.inl rfl) | exact .inr (.inr rfl))) (c_list T.b_list (dp_var (i := 2) rfl (by first | exact .inl rfl | exact .inr (.inl rfl) | exact .inr (.inr rfl)))) T.cl_System T.na_System_held_values)
    (dss_one (ds_putF (dp_var (i := 0) rfl (by first | exact .inl rfl | exact .inr (.inl rfl) | exact .inr (.inr rfl))) (dp_var (i := 1) rfl (by first | exact .inl rfl | exact .inr (.inl rfl) | exact .inr (.inr rfl))) T.cl_System T.na_System_held_rule))))
theorem g_System_init_k_rule (T : Fx K mg a) : FnG P w K mg base 3 a.f_System_init ["rule"] (p_System_init_k_rule a) := by
  obtain ⟨oc, od, kV, doc, pm, an, cd, ct, osl, lk, hc⟩ := T.l_System_init
  exact fnG_sk lk hc sc_System_init (fun x y r => by cases r <;> rfl) (fun A outer s H E hr => d_System_init T A outer s H E hr)
theorem sc_System_of : FnScope ["cls", "values", "rule"] ["cls", "values", "rule"] (defScope s_System_of) := ⟨rfl, rfl, rfl, by decide +kernel, rfl, by decide +kernel, by decide +kernel⟩
set_option maxRecDepth 100000 in
theorem d_System_of (T : Fx K mg a) {f : Addr} {cd : Value} (A : Around) (outer : List Env) (s : Shared) (H : Hp) (E : XK) (hr : RoomG 4 (A.deeper (envOfC "System.of" (defScope s_System_of) s.heap.objs.size f cd))) :
    DSs (cxOf (L2.CX P w) P w K mg base ["cls", "values", "rule"] "System.of" (defScope s_System_of) f cd A outer s H E) (fun cls d _ H => E cls d H) (defBody s_System_of) (m_System_of a) := by
  have tk := takes_cx (P := P) (w := w) (K := K) (mg := mg) (base := base) (N := ["cls", "values", "rule"]) (qual := "System.of") (scope := defScope s_System_of) (f := f) (cd := cd) (A := A) (outer := outer) (s := s) (H := H) (E := E)
  unfold m_System_of
  exact (dss_cons (ds_if (dt_not (dt_tru (dp_call (g_are_values T) (hr.mono (by decide)) tk rfl T.m_are_values T.kp_are_values (da_cons (dp_var (i := 1) rfl (by first | exact .inl rfl | exact .inr (.inl rfl) | exact .inr (.inr rfl))) da_nil))))
    (dss_one ds_never)
    dss_nil)
    (dss_one (ds_ret (dp_makeS (dp_var (i := 0) rfl (by first | exact .inl rfl | exact .inr (.inl rfl) | exact .inr (.inr rfl))) T.mk_System (g_System_init_k_rule T) (hr.mono (by decide)) tk (dp_var (i := 1) rfl (by first | exact .inl rfl | exact .inr (.inl rfl) | exact .inr (.inr rfl))) (dk_cons (dp_var (i := 2) rfl (by first | exact .inl rfl | exact .inr (.inl rfl) | exact .inr (.inr rfl))) dk_nil) (fun _ _ _ h => aCons_len (fun _ _ _ h => aNil_len h) h)))))
theorem g_System_of (T : Fx K mg a) : FnG P w K mg base 5 a.f_System_of [] (p_System_of a) := by
  obtain ⟨oc, od, kV, doc, pm, an, cd, ct, osl, lk, hc⟩ := T.l_System_of
  exact fnG_of lk hc sc_System_of Perm.id (hb0 fun s us hl => match us, hl with | [_, _, _], _ => .of_eq rfl) (fun A outer s H E hr => d_System_of T A outer s H E hr)
theorem sc_common_divisor : FnScope ["values", "found", "value", "other"] ["values"] (defScope s_common_divisor) := ⟨rfl, rfl, rfl, by decide +kernel, rfl, by decide +kernel, by decide +kernel⟩
set_option maxRecDepth 100000 in
theorem d_common_divisor (T : Fx K mg a) {f : Addr} {cd : Value} (A : Around) (outer : List Env) (s : Shared) (H : Hp) (E : XK) (hr : RoomG 0 (A.deeper (envOfC "common_divisor" (defScope s_common_divisor) s.heap.objs.size f cd))) :
    DSs (cxOf (L2.CX P w) P w K mg base ["values", "found", "value", "other"] "common_divisor" (defScope s_common_divisor) f cd A outer s H E) (fun cls d _ H => E cls d H) (defBody s_common_divisor) (m_common_divisor a) := by
  have tk := takes_cx (P := P) (w := w) (K := K) (mg := mg) (base := base) (N := ["values", "found", "value", "other"]) (qual := "common_divisor") (scope := defScope s_common_divisor) (f := f) (cd := cd) (A := A) (outer := outer) (s := s) (H := H) (E := E)
  unfold m_common_divisor
  exact (dss_cons (ds_set sc_common_divisor.nd (i := 1) rfl (by first | exact .inl rfl | exact .inr rfl) (bIx (dp_var (i := 0) rfl (by first | exact .inl rfl | exact .inr (.inl rfl) | exact .inr (.inr rfl))) dp_int))
    (dss_cons (ds_for (passes_of rfl) rfl (di_list (dp_slice (dp_var (i := 0) rfl (by first | exact .inl rfl | exact .inr (.inl rfl) | exact .inr (.inr rfl))) (do_some dp_int) do_none)) (dg_name sc_common_divisor.nd (i := 2) rfl (by first | exact .inl rfl | exact .inr rfl))
    (dss_cons (ds_set sc_common_divisor.nd (i := 3) rfl (by first | exact .inl rfl | exact .inr rfl) (dp_var (i := 2) rfl (by first | exact .inl rfl | exact .inr (.inl rfl) | exact .inr (.inr rfl))))
    (dss_one (ds_while 100 (passes_of rfl) (tCmp kGt (dp_var (i := 3) rfl (by first | exact .inl rfl | exact .inr (.inl rfl) | exact .inr (.inr rfl))) dp_int)
    (dss_one (ds_par (i := 1) (j := 3) rfl sc_common_divisor.nd rfl rfl (by decide) rfl rfl (da_cons (dp_var (i := 3) rfl (by first | exact .inl rfl | exact .inr (.inl rfl) | exact .inr (.inr rfl))) (da_cons (bBin kMod (dp_var (i := 1) rfl (by first | exact .inl rfl | exact .inr (.inl rfl) | exact .inr (.inr rfl))) (dp_var (i := 3) rfl (by first | exact .inl rfl | exact .inr (.inl rfl) | exact .inr (.inr rfl)))) da_nil)) rfl))))))
    (dss_one (ds_ret (dp_var (i := 1) rfl (by first | exact .inl rfl | exact .inr (.inl rfl) | exact .inr (.inr rfl)))))))
theorem g_common_divisor (T : Fx K mg a) : FnG P w K mg base 1 a.f_common_divisor [] (p_common_divisor a) := by
  obtain ⟨oc, od, kV, doc, pm, an, cd, ct, osl, lk, hc⟩ := T.l_common_divisor
  exact fnG_of lk hc sc_common_divisor Perm.id (hb0 fun s us hl => match us, hl with | [_], _ => .of_eq rfl) (fun A outer s H E hr => d_common_divisor T A outer s H E hr)
theorem sc_System_divisor : FnScope ["self"] ["self"] (defScope s_System_divisor) := ⟨rfl, rfl, rfl, by decide +kernel, rfl, by decide +kernel, by decide +kernel⟩
set_option maxRecDepth 100000 in
theorem d_System_divisor (T : Fx K mg a) {f : Addr} {cd : Value} (A : Around) (outer : List Env) (s : Shared) (H : Hp) (E : XK) (hr : RoomG 1 (A.deeper (envOfC "System.divisor" (defScope s_System_divisor) s.heap.objs.size f cd))) :
    DSs (cxOf (L2.CX P w) P w K mg base ["self"] "System.divisor" (defScope s_System_divisor) f cd A outer s H E) (fun cls d _ H => E cls d H) (defBody s_System_divisor) (m_System_divisor a) := by
  have tk := takes_cx (P := P) (w := w) (K := K) (mg := mg) (base := base) (N := ["self"]) (qual := "System.divisor") (scope := defScope s_System_divisor) (f := f) (cd := cd) (A := A) (outer := outer) (s := s) (H := H) (E := E)
  unfold m_System_divisor
  exact (dss_one (ds_ret (dp_call (g_common_divisor T) (hr.mono (by decide)) tk rfl T.m_common_divisor T.kp_common_divisor (da_cons (dp_fld (dp_var (i := 0) rfl (by first | exact .inl rfl | exact .inr (.inl rfl) | exact .inr (.inr rfl))) T.cl_System T.na_System_held_values) da_nil))))
theorem g_System_divisor (T : Fx K mg a) : FnG P w K mg base 2 a.f_System_divisor [] (p_System_divisor a) := by
  obtain ⟨oc, od, kV, doc, pm, an, cd, ct, osl, lk, hc⟩ := T.l_System_divisor
  exact fnG_of lk hc sc_System_divisor Perm.id (hb0 fun s us hl => match us, hl with | [_], _ => .of_eq rfl) (fun A outer s H E hr => d_System_divisor T A outer s H E hr)
theorem sc_System_greatest : FnScope ["self"] ["self"] (defScope s_System_greatest) := ⟨rfl, rfl, rfl, by decide +kernel, rfl, by decide +kernel, by decide +kernel⟩
set_option maxRecDepth 100000 in
theorem d_System_greatest (T : Fx K mg a) {f : Addr} {cd : Value} (A : Around) (outer : List Env) (s : Shared) (H : Hp) (E : XK) (hr : RoomG 0 (A.deeper (envOfC "System.greatest" (defScope s_System_greatest) s.heap.objs.size f cd))) :
    DSs (cxOf (L2.CX P w) P w K mg base ["self"] "System.greatest" (defScope s_System_greatest) f cd A outer s H E) (fun cls d _ H => E cls d H) (defBody s_System_greatest) (m_System_greatest a) := by
  have tk := takes_cx (P := P) (w := w) (K := K) (mg := mg) (base := base) (N := ["self"]) (qual := "System.greatest") (scope := defScope s_System_greatest) (f := f) (cd := cd) (A := A) (outer := outer) (s := s) (H := H) (E := E)
  unfold m_System_greatest
  exact (dss_one (ds_ret (bIx (dp_fld (dp_var (i := 0) rfl (by first | exact .inl rfl | exact .inr (.inl rfl) | exact .inr (.inr rfl))) T.cl_System T.na_System_held_values) (dp_neg dp_int))))
theorem g_System_greatest (T : Fx K mg a) : FnG P w K mg base 1 a.f_System_greatest [] (p_System_greatest a) := by
  obtain ⟨oc, od, kV, doc, pm, an, cd, ct, osl, lk, hc⟩ := T.l_System_greatest
  exact fnG_of lk hc sc_System_greatest Perm.id (hb0 fun s us hl => match us, hl with | [_], _ => .of_eq rfl) (fun A outer s H E hr => d_System_greatest T A outer s H E hr)
theorem sc_System_rule : FnScope ["self"] ["self"] (defScope s_System_rule) := ⟨rfl, rfl, rfl, by decide +kernel, rfl, by decide +kernel, by decide +kernel⟩
set_option maxRecDepth 100000 in
theorem d_System_rule (T : Fx K mg a) {f : Addr} {cd : Value} (A : Around) (outer : List Env) (s : Shared) (H : Hp) (E : XK) (hr : RoomG 0 (A.deeper (envOfC "System.rule" (defScope s_System_rule) s.heap.objs.size f cd))) :
    DSs (cxOf (L2.CX P w) P w K mg base ["self"] "System.rule" (defScope s_System_rule) f cd A outer s H E) (fun cls d _ H => E cls d H) (defBody s_System_rule) (m_System_rule a) := by
  have tk := takes_cx (P := P) (w := w) (K := K) (mg := mg) (base := base) (N := ["self"]) (qual := "System.rule") (scope := defScope s_System_rule) (f := f) (cd := cd) (A := A) (outer := outer) (s := s) (H := H) (E := E)
  unfold m_System_rule
  exact (dss_one (ds_ret (dp_fld (dp_var (i := 0) rfl (by first | exact .inl rfl | exact .inr (.inl rfl) | exact .inr (.inr rfl))) T.cl_System T.na_System_held_rule)))
theorem g_System_rule (T : Fx K mg a) : FnG P w K mg base 1 a.f_System_rule [] (p_System_rule a) := by
  obtain ⟨oc, od, kV, doc, pm, an, cd, ct, osl, lk, hc⟩ := T.l_System_rule
  exact fnG_of lk hc sc_System_rule Perm.id (hb0 fun s us hl => match us, hl with | [_], _ => .of_eq rfl) (fun A outer s H E hr => d_System_rule T A outer s H E hr)
theorem sc_System_row : FnScope ["self"] ["self"] (defScope s_System_row) := ⟨rfl, rfl, rfl, by decide +kernel, rfl, by decide +kernel, by decide +kernel⟩
set_option maxRecDepth 100000 in
theorem d_System_row (T : Fx K mg a) {f : Addr} {cd : Value} (A : Around) (outer : List Env) (s : Shared) (H : Hp) (E : XK) (hr : RoomG 0 (A.deeper (envOfC "System.row" (defScope s_System_row) s.heap.objs.size f cd))) :
    DSs (cxOf (L2.CX P w) P w K mg base ["self"] "System.row" (defScope s_System_row) f cd A outer s H E) (fun cls d _ H => E cls d H) (defBody s_System_row) (m_System_row a) := by
  have tk := takes_cx (P := P) (w := w) (K := K) (mg := mg) (base := base) (N := ["self"]) (qual := "System.row") (scope := defScope s_System_row) (f := f) (cd := cd) (A := A) (outer := outer) (s := s) (H := H) (E := E)
  unfold m_System_row
  exact (dss_one (ds_ret (c_list T.b_list (dp_fld (dp_var (i := 0) rfl (by first | exact .inl rfl | exact .inr (.inl rfl) | exact .inr (.inr rfl))) T.cl_System T.na_System_held_values))))
theorem g_System_row (T : Fx K mg a) : FnG P w K mg base 1 a.f_System_row [] (p_System_row a) := by
  obtain ⟨oc, od, kV, doc, pm, an, cd, ct, osl, lk, hc⟩ := T.l_System_row
  exact fnG_of lk hc sc_System_row Perm.id (hb0 fun s us hl => match us, hl with | [_], _ => .of_eq rfl) (fun A outer s H E hr => d_System_row T A outer s H E hr)
theorem sc__law_shown : FnScope ["_law_numerals"] ["_law_numerals"] (defScope s__law_shown) := ⟨rfl, rfl, rfl, by decide +kernel, rfl, by decide +kernel, by decide +kernel⟩
set_option maxRecDepth 100000 in
theorem d__law_shown (T : Fx K mg a) {f : Addr} {cd : Value} (A : Around) (outer : List Env) (s : Shared) (H : Hp) (E : XK) (hr : RoomG 3 (A.deeper (envOfC "_law_shown" (defScope s__law_shown) s.heap.objs.size f cd))) :
    DSs (cxOf (L2.CX P w) P w K mg base ["_law_numerals"] "_law_shown" (defScope s__law_shown) f cd A outer s H E) (fun cls d _ H => E cls d H) (defBody s__law_shown) (m__law_shown a) := by
  have tk := takes_cx (P := P) (w := w) (K := K) (mg := mg) (base := base) (N := ["_law_numerals"]) (qual := "_law_shown") (scope := defScope s__law_shown) (f := f) (cd := cd) (A := A) (outer := outer) (s := s) (H := H) (E := E)
  unfold m__law_shown
  exact (dss_one (ds_ret (dp_lst (da_cons (dp_prop (dp_var (i := 0) rfl (by first | exact .inl rfl | exact .inr (.inl rfl) | exact .inr (.inr rfl))) T.cl_System T.pr_System_row (g_System_row T) (hr.mono (by decide))) (da_cons (dp_prop (dp_var (i := 0) rfl (by first | exact .inl rfl | exact .inr (.inl rfl) | exact .inr (.inr rfl))) T.cl_System T.pr_System_rule (g_System_rule T) (hr.mono (by decide))) (da_cons (dp_prop (dp_var (i := 0) rfl (by first | exact .inl rfl | exact .inr (.inl rfl) | exact .inr (.inr rfl))) T.cl_System T.pr_System_greatest (g_System_greatest T) (hr.mono (by decide))) (da_cons (dp_prop (dp_var (i := 0) rfl (by first | exact .inl rfl | exact .inr (.inl rfl) | exact .inr (.inr rfl))) T.cl_System T.pr_System_divisor (g_System_divisor T) (hr.mono (by decide))) da_nil)))))))
theorem g__law_shown (T : Fx K mg a) : FnG P w K mg base 4 a.f__law_shown [] (p__law_shown a) := by
  obtain ⟨oc, od, kV, doc, pm, an, cd, ct, osl, lk, hc⟩ := T.l__law_shown
  exact fnG_of lk hc sc__law_shown Perm.id (hb0 fun s us hl => match us, hl with | [_], _ => .of_eq rfl) (fun A outer s H E hr => d__law_shown T A outer s H E hr)
theorem sc_write_system : FnScope ["system", "value"] ["system"] (defScope s_write_system) := ⟨rfl, rfl, rfl, by decide +kernel, rfl, by decide +kernel, by decide +kernel⟩
set_option maxRecDepth 100000 in
theorem d_write_system (T : Fx K mg a) {f : Addr} {cd : Value} (A : Around) (outer : List Env) (s : Shared) (H : Hp) (E : XK) (hr : RoomG 2 (A.deeper (envOfC "write_system" (defScope s_write_system) s.heap.objs.size f cd))) :
    DSs (cxOf (L2.CX P w) P w K mg base ["system", "value"] "write_system" (defScope s_write_system) f cd A outer s H E) (fun cls d _ H => E cls d H) (defBody s_write_system) (m_write_system a) := by
  have tk := takes_cx (P := P) (w := w) (K := K) (mg := mg) (base := base) (N := ["system", "value"]) (qual := "write_system") (scope := defScope s_write_system) (f := f) (cd := cd) (A := A) (outer := outer) (s := s) (H := H) (E := E)
  unfold m_write_system
  exact (dss_one (ds_ret (dp_join dp_str (bBin kAdd (dp_lst (da_cons (dp_prop (dp_var (i := 0) rfl (by first | exact .inl rfl | exact .inr (.inl rfl) | exact .inr (.inr rfl))) T.cl_System T.pr_System_rule (g_System_rule T) (hr.mono (by decide))) da_nil)) (dp_lc (own := [("value", 1)]) rfl sc_write_system.nd (di_list (dp_prop (dp_var (i := 0) rfl (by first | exact .inl rfl | exact .inr (.inl rfl) | exact .inr (.inr rfl))) T.cl_System T.pr_System_row (g_System_row T) (hr.mono (by decide)))) (blkOk_by rfl) (fun _ _ _ _ _ => (dv_name sc_write_system.nd (i := 1) rfl (by decide) (by first | exact .inl rfl | exact .inr rfl) (by first | exact .inr rfl | exact .inl rfl))) (fun _ _ _ _ _ => dts_nil) (fun _ _ _ _ _ => (c_str T.b_str (dp_var (i := 1) rfl (by first | exact .inl rfl | exact .inr (.inl rfl) | exact .inr (.inr rfl))))))))))
theorem g_write_system (T : Fx K mg a) : FnG P w K mg base 3 a.f_write_system [] (p_write_system a) := by
  obtain ⟨oc, od, kV, doc, pm, an, cd, ct, osl, lk, hc⟩ := T.l_write_system
  exact fnG_of lk hc sc_write_system Perm.id (hb0 fun s us hl => match us, hl with | [_], _ => .of_eq rfl) (fun A outer s H E hr => d_write_system T A outer s H E hr)
theorem g_write_system_k_system (T : Fx K mg a) : FnG P w K mg base 3 a.f_write_system ["system"] (p_write_system_k_system a) := by
  obtain ⟨oc, od, kV, doc, pm, an, cd, ct, osl, lk, hc⟩ := T.l_write_system
  exact fnG_of lk hc sc_write_system Perm.id (hbK fun s us hl => match us, hl with | [_], _ => .of_eq rfl) (fun A outer s H E hr => d_write_system T A outer s H E hr)
theorem sc_read_system : FnScope ["text", "values", "name", "index", "part", "value", "parts"] ["text"] (defScope s_read_system) := ⟨rfl, rfl, rfl, by decide +kernel, rfl, by decide +kernel, by decide +kernel⟩
set_option maxRecDepth 100000 in
theorem d_read_system (T : Fx K mg a) {f : Addr} {cd : Value} (A : Around) (outer : List Env) (s : Shared) (H : Hp) (E : XK) (hr : RoomG 5 (A.deeper (envOfC "read_system" (defScope s_read_system) s.heap.objs.size f cd))) :
    DSs (cxOf (L2.CX P w) P w K mg base ["text", "values", "name", "index", "part", "value", "parts"] "read_system" (defScope s_read_system) f cd A outer s H E) (fun cls d _ H => E cls d H) (defBody s_read_system) (m_read_system a) := by
  have tk := takes_cx (P := P) (w := w) (K := K) (mg := mg) (base := base) (N := ["text", "values", "name", "index", "part", "value", "parts"]) (qual := "read_system") (scope := defScope s_read_system) (f := f) (cd := cd) (A := A) (outer := outer) (s := s) (H := H) (E := E)
  unfold m_read_system
  exact (dss_cons (ds_star (i := 2) (j := 6) rfl sc_read_system.nd rfl rfl (by first | exact .inl rfl | exact .inr rfl) (by first | exact .inl rfl | exact .inr rfl) (by first | exact .inr rfl | exact .inl rfl) (by first | exact .inr rfl | exact .inl rfl) (dp_split (dp_var (i := 0) rfl (by first | exact .inl rfl | exact .inr (.inl rfl) | exact .inr (.inr rfl))) dp_str))
    (dss_cons (ds_if (tCmp kNotIn (dp_var (i := 2) rfl (by first | exact .inl rfl | exact .inr (.inl rfl) | exact .inr (.inr rfl))) (dp_cval rfl T.m_Rule T.cr_Rule T.cv_Rule_ALL T.cd_Rule_ALL))
    (dss_one ds_never)
    dss_nil)
    (dss_cons (ds_set sc_read_system.nd (i := 1) rfl (by first | exact .inl rfl | exact .inr rfl) (dp_lst da_nil))
    (dss_cons (ds_for (passes_of rfl) rfl (di_enumS rfl T.b_enumerate (da_cons (dp_var (i := 6) rfl (by first | exact .inl rfl | exact .inr (.inl rfl) | exact .inr (.inr rfl))) (da_cons dp_int da_nil))) (dg_tup rfl (dgs_cons (dg_name sc_read_system.nd (i := 3) rfl (by first | exact .inl rfl | exact .inr rfl)) (dgs_cons (dg_name sc_read_system.nd (i := 4) rfl (by first | exact .inl rfl | exact .inr rfl)) dgs_nil)) (fun _ _ _ h => gCons_len (fun _ _ _ h => gCons_len (fun _ _ _ h => gNil_len h) h) h))
    (dss_cons (ds_set sc_read_system.nd (i := 5) rfl (by first | exact .inl rfl | exact .inr rfl) (dp_call (g_sign_in T) (hr.mono (by decide)) tk rfl T.m_sign_in T.kp_sign_in (da_cons (dp_var (i := 4) rfl (by first | exact .inl rfl | exact .inr (.inl rfl) | exact .inr (.inr rfl))) da_nil)))
    (dss_cons (ds_if (dt_w (dw_or (tCmp kIs (dp_var (i := 5) rfl (by first | exact .inl rfl | exact .inr (.inl rfl) | exact .inr (.inr rfl))) dp_non) (dw_or (tCmp kGe (c_len T.b_len (dp_var (i := 1) rfl (by first | exact .inl rfl | exact .inr (.inl rfl) | exact .inr (.inr rfl)))) (dp_cval rfl T.m_System T.cr_System T.cv_System_MOST T.cd_System_MOST)) (dw_or1 (dt_w (dw_and (tCmp (kNe hr.hu) (dp_var (i := 1) rfl (by first | exact .inl rfl | exact .inr (.inl rfl) | exact .inr (.inr rfl))) (dp_lst da_nil)) (dw_and1 (tCmp kLe (dp_var (i := 5) rfl (by first | exact .inl rfl | exact .inr (.inl rfl) | exact .inr (.inr rfl))) (bIx (dp_var (i := 1) rfl (by first | exact .inl rfl | exact .inr (.inl rfl) | exact .inr (.inr rfl))) (dp_neg dp_int))))))))))
    (dss_one ds_never)
    dss_nil)
    (dss_one (ds_expr (dp_append (dp_var (i := 1) rfl (by first | exact .inl rfl | exact .inr (.inl rfl) | exact .inr (.inr rfl))) (da_cons (dp_var (i := 5) rfl (by first | exact .inl rfl | exact .inr (.inl rfl) | exact .inr (.inr rfl))) da_nil)))))))
    (dss_cons (ds_if (tCmp (kEq hr.hu) (dp_var (i := 1) rfl (by first | exact .inl rfl | exact .inr (.inl rfl) | exact .inr (.inr rfl))) (dp_lst da_nil))
    (dss_one ds_never)
    dss_nil)
    (dss_one (ds_ret (dp_cmeth rfl T.m_System T.cr_System T.cm_System_of (g_System_of T) (hr.mono (by decide)) tk (da_cons (dp_var (i := 1) rfl (by first | exact .inl rfl | exact .inr (.inl rfl) | exact .inr (.inr rfl))) (da_cons (dp_var (i := 2) rfl (by first | exact .inl rfl | exact .inr (.inl rfl) | exact .inr (.inr rfl))) da_nil))))))))))
theorem g_read_system (T : Fx K mg a) : FnG P w K mg base 6 a.f_read_system [] (p_read_system a) := by
  obtain ⟨oc, od, kV, doc, pm, an, cd, ct, osl, lk, hc⟩ := T.l_read_system
  exact fnG_of lk hc sc_read_system Perm.id (hb0 fun s us hl => match us, hl with | [_], _ => .of_eq rfl) (fun A outer s H E hr => d_read_system T A outer s H E hr)
theorem g_read_system_k_text (T : Fx K mg a) : FnG P w K mg base 6 a.f_read_system ["text"] (p_read_system_k_text a) := by
  obtain ⟨oc, od, kV, doc, pm, an, cd, ct, osl, lk, hc⟩ := T.l_read_system
  exact fnG_of lk hc sc_read_system Perm.id (hbK fun s us hl => match us, hl with | [_], _ => .of_eq rfl) (fun A outer s H E hr => d_read_system T A outer s H E hr)
theorem sc_System_with_rule : FnScope ["self", "rule"] ["self", "rule"] (defScope s_System_with_rule) := ⟨rfl, rfl, rfl, by decide +kernel, rfl, by decide +kernel, by decide +kernel⟩
set_option maxRecDepth 100000 in
theorem d_System_with_rule (T : Fx K mg a) {f : Addr} {cd : Value} (A : Around) (outer : List Env) (s : Shared) (H : Hp) (E : XK) (hr : RoomG 4 (A.deeper (envOfC "System.with_rule" (defScope s_System_with_rule) s.heap.objs.size f cd))) :
    DSs (cxOf (L2.CX P w) P w K mg base ["self", "rule"] "System.with_rule" (defScope s_System_with_rule) f cd A outer s H E) (fun cls d _ H => E cls d H) (defBody s_System_with_rule) (m_System_with_rule a) := by
  have tk := takes_cx (P := P) (w := w) (K := K) (mg := mg) (base := base) (N := ["self", "rule"]) (qual := "System.with_rule") (scope := defScope s_System_with_rule) (f := f) (cd := cd) (A := A) (outer := outer) (s := s) (H := H) (E := E)
  unfold m_System_with_rule
  exact (dss_one (ds_ret (dp_makeS (dp_glob (v := .ref a.c_System) rfl T.m_System rfl) T.mk_System (g_System_init_k_rule T) (hr.mono (by decide)) tk (dp_fld (dp_var (i := 0) rfl (by first | exact .inl rfl | exact .inr (.inl rfl) | exact .inr (.inr rfl))) T.cl_System T.na_System_held_values) (dk_cons (dp_var (i := 1) rfl (by first | exact .inl rfl | exact .inr (.inl rfl) | exact .inr (.inr rfl))) dk_nil) (fun _ _ _ h => aCons_len (fun _ _ _ h => aNil_len h) h))))
theorem g_System_with_rule (T : Fx K mg a) : FnG P w K mg base 5 a.f_System_with_rule [] (p_System_with_rule a) := by
  obtain ⟨oc, od, kV, doc, pm, an, cd, ct, osl, lk, hc⟩ := T.l_System_with_rule
  exact fnG_of lk hc sc_System_with_rule Perm.id (hb0 fun s us hl => match us, hl with | [_, _], _ => .of_eq rfl) (fun A outer s H E hr => d_System_with_rule T A outer s H E hr)
theorem sc__law_system_right : FnScope ["_law_scale_here", "_law_kind_here", "_law_numerals", "_law_other", "_law_due", "_law_shown_here", "_law_told", "_law_again", "_law_sign"] ["_law_scale_here", "_law_kind_here"] (defScope s__law_system_right) := ⟨rfl, rfl, rfl, by decide +kernel, rfl, by decide +kernel, by decide +kernel⟩
set_option maxRecDepth 100000 in
theorem d__law_system_right (T : Fx K mg a) {f : Addr} {cd : Value} (A : Around) (outer : List Env) (s : Shared) (H : Hp) (E : XK) (hr : RoomG 6 (A.deeper (envOfC "_law_system_right" (defScope s__law_system_right) s.heap.objs.size f cd))) :
    DSs (cxOf (L2.CX P w) P w K mg base ["_law_scale_here", "_law_kind_here", "_law_numerals", "_law_other", "_law_due", "_law_shown_here", "_law_told", "_law_again", "_law_sign"] "_law_system_right" (defScope s__law_system_right) f cd A outer s H E) (fun cls d _ H => E cls d H) (defBody s__law_system_right) (m__law_system_right a) := by
  have tk := takes_cx (P := P) (w := w) (K := K) (mg := mg) (base := base) (N := ["_law_scale_here", "_law_kind_here", "_law_numerals", "_law_other", "_law_due", "_law_shown_here", "_law_told", "_law_again", "_law_sign"]) (qual := "_law_system_right") (scope := defScope s__law_system_right) (f := f) (cd := cd) (A := A) (outer := outer) (s := s) (H := H) (E := E)
  unfold m__law_system_right
  exact (dss_cons (ds_set sc__law_system_right.nd (i := 2) rfl (by first | exact .inl rfl | exact .inr rfl) (dp_cmeth rfl T.m_System T.cr_System T.cm_System_of (g_System_of T) (hr.mono (by decide)) tk (da_cons (dp_var (i := 0) rfl (by first | exact .inl rfl | exact .inr (.inl rfl) | exact .inr (.inr rfl))) (da_cons (dp_var (i := 1) rfl (by first | exact .inl rfl | exact .inr (.inl rfl) | exact .inr (.inr rfl))) da_nil))))
    (dss_cons (ds_par (i := 4) (j := 5) rfl sc__law_system_right.nd rfl rfl (by decide) rfl rfl (da_cons (dp_join dp_str (bBin kAdd (dp_lst (da_cons (dp_var (i := 1) rfl (by first | exact .inl rfl | exact .inr (.inl rfl) | exact .inr (.inr rfl))) da_nil)) (dp_lc (own := [("_law_sign", 8)]) rfl sc__law_system_right.nd (di_list (dp_var (i := 0) rfl (by first | exact .inl rfl | exact .inr (.inl rfl) | exact .inr (.inr rfl)))) (blkOk_by rfl) (fun _ _ _ _ _ => (dv_name sc__law_system_right.nd (i := 8) rfl (by decide) (by first | exact .inl rfl | exact .inr rfl) (by first | exact .inr rfl | exact .inl rfl))) (fun _ _ _ _ _ => dts_nil) (fun _ _ _ _ _ => (c_str T.b_str (dp_var (i := 8) rfl (by first | exact .inl rfl | exact .inr (.inl rfl) | exact .inr (.inr rfl)))))))) (da_cons (dp_call (g__law_shown T) (hr.mono (by decide)) tk rfl T.m__law_shown T.kp__law_shown (da_cons (dp_var (i := 2) rfl (by first | exact .inl rfl | exact .inr (.inl rfl) | exact .inr (.inr rfl))) da_nil)) da_nil)) rfl)
    (dss_cons (ds_if (tCmp (kNe hr.hu) (c_repr hr.g hr.hu T.b_repr (dp_lst (da_cons (dp_call (g_write_system T) (hr.mono (by decide)) tk rfl T.m_write_system T.kp_write_system (da_cons (dp_var (i := 2) rfl (by first | exact .inl rfl | exact .inr (.inl rfl) | exact .inr (.inr rfl))) da_nil)) (da_cons (dp_callK0 (g_write_system_k_system T) (hr.mono (by decide)) tk rfl T.m_write_system T.kp_write_system (dk_cons (dp_var (i := 2) rfl (by first | exact .inl rfl | exact .inr (.inl rfl) | exact .inr (.inr rfl))) dk_nil) (fun _ _ _ h => aCons_len (fun _ _ _ h => aNil_len h) h)) da_nil)))) (c_repr hr.g hr.hu T.b_repr (dp_lst (da_cons (dp_var (i := 4) rfl (by first | exact .inl rfl | exact .inr (.inl rfl) | exact .inr (.inr rfl))) (da_cons (dp_var (i := 4) rfl (by first | exact .inl rfl | exact .inr (.inl rfl) | exact .inr (.inr rfl))) da_nil)))))
    (dss_one (ds_ret dp_bl))
    dss_nil)
    (dss_cons (ds_par (i := 6) (j := 7) rfl sc__law_system_right.nd rfl rfl (by decide) rfl rfl (da_cons (dp_call (g_read_system T) (hr.mono (by decide)) tk rfl T.m_read_system T.kp_read_system (da_cons (dp_var (i := 4) rfl (by first | exact .inl rfl | exact .inr (.inl rfl) | exact .inr (.inr rfl))) da_nil)) (da_cons (dp_callK0 (g_read_system_k_text T) (hr.mono (by decide)) tk rfl T.m_read_system T.kp_read_system (dk_cons (dp_var (i := 4) rfl (by first | exact .inl rfl | exact .inr (.inl rfl) | exact .inr (.inr rfl))) dk_nil) (fun _ _ _ h => aCons_len (fun _ _ _ h => aNil_len h) h)) da_nil)) rfl)
    (dss_cons (ds_if (dt_w (dw_or (tCmp (kNe hr.hu) (c_repr hr.g hr.hu T.b_repr (dp_lst (da_cons (dp_call (g__law_shown T) (hr.mono (by decide)) tk rfl T.m__law_shown T.kp__law_shown (da_cons (dp_var (i := 6) rfl (by first | exact .inl rfl | exact .inr (.inl rfl) | exact .inr (.inr rfl))) da_nil)) (da_cons (dp_call (g__law_shown T) (hr.mono (by decide)) tk rfl T.m__law_shown T.kp__law_shown (da_cons (dp_var (i := 7) rfl (by first | exact .inl rfl | exact .inr (.inl rfl) | exact .inr (.inr rfl))) da_nil)) da_nil)))) (c_repr hr.g hr.hu T.b_repr (dp_lst (da_cons (dp_var (i := 5) rfl (by first | exact .inl rfl | exact .inr (.inl rfl) | exact .inr (.inr rfl))) (da_cons (dp_var (i := 5) rfl (by first | exact .inl rfl | exact .inr (.inl rfl) | exact .inr (.inr rfl))) da_nil))))) (dw_or (tCmp (kEqI hr.hu T.eo_System T.eq_System) (dp_var (i := 6) rfl (by first | exact .inl rfl | exact .inr (.inl rfl) | exact .inr (.inr rfl))) (dp_var (i := 7) rfl (by first | exact .inl rfl | exact .inr (.inl rfl) | exact .inr (.inr rfl)))) (dw_or1 (tCmp (kEqI hr.hu T.eo_System T.eq_System) (dp_var (i := 6) rfl (by first | exact .inl rfl | exact .inr (.inl rfl) | exact .inr (.inr rfl))) (dp_var (i := 2) rfl (by first | exact .inl rfl | exact .inr (.inl rfl) | exact .inr (.inr rfl))))))))
    (dss_one (ds_ret dp_bl))
    dss_nil)
    (dss_cons (ds_set sc__law_system_right.nd (i := 3) rfl (by first | exact .inl rfl | exact .inr rfl) (dp_method (dp_var (i := 6) rfl (by first | exact .inl rfl | exact .inr (.inl rfl) | exact .inr (.inr rfl))) T.cl_System T.mt_System_with_rule (g_System_with_rule T) (hr.mono (by decide)) tk (da_cons dp_str da_nil)))
    (dss_one (ds_ret (dp_and (bCmp (kEq hr.hu) (dp_split (dp_call (g_write_system T) (hr.mono (by decide)) tk rfl T.m_write_system T.kp_write_system (da_cons (dp_var (i := 3) rfl (by first | exact .inl rfl | exact .inr (.inl rfl) | exact .inr (.inr rfl))) da_nil)) dp_str) (bBin kAdd (dp_lst (da_cons dp_str da_nil)) (dp_slice (dp_split (dp_var (i := 4) rfl (by first | exact .inl rfl | exact .inr (.inl rfl) | exact .inr (.inr rfl))) dp_str) (do_some dp_int) do_none))) (dp_one (bCmp (kEq hr.hu) (dp_call (g_write_system T) (hr.mono (by decide)) tk rfl T.m_write_system T.kp_write_system (da_cons (dp_var (i := 6) rfl (by first | exact .inl rfl | exact .inr (.inl rfl) | exact .inr (.inr rfl))) da_nil)) (dp_var (i := 4) rfl (by first | exact .inl rfl | exact .inr (.inl rfl) | exact .inr (.inr rfl))))))))))))))
theorem g__law_system_right (T : Fx K mg a) : FnG P w K mg base 7 a.f__law_system_right [] (p__law_system_right a) := by
  obtain ⟨oc, od, kV, doc, pm, an, cd, ct, osl, lk, hc⟩ := T.l__law_system_right
  exact fnG_of lk hc sc__law_system_right Perm.id (hb0 fun s us hl => match us, hl with | [_, _], _ => .of_eq rfl) (fun A outer s H E hr => d__law_system_right T A outer s H E hr)
theorem sc__law_kind : FnScope ["_law_tape_here"] ["_law_tape_here"] (defScope s__law_kind) := ⟨rfl, rfl, rfl, by decide +kernel, rfl, by decide +kernel, by decide +kernel⟩
set_option maxRecDepth 100000 in
theorem d__law_kind (T : Fx K mg a) {f : Addr} {cd : Value} (A : Around) (outer : List Env) (s : Shared) (H : Hp) (E : XK) (hr : RoomG 1 (A.deeper (envOfC "_law_kind" (defScope s__law_kind) s.heap.objs.size f cd))) :
    DSs (cxOf (L2.CX P w) P w K mg base ["_law_tape_here"] "_law_kind" (defScope s__law_kind) f cd A outer s H E) (fun cls d _ H => E cls d H) (defBody s__law_kind) (m__law_kind a) := by
  have tk := takes_cx (P := P) (w := w) (K := K) (mg := mg) (base := base) (N := ["_law_tape_here"]) (qual := "_law_kind") (scope := defScope s__law_kind) (f := f) (cd := cd) (A := A) (outer := outer) (s := s) (H := H) (E := E)
  unfold m__law_kind
  exact (dss_one (ds_ret (bIx (dp_lst (da_cons dp_str (da_cons dp_str (da_cons dp_str (da_cons dp_str (da_cons dp_str da_nil)))))) (dp_call (g__law_next T) (hr.mono (by decide)) tk rfl T.m__law_next T.kp__law_next (da_cons (dp_var (i := 0) rfl (by first | exact .inl rfl | exact .inr (.inl rfl) | exact .inr (.inr rfl))) (da_cons dp_int da_nil))))))
theorem g__law_kind (T : Fx K mg a) : FnG P w K mg base 2 a.f__law_kind [] (p__law_kind a) := by
  obtain ⟨oc, od, kV, doc, pm, an, cd, ct, osl, lk, hc⟩ := T.l__law_kind
  exact fnG_of lk hc sc__law_kind Perm.id (hb0 fun s us hl => match us, hl with | [_], _ => .of_eq rfl) (fun A outer s H E hr => d__law_kind T A outer s H E hr)
theorem sc__law_scale : FnScope ["_law_tape_here", "_law_most", "_law_count", "_law_some", "_law_style", "_law_left", "_law_turn"] ["_law_tape_here", "_law_most"] (defScope s__law_scale) := ⟨rfl, rfl, rfl, by decide +kernel, rfl, by decide +kernel, by decide +kernel⟩
set_option maxRecDepth 100000 in
theorem d__law_scale (T : Fx K mg a) {f : Addr} {cd : Value} (A : Around) (outer : List Env) (s : Shared) (H : Hp) (E : XK) (hr : RoomG 1 (A.deeper (envOfC "_law_scale" (defScope s__law_scale) s.heap.objs.size f cd))) :
    DSs (cxOf (L2.CX P w) P w K mg base ["_law_tape_here", "_law_most", "_law_count", "_law_some", "_law_style", "_law_left", "_law_turn"] "_law_scale" (defScope s__law_scale) f cd A outer s H E) (fun cls d _ H => E cls d H) (defBody s__law_scale) (m__law_scale a) := by
  have tk := takes_cx (P := P) (w := w) (K := K) (mg := mg) (base := base) (N := ["_law_tape_here", "_law_most", "_law_count", "_law_some", "_law_style", "_law_left", "_law_turn"]) (qual := "_law_scale") (scope := defScope s__law_scale) (f := f) (cd := cd) (A := A) (outer := outer) (s := s) (H := H) (E := E)
  unfold m__law_scale
  exact (dss_cons (ds_set sc__law_scale.nd (i := 2) rfl (by first | exact .inl rfl | exact .inr rfl) (bBin kAdd dp_int (dp_call (g__law_next T) (hr.mono (by decide)) tk rfl T.m__law_next T.kp__law_next (da_cons (dp_var (i := 0) rfl (by first | exact .inl rfl | exact .inr (.inl rfl) | exact .inr (.inr rfl))) (da_cons (dp_var (i := 1) rfl (by first | exact .inl rfl | exact .inr (.inl rfl) | exact .inr (.inr rfl))) da_nil)))))
    (dss_cons (ds_set sc__law_scale.nd (i := 3) rfl (by first | exact .inl rfl | exact .inr rfl) (dp_lst (da_cons (dp_lst (da_cons dp_int (da_cons dp_int (da_cons dp_int (da_cons dp_int (da_cons dp_int (da_cons dp_int da_nil))))))) (da_cons (dp_lst (da_cons dp_int (da_cons dp_int (da_cons dp_int (da_cons dp_int (da_cons dp_int (da_cons dp_int da_nil))))))) (da_cons (dp_lst (da_cons dp_int (da_cons dp_int (da_cons dp_int (da_cons dp_int (da_cons dp_int (da_cons dp_int da_nil))))))) (da_cons (dp_lst (da_cons dp_int (da_cons dp_int (da_cons dp_int (da_cons dp_int (da_cons dp_int (da_cons dp_int da_nil))))))) da_nil))))))
    (dss_cons (ds_set sc__law_scale.nd (i := 4) rfl (by first | exact .inl rfl | exact .inr rfl) (dp_call (g__law_next T) (hr.mono (by decide)) tk rfl T.m__law_next T.kp__law_next (da_cons (dp_var (i := 0) rfl (by first | exact .inl rfl | exact .inr (.inl rfl) | exact .inr (.inr rfl))) (da_cons dp_int da_nil))))
    (dss_cons (ds_if (tCmp kLt (dp_var (i := 4) rfl (by first | exact .inl rfl | exact .inr (.inl rfl) | exact .inr (.inr rfl))) dp_int)
    (dss_one (ds_ret (dp_slice (bIx (dp_var (i := 3) rfl (by first | exact .inl rfl | exact .inr (.inl rfl) | exact .inr (.inr rfl))) (dp_var (i := 4) rfl (by first | exact .inl rfl | exact .inr (.inl rfl) | exact .inr (.inr rfl)))) do_none (do_some (dp_var (i := 2) rfl (by first | exact .inl rfl | exact .inr (.inl rfl) | exact .inr (.inr rfl)))))))
    dss_nil)
    (dss_cons (ds_set sc__law_scale.nd (i := 5) rfl (by first | exact .inl rfl | exact .inr rfl) (dp_listRg rfl rfl T.b_list rfl T.b_range dp_int (bIx (dp_lst (da_cons dp_int (da_cons dp_int da_nil))) (bBin kSub (dp_var (i := 4) rfl (by first | exact .inl rfl | exact .inr (.inl rfl) | exact .inr (.inr rfl))) dp_int))))
    (dss_one (ds_ret (c_sorted T.b_sorted (dp_lc (own := [("_law_turn", 6)]) rfl sc__law_scale.nd (di_range1 rfl T.b_range (da_cons (dp_var (i := 2) rfl (by first | exact .inl rfl | exact .inr (.inl rfl) | exact .inr (.inr rfl))) da_nil)) (blkOk_by rfl) (fun _ _ _ _ _ => (dv_name sc__law_scale.nd (i := 6) rfl (by decide) (by first | exact .inl rfl | exact .inr rfl) (by first | exact .inr rfl | exact .inl rfl))) (fun _ _ _ _ _ => dts_nil) (fun _ _ _ _ _ => (dp_popAt (dp_var (i := 5) rfl (by first | exact .inl rfl | exact .inr (.inl rfl) | exact .inr (.inr rfl))) (da_cons (dp_call (g__law_next T) (hr.mono (by decide)) takes_no rfl T.m__law_next T.kp__law_next (da_cons (dp_var (i := 0) rfl (by first | exact .inl rfl | exact .inr (.inl rfl) | exact .inr (.inr rfl))) (da_cons (c_len T.b_len (dp_var (i := 5) rfl (by first | exact .inl rfl | exact .inr (.inl rfl) | exact .inr (.inr rfl)))) da_nil))) da_nil))))))))))))
theorem g__law_scale (T : Fx K mg a) : FnG P w K mg base 2 a.f__law_scale [] (p__law_scale a) := by
  obtain ⟨oc, od, kV, doc, pm, an, cd, ct, osl, lk, hc⟩ := T.l__law_scale
  exact fnG_of lk hc sc__law_scale Perm.id (hb0 fun s us hl => match us, hl with | [_, _], _ => .of_eq rfl) (fun A outer s H E hr => d__law_scale T A outer s H E hr)
theorem sc_law : FnScope ["_law_script", "_law_k", "_law_runs_here", "_law_tape_here", "_law_turn", "_law_at"] ["_law_script"] (defScope s_law) := ⟨rfl, rfl, rfl, by decide +kernel, rfl, by decide +kernel, by decide +kernel⟩
set_option maxRecDepth 100000 in
theorem d_law (T : Fx K mg a) {f : Addr} {cd : Value} (A : Around) (outer : List Env) (s : Shared) (H : Hp) (E : XK) (hr : RoomG 7 (A.deeper (envOfC "law" (defScope s_law) s.heap.objs.size f cd))) :
    DSs (cxOf (L2.CX P w) P w K mg base ["_law_script", "_law_k", "_law_runs_here", "_law_tape_here", "_law_turn", "_law_at"] "law" (defScope s_law) f cd A outer s H E) (fun cls d _ H => E cls d H) (defBody s_law) (m_law a) := by
  have tk := takes_cx (P := P) (w := w) (K := K) (mg := mg) (base := base) (N := ["_law_script", "_law_k", "_law_runs_here", "_law_tape_here", "_law_turn", "_law_at"]) (qual := "law") (scope := defScope s_law) (f := f) (cd := cd) (A := A) (outer := outer) (s := s) (H := H) (E := E)
  unfold m_law
  exact (dss_cons (ds_for (passes_of rfl) rfl (di_range1 rfl T.b_range (da_cons (c_max rfl T.b_max dp_int (c_min rfl T.b_min dp_int (c_len T.b_len (dp_var (i := 0) rfl (by first | exact .inl rfl | exact .inr (.inl rfl) | exact .inr (.inr rfl)))))) da_nil)) (dg_name sc_law.nd (i := 1) rfl (by first | exact .inl rfl | exact .inr rfl))
    (dss_cons (ds_set sc_law.nd (i := 3) rfl (by first | exact .inl rfl | exact .inr rfl) (dp_call (g__law_tape T) (hr.mono (by decide)) tk rfl T.m__law_tape T.kp__law_tape (da_cons (dp_var (i := 0) rfl (by first | exact .inl rfl | exact .inr (.inl rfl) | exact .inr (.inr rfl))) (da_cons (dp_var (i := 1) rfl (by first | exact .inl rfl | exact .inr (.inl rfl) | exact .inr (.inr rfl))) da_nil))))
    (dss_one (ds_for (passes_of rfl) rfl (di_range1 rfl T.b_range (da_cons dp_int da_nil)) (dg_name sc_law.nd (i := 4) rfl (by first | exact .inl rfl | exact .inr rfl))
    (dss_cons (ds_set sc_law.nd (i := 2) rfl (by first | exact .inl rfl | exact .inr rfl) (dp_call (g__law_runs T) (hr.mono (by decide)) tk rfl T.m__law_runs T.kp__law_runs (da_cons (dp_var (i := 3) rfl (by first | exact .inl rfl | exact .inr (.inl rfl) | exact .inr (.inr rfl))) (da_cons (bBin kAdd dp_int (dp_call (g__law_next T) (hr.mono (by decide)) tk rfl T.m__law_next T.kp__law_next (da_cons (dp_var (i := 3) rfl (by first | exact .inl rfl | exact .inr (.inl rfl) | exact .inr (.inr rfl))) (da_cons (bIx (dp_lst (da_cons dp_int (da_cons dp_int (da_cons dp_int da_nil)))) (dp_var (i := 4) rfl (by first | exact .inl rfl | exact .inr (.inl rfl) | exact .inr (.inr rfl)))) da_nil)))) da_nil))))
    (dss_cons (ds_if (dt_w (dw_or (dt_not (dt_tru (dp_call (g__law_word_right T) (hr.mono (by decide)) tk rfl T.m__law_word_right T.kp__law_word_right (da_cons (dp_var (i := 2) rfl (by first | exact .inl rfl | exact .inr (.inl rfl) | exact .inr (.inr rfl))) da_nil)))) (dw_or1 (dt_not (dt_tru (dp_call (g__law_system_right T) (hr.mono (by decide)) tk rfl T.m__law_system_right T.kp__law_system_right (da_cons (dp_call (g__law_scale T) (hr.mono (by decide)) tk rfl T.m__law_scale T.kp__law_scale (da_cons (dp_var (i := 3) rfl (by first | exact .inl rfl | exact .inr (.inl rfl) | exact .inr (.inr rfl))) (da_cons dp_int da_nil))) (da_cons (dp_call (g__law_kind T) (hr.mono (by decide)) tk rfl T.m__law_kind T.kp__law_kind (da_cons (dp_var (i := 3) rfl (by first | exact .inl rfl | exact .inr (.inl rfl) | exact .inr (.inr rfl))) da_nil)) da_nil))))))))
    (dss_one (ds_ret dp_bl))
    dss_nil)
    (dss_cons (ds_put (dp_var (i := 2) rfl (by first | exact .inl rfl | exact .inr (.inl rfl) | exact .inr (.inr rfl))) (dp_neg dp_int) (dp_tup (da_cons (bIx (bIx (dp_var (i := 2) rfl (by first | exact .inl rfl | exact .inr (.inl rfl) | exact .inr (.inr rfl))) (dp_neg dp_int)) dp_int) (da_cons (bBin kAdd (bBin kMod (bIx (bIx (dp_var (i := 2) rfl (by first | exact .inl rfl | exact .inr (.inl rfl) | exact .inr (.inr rfl))) (dp_neg dp_int)) dp_int) dp_int) dp_int) da_nil))))
    (dss_cons (ds_if (tCmp kLt (c_len T.b_len (dp_var (i := 2) rfl (by first | exact .inl rfl | exact .inr (.inl rfl) | exact .inr (.inr rfl)))) dp_int)
    (dss_one (ds_expr (dp_append (dp_var (i := 2) rfl (by first | exact .inl rfl | exact .inr (.inl rfl) | exact .inr (.inr rfl))) (da_cons (dp_tup (da_cons (bBin kAdd (bBin kMod (bIx (bIx (dp_var (i := 2) rfl (by first | exact .inl rfl | exact .inr (.inl rfl) | exact .inr (.inr rfl))) (dp_neg dp_int)) dp_int) dp_int) dp_int) (da_cons dp_int da_nil))) da_nil))))
    dss_nil)
    (dss_one (ds_if (dt_not (dt_tru (dp_call (g__law_word_right T) (hr.mono (by decide)) tk rfl T.m__law_word_right T.kp__law_word_right (da_cons (dp_var (i := 2) rfl (by first | exact .inl rfl | exact .inr (.inl rfl) | exact .inr (.inr rfl))) da_nil))))
    (dss_one (ds_ret dp_bl))
    dss_nil))))))))))
    (dss_cons (ds_set sc_law.nd (i := 2) rfl (by first | exact .inl rfl | exact .inr rfl) (bBin kAdd (dp_lc (own := [("_law_at", 5)]) rfl sc_law.nd (di_range1 rfl T.b_range (da_cons dp_int da_nil)) (blkOk_by rfl) (fun _ _ _ _ _ => (dv_name sc_law.nd (i := 5) rfl (by decide) (by first | exact .inl rfl | exact .inr rfl) (by first | exact .inr rfl | exact .inl rfl))) (fun _ _ _ _ _ => dts_nil) (fun _ _ _ _ _ => (dp_tup (da_cons (bBin kAdd dp_int (bBin kMod (dp_var (i := 5) rfl (by first | exact .inl rfl | exact .inr (.inl rfl) | exact .inr (.inr rfl))) dp_int)) (da_cons (bBin kSub (bBin kMul (bBin kPow dp_int dp_int) (bBin kPow dp_int dp_int)) dp_int) da_nil))))) (dp_lc (own := [("_law_at", 5)]) rfl sc_law.nd (di_range1 rfl T.b_range (da_cons dp_int da_nil)) (blkOk_by rfl) (fun _ _ _ _ _ => (dv_name sc_law.nd (i := 5) rfl (by decide) (by first | exact .inl rfl | exact .inr rfl) (by first | exact .inr rfl | exact .inl rfl))) (fun _ _ _ _ _ => dts_nil) (fun _ _ _ _ _ => (dp_tup (da_cons (bBin kAdd dp_int (bBin kMod (dp_var (i := 5) rfl (by first | exact .inl rfl | exact .inr (.inl rfl) | exact .inr (.inr rfl))) dp_int)) (da_cons dp_int da_nil)))))))
    (dss_one (ds_ret (dp_and (dp_call (g__law_word_right T) (hr.mono (by decide)) tk rfl T.m__law_word_right T.kp__law_word_right (da_cons (dp_var (i := 2) rfl (by first | exact .inl rfl | exact .inr (.inl rfl) | exact .inr (.inr rfl))) da_nil)) (dp_one (bCmp (kEq hr.hu) (dp_call (g_write_word T) (hr.mono (by decide)) tk rfl T.m_write_word T.kp_write_word (da_cons (dp_lst (da_cons (dp_tup (da_cons dp_int (da_cons dp_int da_nil))) (da_cons (dp_tup (da_cons dp_int (da_cons dp_int da_nil))) da_nil))) da_nil)) dp_str)))))))
theorem g_law (T : Fx K mg a) : FnG P w K mg base 8 a.f_law [] (p_law a) := by
  obtain ⟨oc, od, kV, doc, pm, an, cd, ct, osl, lk, hc⟩ := T.l_law
  exact fnG_of lk hc sc_law Perm.id (hb0 fun s us hl => match us, hl with | [_], _ => .of_eq rfl) (fun A outer s H E hr => d_law T A outer s H E hr)
end
theorem all_mk {P : Program} {w : World} {K : PySem.W.Frag} {h : Heap} {mg : Str → Option Value} {fa : Addr} (X : K.In h) (G : h.Ns mainGlobals mg) (hfa : mg "law" = some (.ref fa)) (HL : ∀ a : Ad, LawTrue (p_law a) 63)
    {c_Rule : Addr} {c_System : Addr} {f__law_tape : Addr} {od__law_tape an__law_tape : Option Addr} {sl__law_tape : Array (Option Value)} {oc__law_tape kV__law_tape dc__law_tape pm__law_tape cd__law_tape ct__law_tape : Value} {f__law_next : Addr} {od__law_next an__law_next : Option Addr} {sl__law_next : Array (Option Value)} {oc__law_next kV__law_next dc__law_next pm__law_next cd__law_next ct__law_next : Value} {f__law_runs : Addr} {od__law_runs an__law_runs : Option Addr} {sl__law_runs : Array (Option Value)} {oc__law_runs kV__law_runs dc__law_runs pm__law_runs cd__law_runs ct__law_runs : Value} {f__law_text : Addr} {od__law_text an__law_text : Option Addr} {sl__law_text : Array (Option Value)} {oc__law_text kV__law_text dc__law_text pm__law_text cd__law_text ct__law_text : Value} {f_run_text : Addr} {od_run_text an_run_text : Option Addr} {sl_run_text : Array (Option Value)} {oc_run_text kV_run_text dc_run_text pm_run_text cd_run_text ct_run_text : Value} {f_write_word : Addr} {od_write_word an_write_word : Option Addr} {sl_write_word : Array (Option Value)} {oc_write_word kV_write_word dc_write_word pm_write_word cd_write_word ct_write_word : Value} {f_number_in : Addr} {od_number_in an_number_in : Option Addr} {sl_number_in : Array (Option Value)} {oc_number_in kV_number_in dc_number_in pm_number_in cd_number_in ct_number_in : Value} {f_sign_in : Addr} {od_sign_in an_sign_in : Option Addr} {sl_sign_in : Array (Option Value)} {oc_sign_in kV_sign_in dc_sign_in pm_sign_in cd_sign_in ct_sign_in : Value} {f_run_in : Addr} {od_run_in an_run_in : Option Addr} {sl_run_in : Array (Option Value)} {oc_run_in kV_run_in dc_run_in pm_run_in cd_run_in ct_run_in : Value} {f_read_word : Addr} {od_read_word an_read_word : Option Addr} {sl_read_word : Array (Option Value)} {oc_read_word kV_read_word dc_read_word pm_read_word cd_read_word ct_read_word : Value} {f__law_word_right : Addr} {od__law_word_right an__law_word_right : Option Addr} {sl__law_word_right : Array (Option Value)} {oc__law_word_right kV__law_word_right dc__law_word_right pm__law_word_right cd__law_word_right ct__law_word_right : Value} {f_is_integer : Addr} {od_is_integer an_is_integer : Option Addr} {sl_is_integer : Array (Option Value)} {oc_is_integer kV_is_integer dc_is_integer pm_is_integer cd_is_integer ct_is_integer : Value} {f_are_values : Addr} {od_are_values an_are_values : Option Addr} {sl_are_values : Array (Option Value)} {oc_are_values kV_are_values dc_are_values pm_are_values cd_are_values ct_are_values : Value} {f_is_rule : Addr} {od_is_rule an_is_rule : Option Addr} {sl_is_rule : Array (Option Value)} {oc_is_rule kV_is_rule dc_is_rule pm_is_rule cd_is_rule ct_is_rule : Value} {f_System_init : Addr} {od_System_init an_System_init : Option Addr} {sl_System_init : Array (Option Value)} {oc_System_init kV_System_init dc_System_init pm_System_init cd_System_init ct_System_init : Value} {f_System_of : Addr} {od_System_of an_System_of : Option Addr} {sl_System_of : Array (Option Value)} {oc_System_of kV_System_of dc_System_of pm_System_of cd_System_of ct_System_of : Value} {q_System_of : Addr} {r_System_of : List Value} {f_common_divisor : Addr} {od_common_divisor an_common_divisor : Option Addr} {sl_common_divisor : Array (Option Value)} {oc_common_divisor kV_common_divisor dc_common_divisor pm_common_divisor cd_common_divisor ct_common_divisor : Value} {f_System_divisor : Addr} {od_System_divisor an_System_divisor : Option Addr} {sl_System_divisor : Array (Option Value)} {oc_System_divisor kV_System_divisor dc_System_divisor pm_System_divisor cd_System_divisor ct_System_divisor : Value} {q_System_divisor : Addr} {r_System_divisor : List Value} {f_System_greatest : Addr} {od_System_greatest an_System_greatest : Option Addr} {sl_System_greatest : Array (Option Value)} {oc_System_greatest kV_System_greatest dc_System_greatest pm_System_greatest cd_System_greatest ct_System_greatest : Value} {q_System_greatest : Addr} {r_System_greatest : List Value} {f_System_rule : Addr} {od_System_rule an_System_rule : Option Addr} {sl_System_rule : Array (Option Value)} {oc_System_rule kV_System_rule dc_System_rule pm_System_rule cd_System_rule ct_System_rule : Value} {q_System_rule : Addr} {r_System_rule : List Value} {f_System_row : Addr} {od_System_row an_System_row : Option Addr} {sl_System_row : Array (Option Value)} {oc_System_row kV_System_row dc_System_row pm_System_row cd_System_row ct_System_row : Value} {q_System_row : Addr} {r_System_row : List Value} {f__law_shown : Addr} {od__law_shown an__law_shown : Option Addr} {sl__law_shown : Array (Option Value)} {oc__law_shown kV__law_shown dc__law_shown pm__law_shown cd__law_shown ct__law_shown : Value} {f_write_system : Addr} {od_write_system an_write_system : Option Addr} {sl_write_system : Array (Option Value)} {oc_write_system kV_write_system dc_write_system pm_write_system cd_write_system ct_write_system : Value} {f_read_system : Addr} {od_read_system an_read_system : Option Addr} {sl_read_system : Array (Option Value)} {oc_read_system kV_read_system dc_read_system pm_read_system cd_read_system ct_read_system : Value} {f_System_with_rule : Addr} {od_System_with_rule an_System_with_rule : Option Addr} {sl_System_with_rule : Array (Option Value)} {oc_System_with_rule kV_System_with_rule dc_System_with_rule pm_System_with_rule cd_System_with_rule ct_System_with_rule : Value} {f__law_system_right : Addr} {od__law_system_right an__law_system_right : Option Addr} {sl__law_system_right : Array (Option Value)} {oc__law_system_right kV__law_system_right dc__law_system_right pm__law_system_right cd__law_system_right ct__law_system_right : Value} {f__law_kind : Addr} {od__law_kind an__law_kind : Option Addr} {sl__law_kind : Array (Option Value)} {oc__law_kind kV__law_kind dc__law_kind pm__law_kind cd__law_kind ct__law_kind : Value} {f__law_scale : Addr} {od__law_scale an__law_scale : Option Addr} {sl__law_scale : Array (Option Value)} {oc__law_scale kV__law_scale dc__law_scale pm__law_scale cd__law_scale ct__law_scale : Value} {f_law : Addr} {od_law an_law : Option Addr} {sl_law : Array (Option Value)} {oc_law kV_law dc_law pm_law cd_law ct_law : Value} {z_Rule_ALL : Addr} {t0_Rule_ALL t1_Rule_ALL t2_Rule_ALL t3_Rule_ALL t4_Rule_ALL : Tok} {n_Rule_ALL : Nat} {e_Rule_ALL : Option Addr} {sl_Rule_ALL : Array (Option Value)} {t_System_MOST : Tok} {t_GREATEST_SIGN : Tok} {t_MOST_DIGITS : Tok} {t_MOST_RUNS : Tok} {t_MOST_VALUE : Tok} {t_DIGITS : Tok}
    (a_Rule : PySem.W.nsIn K mainGlobals "Rule" = some (some (.ref c_Rule)))
    (rd_Rule : PySem.W.readsIn K c_Rule (.type "type") = true)
    (ga_Rule : PySem.W.specialIn K (.ref c_Rule) "__getattribute__" = some (some (.builtin "type.__getattribute__")))
    (a_System : PySem.W.nsIn K mainGlobals "System" = some (some (.ref c_System)))
    (pg_System : PySem.W.plainGet K c_System Str.empty = true)
    (hd_System : PySem.W.hasDictIn K c_System = true)
    (po_System : PySem.W.plainOver K c_System = true)
    (sa_System : PySem.W.findIn K (.ref c_System) "__setattr__" = some (some (.builtin "object.__setattr__")))
    (rd_System : PySem.W.readsIn K c_System (.type "type") = true)
    (ga_System : PySem.W.specialIn K (.ref c_System) "__getattribute__" = some (some (.builtin "type.__getattribute__")))
    (eo_System : PySem.W.mroIn K c_System (.type "object") = some true)
    (eq_System : PySem.W.findIn K (.ref c_System) "__eq__" = some (some (.builtin "object.__eq__")))
    (na_System_held_rule : PySem.W.findIn K (.ref c_System) "held_rule" = some none)
    (na_System_held_values : PySem.W.findIn K (.ref c_System) "held_values" = some none)
    (a__law_tape : PySem.W.nsIn K mainGlobals "_law_tape" = some (some (.ref f__law_tape)))
    (l__law_tape : K.lookup f__law_tape = some ⟨oc__law_tape, od__law_tape, .func (PySem.W.fnOf "_law_tape" "_law_tape" (defArgs s__law_tape) (defBody s__law_tape) (defScope s__law_tape) .none kV__law_tape dc__law_tape pm__law_tape an__law_tape cd__law_tape ct__law_tape), sl__law_tape⟩)
    (d__law_tape : PySem.W.codeIn K cd__law_tape "_law_tape" = true)
    (k__law_tape : PySem.W.keepIn K (.ref f__law_tape) = true)
    (a__law_next : PySem.W.nsIn K mainGlobals "_law_next" = some (some (.ref f__law_next)))
    (l__law_next : K.lookup f__law_next = some ⟨oc__law_next, od__law_next, .func (PySem.W.fnOf "_law_next" "_law_next" (defArgs s__law_next) (defBody s__law_next) (defScope s__law_next) .none kV__law_next dc__law_next pm__law_next an__law_next cd__law_next ct__law_next), sl__law_next⟩)
    (d__law_next : PySem.W.codeIn K cd__law_next "_law_next" = true)
    (k__law_next : PySem.W.keepIn K (.ref f__law_next) = true)
    (a__law_runs : PySem.W.nsIn K mainGlobals "_law_runs" = some (some (.ref f__law_runs)))
    (l__law_runs : K.lookup f__law_runs = some ⟨oc__law_runs, od__law_runs, .func (PySem.W.fnOf "_law_runs" "_law_runs" (defArgs s__law_runs) (defBody s__law_runs) (defScope s__law_runs) .none kV__law_runs dc__law_runs pm__law_runs an__law_runs cd__law_runs ct__law_runs), sl__law_runs⟩)
    (d__law_runs : PySem.W.codeIn K cd__law_runs "_law_runs" = true)
    (k__law_runs : PySem.W.keepIn K (.ref f__law_runs) = true)
    (a__law_text : PySem.W.nsIn K mainGlobals "_law_text" = some (some (.ref f__law_text)))
    (l__law_text : K.lookup f__law_text = some ⟨oc__law_text, od__law_text, .func (PySem.W.fnOf "_law_text" "_law_text" (defArgs s__law_text) (defBody s__law_text) (defScope s__law_text) .none kV__law_text dc__law_text pm__law_text an__law_text cd__law_text ct__law_text), sl__law_text⟩)
    (d__law_text : PySem.W.codeIn K cd__law_text "_law_text" = true)
    (k__law_text : PySem.W.keepIn K (.ref f__law_text) = true)
    (a_run_text : PySem.W.nsIn K mainGlobals "run_text" = some (some (.ref f_run_text)))
    (l_run_text : K.lookup f_run_text = some ⟨oc_run_text, od_run_text, .func (PySem.W.fnOf "run_text" "run_text" (defArgs s_run_text) (defBody s_run_text) (defScope s_run_text) .none kV_run_text dc_run_text pm_run_text an_run_text cd_run_text ct_run_text), sl_run_text⟩)
    (d_run_text : PySem.W.codeIn K cd_run_text "run_text" = true)
    (k_run_text : PySem.W.keepIn K (.ref f_run_text) = true)
    (a_write_word : PySem.W.nsIn K mainGlobals "write_word" = some (some (.ref f_write_word)))
    (l_write_word : K.lookup f_write_word = some ⟨oc_write_word, od_write_word, .func (PySem.W.fnOf "write_word" "write_word" (defArgs s_write_word) (defBody s_write_word) (defScope s_write_word) .none kV_write_word dc_write_word pm_write_word an_write_word cd_write_word ct_write_word), sl_write_word⟩)
    (d_write_word : PySem.W.codeIn K cd_write_word "write_word" = true)
    (k_write_word : PySem.W.keepIn K (.ref f_write_word) = true)
    (a_number_in : PySem.W.nsIn K mainGlobals "number_in" = some (some (.ref f_number_in)))
    (l_number_in : K.lookup f_number_in = some ⟨oc_number_in, od_number_in, .func (PySem.W.fnOf "number_in" "number_in" (defArgs s_number_in) (defBody s_number_in) (defScope s_number_in) .none kV_number_in dc_number_in pm_number_in an_number_in cd_number_in ct_number_in), sl_number_in⟩)
    (d_number_in : PySem.W.codeIn K cd_number_in "number_in" = true)
    (k_number_in : PySem.W.keepIn K (.ref f_number_in) = true)
    (a_sign_in : PySem.W.nsIn K mainGlobals "sign_in" = some (some (.ref f_sign_in)))
    (l_sign_in : K.lookup f_sign_in = some ⟨oc_sign_in, od_sign_in, .func (PySem.W.fnOf "sign_in" "sign_in" (defArgs s_sign_in) (defBody s_sign_in) (defScope s_sign_in) .none kV_sign_in dc_sign_in pm_sign_in an_sign_in cd_sign_in ct_sign_in), sl_sign_in⟩)
    (d_sign_in : PySem.W.codeIn K cd_sign_in "sign_in" = true)
    (k_sign_in : PySem.W.keepIn K (.ref f_sign_in) = true)
    (a_run_in : PySem.W.nsIn K mainGlobals "run_in" = some (some (.ref f_run_in)))
    (l_run_in : K.lookup f_run_in = some ⟨oc_run_in, od_run_in, .func (PySem.W.fnOf "run_in" "run_in" (defArgs s_run_in) (defBody s_run_in) (defScope s_run_in) .none kV_run_in dc_run_in pm_run_in an_run_in cd_run_in ct_run_in), sl_run_in⟩)
    (d_run_in : PySem.W.codeIn K cd_run_in "run_in" = true)
    (k_run_in : PySem.W.keepIn K (.ref f_run_in) = true)
    (a_read_word : PySem.W.nsIn K mainGlobals "read_word" = some (some (.ref f_read_word)))
    (l_read_word : K.lookup f_read_word = some ⟨oc_read_word, od_read_word, .func (PySem.W.fnOf "read_word" "read_word" (defArgs s_read_word) (defBody s_read_word) (defScope s_read_word) .none kV_read_word dc_read_word pm_read_word an_read_word cd_read_word ct_read_word), sl_read_word⟩)
    (d_read_word : PySem.W.codeIn K cd_read_word "read_word" = true)
    (k_read_word : PySem.W.keepIn K (.ref f_read_word) = true)
    (a__law_word_right : PySem.W.nsIn K mainGlobals "_law_word_right" = some (some (.ref f__law_word_right)))
    (l__law_word_right : K.lookup f__law_word_right = some ⟨oc__law_word_right, od__law_word_right, .func (PySem.W.fnOf "_law_word_right" "_law_word_right" (defArgs s__law_word_right) (defBody s__law_word_right) (defScope s__law_word_right) .none kV__law_word_right dc__law_word_right pm__law_word_right an__law_word_right cd__law_word_right ct__law_word_right), sl__law_word_right⟩)
    (d__law_word_right : PySem.W.codeIn K cd__law_word_right "_law_word_right" = true)
    (k__law_word_right : PySem.W.keepIn K (.ref f__law_word_right) = true)
    (a_is_integer : PySem.W.nsIn K mainGlobals "is_integer" = some (some (.ref f_is_integer)))
    (l_is_integer : K.lookup f_is_integer = some ⟨oc_is_integer, od_is_integer, .func (PySem.W.fnOf "is_integer" "is_integer" (defArgs s_is_integer) (defBody s_is_integer) (defScope s_is_integer) .none kV_is_integer dc_is_integer pm_is_integer an_is_integer cd_is_integer ct_is_integer), sl_is_integer⟩)
    (d_is_integer : PySem.W.codeIn K cd_is_integer "is_integer" = true)
    (k_is_integer : PySem.W.keepIn K (.ref f_is_integer) = true)
    (a_are_values : PySem.W.nsIn K mainGlobals "are_values" = some (some (.ref f_are_values)))
    (l_are_values : K.lookup f_are_values = some ⟨oc_are_values, od_are_values, .func (PySem.W.fnOf "are_values" "are_values" (defArgs s_are_values) (defBody s_are_values) (defScope s_are_values) .none kV_are_values dc_are_values pm_are_values an_are_values cd_are_values ct_are_values), sl_are_values⟩)
    (d_are_values : PySem.W.codeIn K cd_are_values "are_values" = true)
    (k_are_values : PySem.W.keepIn K (.ref f_are_values) = true)
    (a_is_rule : PySem.W.nsIn K mainGlobals "is_rule" = some (some (.ref f_is_rule)))
    (l_is_rule : K.lookup f_is_rule = some ⟨oc_is_rule, od_is_rule, .func (PySem.W.fnOf "is_rule" "is_rule" (defArgs s_is_rule) (defBody s_is_rule) (defScope s_is_rule) .none kV_is_rule dc_is_rule pm_is_rule an_is_rule cd_is_rule ct_is_rule), sl_is_rule⟩)
    (d_is_rule : PySem.W.codeIn K cd_is_rule "is_rule" = true)
    (k_is_rule : PySem.W.keepIn K (.ref f_is_rule) = true)
    (mk_System : PySem.W.makesIn K c_System = true)
    (a_System_init : PySem.W.findIn K (.ref c_System) "__init__" = some (some (.ref f_System_init)))
    (i_System_init : PySem.W.isFn K (.ref f_System_init) = true)
    (kc_System : PySem.W.keepIn K (.ref c_System) = true)
    (l_System_init : K.lookup f_System_init = some ⟨oc_System_init, od_System_init, .func (PySem.W.fnOf "__init__" "System.__init__" (defArgs s_System_init) (defBody s_System_init) (defScope s_System_init) .none kV_System_init dc_System_init pm_System_init an_System_init cd_System_init ct_System_init), sl_System_init⟩)
    (d_System_init : PySem.W.codeIn K cd_System_init "System.__init__" = true)
    (a_System_of : PySem.W.findCls K (.ref c_System) (.type "type") "of" = some (.get (.builtin "classmethod.__get__") (.ref q_System_of) .none (.ref c_System)))
    (r1_System_of : PySem.W.recIn K q_System_of "classmethod" = some (.ref f_System_of :: r_System_of))
    (i_System_of : PySem.W.fnIn K f_System_of = true)
    (l_System_of : K.lookup f_System_of = some ⟨oc_System_of, od_System_of, .func (PySem.W.fnOf "of" "System.of" (defArgs s_System_of) (defBody s_System_of) (defScope s_System_of) .none kV_System_of dc_System_of pm_System_of an_System_of cd_System_of ct_System_of), sl_System_of⟩)
    (d_System_of : PySem.W.codeIn K cd_System_of "System.of" = true)
    (a_common_divisor : PySem.W.nsIn K mainGlobals "common_divisor" = some (some (.ref f_common_divisor)))
    (l_common_divisor : K.lookup f_common_divisor = some ⟨oc_common_divisor, od_common_divisor, .func (PySem.W.fnOf "common_divisor" "common_divisor" (defArgs s_common_divisor) (defBody s_common_divisor) (defScope s_common_divisor) .none kV_common_divisor dc_common_divisor pm_common_divisor an_common_divisor cd_common_divisor ct_common_divisor), sl_common_divisor⟩)
    (d_common_divisor : PySem.W.codeIn K cd_common_divisor "common_divisor" = true)
    (k_common_divisor : PySem.W.keepIn K (.ref f_common_divisor) = true)
    (a_System_divisor : PySem.W.findIn K (.ref c_System) "divisor" = some (some (.ref q_System_divisor)))
    (g_System_divisor : PySem.W.specialIn K (.ref q_System_divisor) "__get__" = some (some (.builtin "property.__get__")))
    (t_System_divisor : PySem.W.takesIn K (.ref q_System_divisor) = some true)
    (r1_System_divisor : PySem.W.recIn K q_System_divisor "property" = some (.ref f_System_divisor :: r_System_divisor))
    (l_System_divisor : K.lookup f_System_divisor = some ⟨oc_System_divisor, od_System_divisor, .func (PySem.W.fnOf "divisor" "System.divisor" (defArgs s_System_divisor) (defBody s_System_divisor) (defScope s_System_divisor) .none kV_System_divisor dc_System_divisor pm_System_divisor an_System_divisor cd_System_divisor ct_System_divisor), sl_System_divisor⟩)
    (d_System_divisor : PySem.W.codeIn K cd_System_divisor "System.divisor" = true)
    (a_System_greatest : PySem.W.findIn K (.ref c_System) "greatest" = some (some (.ref q_System_greatest)))
    (g_System_greatest : PySem.W.specialIn K (.ref q_System_greatest) "__get__" = some (some (.builtin "property.__get__")))
    (t_System_greatest : PySem.W.takesIn K (.ref q_System_greatest) = some true)
    (r1_System_greatest : PySem.W.recIn K q_System_greatest "property" = some (.ref f_System_greatest :: r_System_greatest))
    (l_System_greatest : K.lookup f_System_greatest = some ⟨oc_System_greatest, od_System_greatest, .func (PySem.W.fnOf "greatest" "System.greatest" (defArgs s_System_greatest) (defBody s_System_greatest) (defScope s_System_greatest) .none kV_System_greatest dc_System_greatest pm_System_greatest an_System_greatest cd_System_greatest ct_System_greatest), sl_System_greatest⟩)
    (d_System_greatest : PySem.W.codeIn K cd_System_greatest "System.greatest" = true)
    (a_System_rule : PySem.W.findIn K (.ref c_System) "rule" = some (some (.ref q_System_rule)))
    (g_System_rule : PySem.W.specialIn K (.ref q_System_rule) "__get__" = some (some (.builtin "property.__get__")))
    (t_System_rule : PySem.W.takesIn K (.ref q_System_rule) = some true)
    (r1_System_rule : PySem.W.recIn K q_System_rule "property" = some (.ref f_System_rule :: r_System_rule))
    (l_System_rule : K.lookup f_System_rule = some ⟨oc_System_rule, od_System_rule, .func (PySem.W.fnOf "rule" "System.rule" (defArgs s_System_rule) (defBody s_System_rule) (defScope s_System_rule) .none kV_System_rule dc_System_rule pm_System_rule an_System_rule cd_System_rule ct_System_rule), sl_System_rule⟩)
    (d_System_rule : PySem.W.codeIn K cd_System_rule "System.rule" = true)
    (a_System_row : PySem.W.findIn K (.ref c_System) "row" = some (some (.ref q_System_row)))
    (g_System_row : PySem.W.specialIn K (.ref q_System_row) "__get__" = some (some (.builtin "property.__get__")))
    (t_System_row : PySem.W.takesIn K (.ref q_System_row) = some true)
    (r1_System_row : PySem.W.recIn K q_System_row "property" = some (.ref f_System_row :: r_System_row))
    (l_System_row : K.lookup f_System_row = some ⟨oc_System_row, od_System_row, .func (PySem.W.fnOf "row" "System.row" (defArgs s_System_row) (defBody s_System_row) (defScope s_System_row) .none kV_System_row dc_System_row pm_System_row an_System_row cd_System_row ct_System_row), sl_System_row⟩)
    (d_System_row : PySem.W.codeIn K cd_System_row "System.row" = true)
    (a__law_shown : PySem.W.nsIn K mainGlobals "_law_shown" = some (some (.ref f__law_shown)))
    (l__law_shown : K.lookup f__law_shown = some ⟨oc__law_shown, od__law_shown, .func (PySem.W.fnOf "_law_shown" "_law_shown" (defArgs s__law_shown) (defBody s__law_shown) (defScope s__law_shown) .none kV__law_shown dc__law_shown pm__law_shown an__law_shown cd__law_shown ct__law_shown), sl__law_shown⟩)
    (d__law_shown : PySem.W.codeIn K cd__law_shown "_law_shown" = true)
    (k__law_shown : PySem.W.keepIn K (.ref f__law_shown) = true)
    (a_write_system : PySem.W.nsIn K mainGlobals "write_system" = some (some (.ref f_write_system)))
    (l_write_system : K.lookup f_write_system = some ⟨oc_write_system, od_write_system, .func (PySem.W.fnOf "write_system" "write_system" (defArgs s_write_system) (defBody s_write_system) (defScope s_write_system) .none kV_write_system dc_write_system pm_write_system an_write_system cd_write_system ct_write_system), sl_write_system⟩)
    (d_write_system : PySem.W.codeIn K cd_write_system "write_system" = true)
    (k_write_system : PySem.W.keepIn K (.ref f_write_system) = true)
    (a_read_system : PySem.W.nsIn K mainGlobals "read_system" = some (some (.ref f_read_system)))
    (l_read_system : K.lookup f_read_system = some ⟨oc_read_system, od_read_system, .func (PySem.W.fnOf "read_system" "read_system" (defArgs s_read_system) (defBody s_read_system) (defScope s_read_system) .none kV_read_system dc_read_system pm_read_system an_read_system cd_read_system ct_read_system), sl_read_system⟩)
    (d_read_system : PySem.W.codeIn K cd_read_system "read_system" = true)
    (k_read_system : PySem.W.keepIn K (.ref f_read_system) = true)
    (a_System_with_rule : PySem.W.findIn K (.ref c_System) "with_rule" = some (some (.ref f_System_with_rule)))
    (i_System_with_rule : PySem.W.isFn K (.ref f_System_with_rule) = true)
    (l_System_with_rule : K.lookup f_System_with_rule = some ⟨oc_System_with_rule, od_System_with_rule, .func (PySem.W.fnOf "with_rule" "System.with_rule" (defArgs s_System_with_rule) (defBody s_System_with_rule) (defScope s_System_with_rule) .none kV_System_with_rule dc_System_with_rule pm_System_with_rule an_System_with_rule cd_System_with_rule ct_System_with_rule), sl_System_with_rule⟩)
    (d_System_with_rule : PySem.W.codeIn K cd_System_with_rule "System.with_rule" = true)
    (k_System_with_rule : PySem.W.keepIn K (.ref f_System_with_rule) = true)
    (a__law_system_right : PySem.W.nsIn K mainGlobals "_law_system_right" = some (some (.ref f__law_system_right)))
    (l__law_system_right : K.lookup f__law_system_right = some ⟨oc__law_system_right, od__law_system_right, .func (PySem.W.fnOf "_law_system_right" "_law_system_right" (defArgs s__law_system_right) (defBody s__law_system_right) (defScope s__law_system_right) .none kV__law_system_right dc__law_system_right pm__law_system_right an__law_system_right cd__law_system_right ct__law_system_right), sl__law_system_right⟩)
    (d__law_system_right : PySem.W.codeIn K cd__law_system_right "_law_system_right" = true)
    (k__law_system_right : PySem.W.keepIn K (.ref f__law_system_right) = true)
    (a__law_kind : PySem.W.nsIn K mainGlobals "_law_kind" = some (some (.ref f__law_kind)))
    (l__law_kind : K.lookup f__law_kind = some ⟨oc__law_kind, od__law_kind, .func (PySem.W.fnOf "_law_kind" "_law_kind" (defArgs s__law_kind) (defBody s__law_kind) (defScope s__law_kind) .none kV__law_kind dc__law_kind pm__law_kind an__law_kind cd__law_kind ct__law_kind), sl__law_kind⟩)
    (d__law_kind : PySem.W.codeIn K cd__law_kind "_law_kind" = true)
    (k__law_kind : PySem.W.keepIn K (.ref f__law_kind) = true)
    (a__law_scale : PySem.W.nsIn K mainGlobals "_law_scale" = some (some (.ref f__law_scale)))
    (l__law_scale : K.lookup f__law_scale = some ⟨oc__law_scale, od__law_scale, .func (PySem.W.fnOf "_law_scale" "_law_scale" (defArgs s__law_scale) (defBody s__law_scale) (defScope s__law_scale) .none kV__law_scale dc__law_scale pm__law_scale an__law_scale cd__law_scale ct__law_scale), sl__law_scale⟩)
    (d__law_scale : PySem.W.codeIn K cd__law_scale "_law_scale" = true)
    (k__law_scale : PySem.W.keepIn K (.ref f__law_scale) = true)
    (a_law : PySem.W.nsIn K mainGlobals "law" = some (some (.ref f_law)))
    (l_law : K.lookup f_law = some ⟨oc_law, od_law, .func (PySem.W.fnOf "law" "law" (defArgs s_law) (defBody s_law) (defScope s_law) .none kV_law dc_law pm_law an_law cd_law ct_law), sl_law⟩)
    (d_law : PySem.W.codeIn K cd_law "law" = true)
    (k_law : PySem.W.keepIn K (.ref f_law) = true)
    (cv_Rule_ALL : PySem.W.findCls K (.ref c_Rule) (.type "type") "ALL" = some (.val (.ref z_Rule_ALL)))
    (cz_Rule_ALL : K.lookup z_Rule_ALL = some ⟨.type "tuple", e_Rule_ALL, .seq #[.str "plain" t0_Rule_ALL, .str "single" t1_Rule_ALL, .str "next" t2_Rule_ALL, .str "block" t3_Rule_ALL, .str "later" t4_Rule_ALL] n_Rule_ALL, sl_Rule_ALL⟩)
    (cv_System_MOST : PySem.W.findCls K (.ref c_System) (.type "type") "MOST" = some (.val (.int 6 t_System_MOST)))
    (gi_GREATEST_SIGN : PySem.W.nsIn K mainGlobals "GREATEST_SIGN" = some (some (.int 60 t_GREATEST_SIGN)))
    (gi_MOST_DIGITS : PySem.W.nsIn K mainGlobals "MOST_DIGITS" = some (some (.int 60 t_MOST_DIGITS)))
    (gi_MOST_RUNS : PySem.W.nsIn K mainGlobals "MOST_RUNS" = some (some (.int 200 t_MOST_RUNS)))
    (gi_MOST_VALUE : PySem.W.nsIn K mainGlobals "MOST_VALUE" = some (some (.int 60 t_MOST_VALUE)))
    (gs_DIGITS : PySem.W.nsIn K mainGlobals "DIGITS" = some (some (.str "0123456789" t_DIGITS)))
    (b_abs : PySem.W.nsIn K mainGlobals "abs" = some none)
    (b_all : PySem.W.nsIn K mainGlobals "all" = some none)
    (b_bool : PySem.W.nsIn K mainGlobals "bool" = some none)
    (b_enumerate : PySem.W.nsIn K mainGlobals "enumerate" = some none)
    (b_int : PySem.W.nsIn K mainGlobals "int" = some none)
    (b_isinstance : PySem.W.nsIn K mainGlobals "isinstance" = some none)
    (b_len : PySem.W.nsIn K mainGlobals "len" = some none)
    (b_list : PySem.W.nsIn K mainGlobals "list" = some none)
    (b_max : PySem.W.nsIn K mainGlobals "max" = some none)
    (b_min : PySem.W.nsIn K mainGlobals "min" = some none)
    (b_range : PySem.W.nsIn K mainGlobals "range" = some none)
    (b_repr : PySem.W.nsIn K mainGlobals "repr" = some none)
    (b_sorted : PySem.W.nsIn K mainGlobals "sorted" = some none)
    (b_str : PySem.W.nsIn K mainGlobals "str" = some none)
    (b_zip : PySem.W.nsIn K mainGlobals "zip" = some none)
    : ∃ φ, LawTrue φ 63 ∧ ∀ base : Heap, K.In base → base.Ns mainGlobals mg → FnG P w K mg base 8 fa [] φ := by
  have e : fa = f_law := by simpa using hfa.symm.trans (PySem.W.mg_of X G a_law)
  let a : Ad := { c_Rule := c_Rule, y_Rule := .type "type", c_System := c_System, y_System := .type "type", f__law_tape := f__law_tape, f__law_next := f__law_next, f__law_runs := f__law_runs, f__law_text := f__law_text, f_run_text := f_run_text, f_write_word := f_write_word, f_number_in := f_number_in, f_sign_in := f_sign_in, f_run_in := f_run_in, f_read_word := f_read_word, f__law_word_right := f__law_word_right, f_is_integer := f_is_integer, f_are_values := f_are_values, f_is_rule := f_is_rule, f_System_init := f_System_init, f_System_of := f_System_of, q_System_of := q_System_of, f_common_divisor := f_common_divisor, f_System_divisor := f_System_divisor, q_System_divisor := q_System_divisor, f_System_greatest := f_System_greatest, q_System_greatest := q_System_greatest, f_System_rule := f_System_rule, q_System_rule := q_System_rule, f_System_row := f_System_row, q_System_row := q_System_row, f__law_shown := f__law_shown, f_write_system := f_write_system, f_read_system := f_read_system, f_System_with_rule := f_System_with_rule, f__law_system_right := f__law_system_right, f__law_kind := f__law_kind, f__law_scale := f__law_scale, f_law := f_law, u_Rule_ALL := .ref z_Rule_ALL, v_Rule_ALL := .ref z_Rule_ALL, u_System_MOST := .int 6, v_System_MOST := .int 6 t_System_MOST }
  have T : Fx K mg a := {
    m_Rule := PySem.W.mg_of X G a_Rule,
    cr_Rule := ⟨rd_Rule, ga_Rule⟩,
    m_System := PySem.W.mg_of X G a_System,
    cl_System := ⟨pg_System, hd_System, po_System, sa_System⟩,
    cr_System := ⟨rd_System, ga_System⟩,
    eo_System := eo_System,
    eq_System := eq_System,
    na_System_held_rule := na_System_held_rule,
    na_System_held_values := na_System_held_values,
    m__law_tape := PySem.W.mg_of X G a__law_tape,
    l__law_tape := ⟨_, _, _, _, _, _, _, _, _, l__law_tape, d__law_tape⟩,
    kp__law_tape := k__law_tape,
    m__law_next := PySem.W.mg_of X G a__law_next,
    l__law_next := ⟨_, _, _, _, _, _, _, _, _, l__law_next, d__law_next⟩,
    kp__law_next := k__law_next,
    m__law_runs := PySem.W.mg_of X G a__law_runs,
    l__law_runs := ⟨_, _, _, _, _, _, _, _, _, l__law_runs, d__law_runs⟩,
    kp__law_runs := k__law_runs,
    m__law_text := PySem.W.mg_of X G a__law_text,
    l__law_text := ⟨_, _, _, _, _, _, _, _, _, l__law_text, d__law_text⟩,
    kp__law_text := k__law_text,
    m_run_text := PySem.W.mg_of X G a_run_text,
    l_run_text := ⟨_, _, _, _, _, _, _, _, _, l_run_text, d_run_text⟩,
    kp_run_text := k_run_text,
    m_write_word := PySem.W.mg_of X G a_write_word,
    l_write_word := ⟨_, _, _, _, _, _, _, _, _, l_write_word, d_write_word⟩,
    kp_write_word := k_write_word,
    m_number_in := PySem.W.mg_of X G a_number_in,
    l_number_in := ⟨_, _, _, _, _, _, _, _, _, l_number_in, d_number_in⟩,
    kp_number_in := k_number_in,
    m_sign_in := PySem.W.mg_of X G a_sign_in,
    l_sign_in := ⟨_, _, _, _, _, _, _, _, _, l_sign_in, d_sign_in⟩,
    kp_sign_in := k_sign_in,
    m_run_in := PySem.W.mg_of X G a_run_in,
    l_run_in := ⟨_, _, _, _, _, _, _, _, _, l_run_in, d_run_in⟩,
    kp_run_in := k_run_in,
    m_read_word := PySem.W.mg_of X G a_read_word,
    l_read_word := ⟨_, _, _, _, _, _, _, _, _, l_read_word, d_read_word⟩,
    kp_read_word := k_read_word,
    m__law_word_right := PySem.W.mg_of X G a__law_word_right,
    l__law_word_right := ⟨_, _, _, _, _, _, _, _, _, l__law_word_right, d__law_word_right⟩,
    kp__law_word_right := k__law_word_right,
    m_is_integer := PySem.W.mg_of X G a_is_integer,
    l_is_integer := ⟨_, _, _, _, _, _, _, _, _, l_is_integer, d_is_integer⟩,
    kp_is_integer := k_is_integer,
    m_are_values := PySem.W.mg_of X G a_are_values,
    l_are_values := ⟨_, _, _, _, _, _, _, _, _, l_are_values, d_are_values⟩,
    kp_are_values := k_are_values,
    m_is_rule := PySem.W.mg_of X G a_is_rule,
    l_is_rule := ⟨_, _, _, _, _, _, _, _, _, l_is_rule, d_is_rule⟩,
    kp_is_rule := k_is_rule,
    mk_System := ⟨mk_System, a_System_init, i_System_init, kc_System⟩,
    l_System_init := ⟨_, _, _, _, _, _, _, _, _, l_System_init, d_System_init⟩,
    cm_System_of := ⟨a_System_of, ⟨_, r1_System_of⟩, i_System_of⟩,
    l_System_of := ⟨_, _, _, _, _, _, _, _, _, l_System_of, d_System_of⟩,
    m_common_divisor := PySem.W.mg_of X G a_common_divisor,
    l_common_divisor := ⟨_, _, _, _, _, _, _, _, _, l_common_divisor, d_common_divisor⟩,
    kp_common_divisor := k_common_divisor,
    pr_System_divisor := ⟨a_System_divisor, g_System_divisor, t_System_divisor, ⟨_, r1_System_divisor⟩⟩,
    l_System_divisor := ⟨_, _, _, _, _, _, _, _, _, l_System_divisor, d_System_divisor⟩,
    pr_System_greatest := ⟨a_System_greatest, g_System_greatest, t_System_greatest, ⟨_, r1_System_greatest⟩⟩,
    l_System_greatest := ⟨_, _, _, _, _, _, _, _, _, l_System_greatest, d_System_greatest⟩,
    pr_System_rule := ⟨a_System_rule, g_System_rule, t_System_rule, ⟨_, r1_System_rule⟩⟩,
    l_System_rule := ⟨_, _, _, _, _, _, _, _, _, l_System_rule, d_System_rule⟩,
    pr_System_row := ⟨a_System_row, g_System_row, t_System_row, ⟨_, r1_System_row⟩⟩,
    l_System_row := ⟨_, _, _, _, _, _, _, _, _, l_System_row, d_System_row⟩,
    m__law_shown := PySem.W.mg_of X G a__law_shown,
    l__law_shown := ⟨_, _, _, _, _, _, _, _, _, l__law_shown, d__law_shown⟩,
    kp__law_shown := k__law_shown,
    m_write_system := PySem.W.mg_of X G a_write_system,
    l_write_system := ⟨_, _, _, _, _, _, _, _, _, l_write_system, d_write_system⟩,
    kp_write_system := k_write_system,
    m_read_system := PySem.W.mg_of X G a_read_system,
    l_read_system := ⟨_, _, _, _, _, _, _, _, _, l_read_system, d_read_system⟩,
    kp_read_system := k_read_system,
    mt_System_with_rule := ⟨a_System_with_rule, i_System_with_rule, k_System_with_rule⟩,
    l_System_with_rule := ⟨_, _, _, _, _, _, _, _, _, l_System_with_rule, d_System_with_rule⟩,
    m__law_system_right := PySem.W.mg_of X G a__law_system_right,
    l__law_system_right := ⟨_, _, _, _, _, _, _, _, _, l__law_system_right, d__law_system_right⟩,
    kp__law_system_right := k__law_system_right,
    m__law_kind := PySem.W.mg_of X G a__law_kind,
    l__law_kind := ⟨_, _, _, _, _, _, _, _, _, l__law_kind, d__law_kind⟩,
    kp__law_kind := k__law_kind,
    m__law_scale := PySem.W.mg_of X G a__law_scale,
    l__law_scale := ⟨_, _, _, _, _, _, _, _, _, l__law_scale, d__law_scale⟩,
    kp__law_scale := k__law_scale,
    m_law := PySem.W.mg_of X G a_law,
    l_law := ⟨_, _, _, _, _, _, _, _, _, l_law, d_law⟩,
    kp_law := k_law,
    cv_Rule_ALL := ⟨cv_Rule_ALL, rfl⟩,
    cd_Rule_ALL := fun G A => by
      simp only [k_Rule_ALL, Rep]
      exact ⟨z_Rule_ALL, [V.str "plain", V.str "single", V.str "next", V.str "block", V.str "later"], rfl, .inr ⟨_, _, _, cz_Rule_ALL, rfl, rfl, by show 5 ≤ sizeLine; decide, (.cons ⟨_, rfl⟩ (.cons ⟨_, rfl⟩ (.cons ⟨_, rfl⟩ (.cons ⟨_, rfl⟩ (.cons ⟨_, rfl⟩ .nil)))))⟩, (Reps.cons (by simp only [Rep]) (Reps.cons (by simp only [Rep]) (Reps.cons (by simp only [Rep]) (Reps.cons (by simp only [Rep]) (Reps.cons (by simp only [Rep]) Reps.nil)))))⟩,
    cv_System_MOST := ⟨cv_System_MOST, ⟨_, rfl⟩⟩,
    cd_System_MOST := fun _ _ => (by simp only [k_System_MOST, Rep] <;> rfl),
    gi_GREATEST_SIGN := ⟨_, PySem.W.mg_of X G gi_GREATEST_SIGN⟩,
    gi_MOST_DIGITS := ⟨_, PySem.W.mg_of X G gi_MOST_DIGITS⟩,
    gi_MOST_RUNS := ⟨_, PySem.W.mg_of X G gi_MOST_RUNS⟩,
    gi_MOST_VALUE := ⟨_, PySem.W.mg_of X G gi_MOST_VALUE⟩,
    gs_DIGITS := ⟨_, PySem.W.mg_of X G gs_DIGITS⟩,
    b_abs := PySem.W.mg_none_of X G b_abs,
    b_all := PySem.W.mg_none_of X G b_all,
    b_bool := PySem.W.mg_none_of X G b_bool,
    b_enumerate := PySem.W.mg_none_of X G b_enumerate,
    b_int := PySem.W.mg_none_of X G b_int,
    b_isinstance := PySem.W.mg_none_of X G b_isinstance,
    b_len := PySem.W.mg_none_of X G b_len,
    b_list := PySem.W.mg_none_of X G b_list,
    b_max := PySem.W.mg_none_of X G b_max,
    b_min := PySem.W.mg_none_of X G b_min,
    b_range := PySem.W.mg_none_of X G b_range,
    b_repr := PySem.W.mg_none_of X G b_repr,
    b_sorted := PySem.W.mg_none_of X G b_sorted,
    b_str := PySem.W.mg_none_of X G b_str,
    b_zip := PySem.W.mg_none_of X G b_zip }
  exact ⟨p_law a, HL a, fun base _ _ => by rw [e]; exact g_law T⟩
end DS.K81
open PySem PySem.W PyProof.Rows
set_option maxRecDepth 100000 in
set_option maxHeartbeats 0 in
theorem PySem.Challenge.cw_signsheets_k81_texts_both_ways_holds : PySem.Challenge.rw_signsheets_k81_texts_both_ways.Holds := by
  w_on; o_law; k_head; (case hw => w_witness2)
  k_fill
  refine DS.walk_GP (l := PySem.Challenge.rw_signsheets_k81_texts_both_ways) (n := 63) (k := 8) rfl (by decide) rfl (DS.room_caller ⟨rfl, by decide, by decide⟩) (fun w h Y => PySem.W.kIn_of Y) ?F
  case F =>
    intro w mg fa h KX G hmg
    refine' DS.K81.all_mk KX G hmg DS.K81.law_true ?a_Rule ?rd_Rule ?ga_Rule ?a_System ?pg_System ?hd_System ?po_System ?sa_System ?rd_System ?ga_System ?eo_System ?eq_System ?na_System_held_rule ?na_System_held_values ?a__law_tape ?l__law_tape ?d__law_tape ?k__law_tape ?a__law_next ?l__law_next ?d__law_next ?k__law_next ?a__law_runs ?l__law_runs ?d__law_runs ?k__law_runs ?a__law_text ?l__law_text ?d__law_text ?k__law_text ?a_run_text ?l_run_text ?d_run_text ?k_run_text ?a_write_word ?l_write_word ?d_write_word ?k_write_word ?a_number_in ?l_number_in ?d_number_in ?k_number_in ?a_sign_in ?l_sign_in ?d_sign_in ?k_sign_in ?a_run_in ?l_run_in ?d_run_in ?k_run_in ?a_read_word ?l_read_word ?d_read_word ?k_read_word ?a__law_word_right ?l__law_word_right ?d__law_word_right ?k__law_word_right ?a_is_integer ?l_is_integer ?d_is_integer ?k_is_integer ?a_are_values ?l_are_values ?d_are_values ?k_are_values ?a_is_rule ?l_is_rule ?d_is_rule ?k_is_rule ?mk_System ?a_System_init ?i_System_init ?kc_System ?l_System_init ?d_System_init ?a_System_of ?r1_System_of ?i_System_of ?l_System_of ?d_System_of ?a_common_divisor ?l_common_divisor ?d_common_divisor ?k_common_divisor ?a_System_divisor ?g_System_divisor ?t_System_divisor ?r1_System_divisor ?l_System_divisor ?d_System_divisor ?a_System_greatest ?g_System_greatest ?t_System_greatest ?r1_System_greatest ?l_System_greatest ?d_System_greatest ?a_System_rule ?g_System_rule ?t_System_rule ?r1_System_rule ?l_System_rule ?d_System_rule ?a_System_row ?g_System_row ?t_System_row ?r1_System_row ?l_System_row ?d_System_row ?a__law_shown ?l__law_shown ?d__law_shown ?k__law_shown ?a_write_system ?l_write_system ?d_write_system ?k_write_system ?a_read_system ?l_read_system ?d_read_system ?k_read_system ?a_System_with_rule ?i_System_with_rule ?l_System_with_rule ?d_System_with_rule ?k_System_with_rule ?a__law_system_right ?l__law_system_right ?d__law_system_right ?k__law_system_right ?a__law_kind ?l__law_kind ?d__law_kind ?k__law_kind ?a__law_scale ?l__law_scale ?d__law_scale ?k__law_scale ?a_law ?l_law ?d_law ?k_law ?cv_Rule_ALL ?cz_Rule_ALL ?cv_System_MOST ?gi_GREATEST_SIGN ?gi_MOST_DIGITS ?gi_MOST_RUNS ?gi_MOST_VALUE ?gs_DIGITS ?b_abs ?b_all ?b_bool ?b_enumerate ?b_int ?b_isinstance ?b_len ?b_list ?b_max ?b_min ?b_range ?b_repr ?b_sorted ?b_str ?b_zip
    (case a_Rule => k_is); (case rd_Rule => k_is); (case ga_Rule => k_is); (case a_System => k_is); (case pg_System => k_is); (case hd_System => k_is)
    (case po_System => k_is); (case sa_System => k_is); (case rd_System => k_is); (case ga_System => k_is); (case eo_System => k_is); (case eq_System => k_is)
    (case na_System_held_rule => k_is); (case na_System_held_values => k_is); (case a__law_tape => k_is); (case l__law_tape => k_is); (case d__law_tape => k_is)
    (case k__law_tape => k_is); (case a__law_next => k_is); (case l__law_next => k_is); (case d__law_next => k_is); (case k__law_next => k_is); (case a__law_runs => k_is)
    (case l__law_runs => k_is); (case d__law_runs => k_is); (case k__law_runs => k_is); (case a__law_text => k_is); (case l__law_text => k_is); (case d__law_text => k_is)
    (case k__law_text => k_is); (case a_run_text => k_is); (case l_run_text => k_is); (case d_run_text => k_is); (case k_run_text => k_is); (case a_write_word => k_is)
    (case l_write_word => k_is); (case d_write_word => k_is); (case k_write_word => k_is); (case a_number_in => k_is); (case l_number_in => k_is); (case d_number_in => k_is)
    (case k_number_in => k_is); (case a_sign_in => k_is); (case l_sign_in => k_is); (case d_sign_in => k_is); (case k_sign_in => k_is); (case a_run_in => k_is)
    (case l_run_in => k_is); (case d_run_in => k_is); (case k_run_in => k_is); (case a_read_word => k_is); (case l_read_word => k_is); (case d_read_word => k_is)
    (case k_read_word => k_is); (case a__law_word_right => k_is); (case l__law_word_right => k_is); (case d__law_word_right => k_is); (case k__law_word_right => k_is)
    (case a_is_integer => k_is); (case l_is_integer => k_is); (case d_is_integer => k_is); (case k_is_integer => k_is); (case a_are_values => k_is); (case l_are_values => k_is)
    (case d_are_values => k_is); (case k_are_values => k_is); (case a_is_rule => k_is); (case l_is_rule => k_is); (case d_is_rule => k_is); (case k_is_rule => k_is)
    (case mk_System => k_is); (case a_System_init => k_is); (case i_System_init => k_is); (case kc_System => k_is); (case l_System_init => k_is); (case d_System_init => k_is)
    (case a_System_of => k_is); (case r1_System_of => k_is); (case i_System_of => k_is); (case l_System_of => k_is); (case d_System_of => k_is); (case a_common_divisor => k_is)
    (case l_common_divisor => k_is); (case d_common_divisor => k_is); (case k_common_divisor => k_is); (case a_System_divisor => k_is); (case g_System_divisor => k_is)
    (case t_System_divisor => k_is); (case r1_System_divisor => k_is); (case l_System_divisor => k_is); (case d_System_divisor => k_is); (case a_System_greatest => k_is)
    (case g_System_greatest => k_is); (case t_System_greatest => k_is); (case r1_System_greatest => k_is); (case l_System_greatest => k_is); (case d_System_greatest => k_is)
    (case a_System_rule => k_is); (case g_System_rule => k_is); (case t_System_rule => k_is); (case r1_System_rule => k_is); (case l_System_rule => k_is)
    (case d_System_rule => k_is); (case a_System_row => k_is); (case g_System_row => k_is); (case t_System_row => k_is); (case r1_System_row => k_is)
    (case l_System_row => k_is); (case d_System_row => k_is); (case a__law_shown => k_is); (case l__law_shown => k_is); (case d__law_shown => k_is); (case k__law_shown => k_is)
    (case a_write_system => k_is); (case l_write_system => k_is); (case d_write_system => k_is); (case k_write_system => k_is); (case a_read_system => k_is)
    (case l_read_system => k_is); (case d_read_system => k_is); (case k_read_system => k_is); (case a_System_with_rule => k_is); (case i_System_with_rule => k_is)
    (case l_System_with_rule => k_is); (case d_System_with_rule => k_is); (case k_System_with_rule => k_is); (case a__law_system_right => k_is); (case l__law_system_right => k_is)
    (case d__law_system_right => k_is); (case k__law_system_right => k_is); (case a__law_kind => k_is); (case l__law_kind => k_is); (case d__law_kind => k_is)
    (case k__law_kind => k_is); (case a__law_scale => k_is); (case l__law_scale => k_is); (case d__law_scale => k_is); (case k__law_scale => k_is); (case a_law => k_is)
    (case l_law => k_is); (case d_law => k_is); (case k_law => k_is); (case cv_Rule_ALL => k_is); (case cz_Rule_ALL => k_is); (case cv_System_MOST => k_is)
    (case gi_GREATEST_SIGN => k_is); (case gi_MOST_DIGITS => k_is); (case gi_MOST_RUNS => k_is); (case gi_MOST_VALUE => k_is); (case gs_DIGITS => k_is)
    (case b_abs => k_is); (case b_all => k_is); (case b_bool => k_is); (case b_enumerate => k_is); (case b_int => k_is); (case b_isinstance => k_is); (case b_len => k_is)
    (case b_list => k_is); (case b_max => k_is); (case b_min => k_is); (case b_range => k_is); (case b_repr => k_is); (case b_sorted => k_is); (case b_str => k_is)
    (case b_zip => k_is)
