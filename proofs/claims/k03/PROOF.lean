import PyProof.Rows.All
import Wide.All
import OpenK.AllK
import Wide.FinOn
import HandS.ForMost
import HandS.Exc
import HandS.TryOnly
import HandS.ExcOwn
import HandS.WordsExc
import HandS.ClsMeth
import HandS.Wide
import HandS.WideBits
import HandS.OwnEq
import HandS.CallSlots
import HandS.MakeKw
import HandS.MakeKwOnly
import HandS.Defaults
import HandS.TupAny
import HandS.CallLocal
import HandS.Small
import HandS.IsInst
import HandS.ExcIs
import HandS.Text
import HandS.RaiseMore
import HandS.TupMul
import HandS.Rev
import HandS.RevTup
import HandS.Style
import HandS.FStr
import HandS.StrMore
import OpenK.KOps
import KE.KCallOwn
import PyProof.ReprReads
import PyProof.CallFns
import PyProof.StrHeap
import HandS.EndBits
import HandS.Codes
import PySem.Challenge.RW_everytext_k03_fractions_as_texts_and_num
set_option Elab.async false
set_option linter.all false
section
set_option maxRecDepth 100000
set_option maxHeartbeats 2000000
/-! Fw: plain data, and what stands for it in a heap. -/
namespace Fw
open PySem PySem.Spec PyProof.Rows L2

/-- plain data -/
inductive D where
  | non | bl (b : Bool) | int (i : Int) | str (x : Str)
  | lst (xs : List D) | tup (xs : List D) | dic (ks : List L2.Key) (vs : List D) | ins (c : Nat) (fs : List D) | cls (c : Nat) | scr (ns : List Int)

/-- the classes of the text: where they stand, their attributes in order -/
structure Tb where
  cl : Nat → Addr
  an : Nat → List Str

def Ex (H H' : Hp) : Prop := ∀ a o, H a = some o → H' a = some o
theorem Ex.refl (H : Hp) : Ex H H := fun _ _ h => h
theorem Ex.trans {H H1 H2 : Hp} (a : Ex H H1) (b : Ex H1 H2) : Ex H H2 := fun x o h => b x o (a x o h)
theorem Ex.new {H : Hp} {p : Addr} {o : HO} (h : H p = none) : Ex H (upd H p o) := fun a u e => by
  rw [upd_ne (ne_of_none e h)]
  exact e
theorem Ex.free {H H' : Hp} (e : Ex H H') {p : Addr} (h : H' p = none) : H p = none := by
  cases h1 : H p with
  | none => rfl
  | some o => rw [e p o h1] at h; cases h
theorem ex_l {K : PySem.W.Frag} {H H' : Hp} {a : Addr} {xs : List V} (e : Ex H H') (h : SqL K H a xs) : SqL K H' a xs := by
  rcases h with (h | ⟨o, h⟩) | h
  · exact .inl (.inl (e _ _ h))
  · exact .inl (.inr ⟨o, e _ _ h⟩)
  · exact .inr h
theorem ex_t {K : PySem.W.Frag} {H H' : Hp} {a : Addr} {xs : List V} (e : Ex H H') (h : SqT K H a xs) : SqT K H' a xs := by
  rcases h with (h | ⟨o, h⟩) | h
  · exact .inl (.inl (e _ _ h))
  · exact .inl (.inr ⟨o, e _ _ h⟩)
  · exact .inr h

mutual
/-- v stands for d in the frozen heap F -/
def Rp (K : PySem.W.Frag) (T : Tb) (F : Hp) : D → V → Prop
  | .non, v => v = .non
  | .bl b, v => v = .bl b
  | .int i, v => v = .int i
  | .str x, v => v = .str x
  | .cls c, v => v = .ref (T.cl c)
  | .scr ns, v => ∃ a, v = .ref a ∧ SqL K F a (ns.map V.int)
  | .lst ds, v => ∃ a vs, v = .ref a ∧ F a = some (.lst vs) ∧ RpL K T F ds vs
  | .tup ds, v => ∃ a vs, v = .ref a ∧ SqT K F a vs ∧ RpL K T F ds vs
  | .dic ks ds, v => ∃ a kvs, v = .ref a ∧ F a = some (.dK kvs) ∧ kvs.map (·.1) = ks ∧ RpL K T F ds (kvs.map (·.2))
  | .ins c ds, v => ∃ a dx fs, v = .ref a ∧ F a = some (.ins (T.cl c) dx fs) ∧ fs.map (·.1) = (T.an c).take fs.length ∧ RpL K T F ds (fs.map (·.2))
def RpL (K : PySem.W.Frag) (T : Tb) (F : Hp) : List D → List V → Prop
  | [], vs => vs = []
  | d :: ds, vs => ∃ v vs', vs = v :: vs' ∧ Rp K T F d v ∧ RpL K T F ds vs'
end
section
variable {K : PySem.W.Frag} {T : Tb} {F F' : Hp}
mutual
theorem Rp.mono (e : Ex F F') : ∀ {d : D} {v : V}, Rp K T F d v → Rp K T F' d v
  | .non, _, h => h
  | .bl _, _, h => h
  | .int _, _, h => h
  | .str _, _, h => h
  | .cls _, _, h => h
  | .scr ns, v, h => by
    unfold Rp at h ⊢
    obtain ⟨a, h1, h2⟩ := h
    exact ⟨a, h1, ex_l e h2⟩
  | .lst ds, v, h => by
    unfold Rp at h ⊢
    obtain ⟨a, vs, h1, h2, h3⟩ := h
    exact ⟨a, vs, h1, e _ _ h2, RpL.mono e h3⟩
  | .tup ds, v, h => by
    unfold Rp at h ⊢
    obtain ⟨a, vs, h1, h2, h3⟩ := h
    exact ⟨a, vs, h1, ex_t e h2, RpL.mono e h3⟩
  | .dic ks ds, v, h => by
    unfold Rp at h ⊢
    obtain ⟨a, kvs, h1, h2, h3, h4⟩ := h
    exact ⟨a, kvs, h1, e _ _ h2, h3, RpL.mono e h4⟩
  | .ins c ds, v, h => by
    unfold Rp at h ⊢
    obtain ⟨a, dx, fs, h1, h2, h3, h4⟩ := h
    exact ⟨a, dx, fs, h1, e _ _ h2, h3, RpL.mono e h4⟩
theorem RpL.mono (e : Ex F F') : ∀ {ds : List D} {vs : List V}, RpL K T F ds vs → RpL K T F' ds vs
  | [], _, h => h
  | d :: ds, vs, h => by
    unfold RpL at h ⊢
    obtain ⟨v, vs', h1, h2, h3⟩ := h
    exact ⟨v, vs', h1, Rp.mono e h2, RpL.mono e h3⟩
end
theorem RpL.len : ∀ {ds : List D} {vs : List V}, RpL K T F ds vs → vs.length = ds.length
  | [], _, h => by unfold RpL at h; subst h; rfl
  | d :: ds, vs, h => by
    unfold RpL at h
    obtain ⟨v, vs', rfl, _, h3⟩ := h
    simp [RpL.len h3]
theorem RpL.nil : RpL K T F [] [] := by unfold RpL; rfl
theorem RpL.cons {d : D} {v : V} {ds : List D} {vs : List V} (h : Rp K T F d v) (r : RpL K T F ds vs) : RpL K T F (d :: ds) (v :: vs) := by
  unfold RpL
  exact ⟨v, vs, rfl, h, r⟩
theorem RpL.get : ∀ {ds : List D} {vs : List V} {i : Nat} {d : D}, RpL K T F ds vs → ds[i]? = some d → ∃ v, vs[i]? = some v ∧ Rp K T F d v
  | [], _, i, d, h, e => by simp at e
  | d0 :: ds, vs, 0, d, h, e => by
    unfold RpL at h
    obtain ⟨v, vs', rfl, h2, h3⟩ := h
    simp at e
    subst e
    exact ⟨v, rfl, h2⟩
  | d0 :: ds, vs, i + 1, d, h, e => by
    unfold RpL at h
    obtain ⟨v, vs', rfl, h2, h3⟩ := h
    obtain ⟨w, h4, h5⟩ := RpL.get (i := i) h3 (by simpa using e)
    exact ⟨w, by simpa using h4, h5⟩
theorem RpL.getV {ds : List D} {vs : List V} {i : Nat} {v : V} (h : RpL K T F ds vs) (e : vs[i]? = some v) : ∃ d, ds[i]? = some d ∧ Rp K T F d v := by
  have hl := h.len
  have hi : i < ds.length := by
    have := (List.getElem?_eq_some_iff.mp e).1
    omega
  obtain ⟨w, h1, h2⟩ := h.get (List.getElem?_eq_getElem hi)
  rw [e] at h1
  cases h1
  exact ⟨_, List.getElem?_eq_getElem hi, h2⟩
theorem RpL.app : ∀ {ds es : List D} {vs ws : List V}, RpL K T F ds vs → RpL K T F es ws → RpL K T F (ds ++ es) (vs ++ ws)
  | [], _, vs, ws, h, h' => by unfold RpL at h; subst h; exact h'
  | d :: ds, es, vs, ws, h, h' => by
    unfold RpL at h
    obtain ⟨v, vs', rfl, h2, h3⟩ := h
    exact RpL.cons h2 (RpL.app h3 h')
theorem RpL.snoc {ds : List D} {vs : List V} {d : D} {v : V} (h : RpL K T F ds vs) (r : Rp K T F d v) : RpL K T F (ds ++ [d]) (vs ++ [v]) := h.app (.cons r .nil)
theorem RpL.take : ∀ {ds : List D} {vs : List V} (n : Nat), RpL K T F ds vs → RpL K T F (ds.take n) (vs.take n)
  | _, _, 0, _ => RpL.nil
  | [], vs, n + 1, h => by unfold RpL at h; subst h; exact RpL.nil
  | d :: ds, vs, n + 1, h => by
    unfold RpL at h
    obtain ⟨v, vs', rfl, h2, h3⟩ := h
    exact RpL.cons h2 (RpL.take n h3)
theorem RpL.drop : ∀ {ds : List D} {vs : List V} (n : Nat), RpL K T F ds vs → RpL K T F (ds.drop n) (vs.drop n)
  | _, _, 0, h => h
  | [], vs, n + 1, h => by unfold RpL at h; subst h; exact RpL.nil
  | d :: ds, vs, n + 1, h => by
    unfold RpL at h
    obtain ⟨v, vs', rfl, h2, h3⟩ := h
    exact RpL.drop n h3
theorem RpL.set : ∀ {ds : List D} {vs : List V} (n : Nat) {d : D} {v : V}, RpL K T F ds vs → Rp K T F d v → RpL K T F (ds.set n d) (vs.set n v)
  | [], vs, n, d, v, h, r => by unfold RpL at h; subst h; exact RpL.nil
  | d0 :: ds, vs, 0, d, v, h, r => by
    unfold RpL at h
    obtain ⟨w, vs', rfl, h2, h3⟩ := h
    exact RpL.cons r h3
  | d0 :: ds, vs, n + 1, d, v, h, r => by
    unfold RpL at h
    obtain ⟨w, vs', rfl, h2, h3⟩ := h
    exact RpL.cons h2 (RpL.set n h3 r)
theorem RpL.eraseIdx : ∀ {ds : List D} {vs : List V} (n : Nat), RpL K T F ds vs → RpL K T F (ds.eraseIdx n) (vs.eraseIdx n)
  | [], vs, n, h => by unfold RpL at h; subst h; exact RpL.nil
  | d0 :: ds, vs, 0, h => by
    unfold RpL at h
    obtain ⟨w, vs', rfl, h2, h3⟩ := h
    exact h3
  | d0 :: ds, vs, n + 1, h => by
    unfold RpL at h
    obtain ⟨w, vs', rfl, h2, h3⟩ := h
    exact RpL.cons h2 (RpL.eraseIdx n h3)
theorem RpL.rev : ∀ {ds : List D} {vs : List V}, RpL K T F ds vs → RpL K T F ds.reverse vs.reverse
  | [], vs, h => by unfold RpL at h; subst h; exact RpL.nil
  | d0 :: ds, vs, h => by
    unfold RpL at h
    obtain ⟨w, vs', rfl, h2, h3⟩ := h
    simp only [List.reverse_cons]
    exact (RpL.rev h3).app (.cons h2 .nil)
theorem RpL.ints : ∀ (ns : List Int), RpL K T F (ns.map D.int) (ns.map V.int)
  | [] => RpL.nil
  | n :: ns => RpL.cons (by unfold Rp; rfl) (RpL.ints ns)
theorem RpL.strs : ∀ (ns : List Str), RpL K T F (ns.map D.str) (ns.map V.str)
  | [] => RpL.nil
  | n :: ns => RpL.cons (by unfold Rp; rfl) (RpL.strs ns)
theorem RpL.strs_inv : ∀ {ns : List Str} {vs : List V}, RpL K T F (ns.map D.str) vs → vs = ns.map V.str
  | [], vs, h => by unfold RpL at h; simpa using h
  | n :: ns, vs, h => by
    unfold RpL at h
    obtain ⟨w, vs', rfl, h2, h3⟩ := h
    unfold Rp at h2
    subst h2
    rw [RpL.strs_inv h3]
    rfl
theorem RpL.ints_inv : ∀ {ns : List Int} {vs : List V}, RpL K T F (ns.map D.int) vs → vs = ns.map V.int
  | [], vs, h => by unfold RpL at h; simpa using h
  | n :: ns, vs, h => by
    unfold RpL at h
    obtain ⟨w, vs', rfl, h2, h3⟩ := h
    unfold Rp at h2
    subst h2
    rw [RpL.ints_inv h3]
    rfl

/-- the object u bears the data d, its parts stand in F -/
def Ob (K : PySem.W.Frag) (T : Tb) (F : Hp) : D → HO → Prop
  | .lst ds, u => ∃ vs, u = .lst vs ∧ RpL K T F ds vs
  | .tup ds, u => ∃ vs, u = .tup vs ∧ RpL K T F ds vs
  | .dic ks ds, u => ∃ kvs, u = .dK kvs ∧ kvs.map (·.1) = ks ∧ RpL K T F ds (kvs.map (·.2))
  | .ins c ds, u => ∃ dx fs, u = .ins (T.cl c) dx fs ∧ fs.map (·.1) = (T.an c).take fs.length ∧ RpL K T F ds (fs.map (·.2))
  | _, _ => False
theorem Ob.mono (e : Ex F F') {d : D} {u : HO} (h : Ob K T F d u) : Ob K T F' d u := by
  cases d with
  | lst ds => obtain ⟨vs, h1, h2⟩ := h; exact ⟨vs, h1, h2.mono e⟩
  | tup ds => obtain ⟨vs, h1, h2⟩ := h; exact ⟨vs, h1, h2.mono e⟩
  | dic ks ds => obtain ⟨kvs, h1, h2, h3⟩ := h; exact ⟨kvs, h1, h2, h3.mono e⟩
  | ins c ds => obtain ⟨dx, fs, h1, h2, h3⟩ := h; exact ⟨dx, fs, h1, h2, h3.mono e⟩
  | _ => exact h
theorem Ob.rp {d : D} {u : HO} {a : Addr} (h : Ob K T F d u) (e : F a = some u) : Rp K T F d (.ref a) := by
  cases d with
  | lst ds =>
    obtain ⟨vs, h1, h2⟩ := h
    subst h1
    unfold Rp
    exact ⟨a, vs, rfl, e, h2⟩
  | tup ds =>
    obtain ⟨vs, h1, h2⟩ := h
    subst h1
    unfold Rp
    exact ⟨a, vs, rfl, SqT.of e, h2⟩
  | dic ks ds =>
    obtain ⟨kvs, h1, h2, h3⟩ := h
    subst h1
    unfold Rp
    exact ⟨a, kvs, rfl, e, h2, h3⟩
  | ins c ds =>
    obtain ⟨dx, fs, h1, h2, h3⟩ := h
    subst h1
    unfold Rp
    exact ⟨a, dx, fs, rfl, e, h2, h3⟩
  | _ => exact False.elim h

/-- v is seen to stand for d: frozen, or an object at hand whose parts are frozen -/
def isTup : D → Bool
  | .tup _ => true
  | _ => false
def See (K : PySem.W.Frag) (T : Tb) (F H : Hp) (d : D) (v : V) : Prop := Rp K T F d v ∨ ∃ a u, v = .ref a ∧ H a = some u ∧ Ob K T F d u ∧ isTup d = false
theorem See.lst {H : Hp} {ds : List D} {v : V} (e : Ex F H) (h : See K T F H (.lst ds) v) : ∃ a vs, v = .ref a ∧ SqL K H a vs ∧ RpL K T F ds vs := by
  rcases h with h | ⟨a, u, rfl, h1, ⟨vs, rfl, h2⟩, nt⟩
  · unfold Rp at h
    obtain ⟨a, vs, h1, h2, h3⟩ := h
    exact ⟨a, vs, h1, SqL.of (e _ _ h2), h3⟩
  · exact ⟨a, vs, rfl, SqL.of h1, h2⟩
theorem See.lstM {H : Hp} {ds : List D} {v : V} (e : Ex F H) (h : See K T F H (.lst ds) v) : ∃ a vs, v = .ref a ∧ H a = some (.lst vs) ∧ RpL K T F ds vs := by
  rcases h with h | ⟨a, u, rfl, h1, ⟨vs, rfl, h2⟩, nt⟩
  · unfold Rp at h
    obtain ⟨a, vs, h1, h2, h3⟩ := h
    exact ⟨a, vs, h1, e _ _ h2, h3⟩
  · exact ⟨a, vs, rfl, h1, h2⟩
theorem See.scr {H : Hp} {ns : List Int} {v : V} (e : Ex F H) (h : See K T F H (.scr ns) v) : ∃ a, v = .ref a ∧ SqL K H a (ns.map V.int) := by
  rcases h with h | ⟨a, u, rfl, h1, h2, nt⟩
  · unfold Rp at h
    obtain ⟨a, h1, h2⟩ := h
    exact ⟨a, h1, ex_l e h2⟩
  · exact h2.elim
theorem See.tup {H : Hp} {ds : List D} {v : V} (e : Ex F H) (h : See K T F H (.tup ds) v) : ∃ a vs, v = .ref a ∧ SqT K H a vs ∧ RpL K T F ds vs := by
  rcases h with h | ⟨a, u, rfl, h1, ⟨vs, rfl, h2⟩, nt⟩
  · unfold Rp at h
    obtain ⟨a, vs, h1, h2, h3⟩ := h
    exact ⟨a, vs, h1, ex_t e h2, h3⟩
  · cases nt
theorem See.dic {H : Hp} {ks : List L2.Key} {ds : List D} {v : V} (e : Ex F H) (h : See K T F H (.dic ks ds) v) : ∃ a kvs, v = .ref a ∧ H a = some (.dK kvs) ∧ kvs.map (·.1) = ks ∧ RpL K T F ds (kvs.map (·.2)) := by
  rcases h with h | ⟨a, u, rfl, h1, ⟨kvs, rfl, h2⟩, nt⟩
  · unfold Rp at h
    obtain ⟨a, vs, h1, h2, h3⟩ := h
    exact ⟨a, vs, h1, e _ _ h2, h3⟩
  · exact ⟨a, kvs, rfl, h1, h2⟩
theorem See.ins {H : Hp} {c : Nat} {ds : List D} {v : V} (e : Ex F H) (h : See K T F H (.ins c ds) v) : ∃ a dx fs, v = .ref a ∧ H a = some (.ins (T.cl c) dx fs) ∧ fs.map (·.1) = (T.an c).take fs.length ∧ RpL K T F ds (fs.map (·.2)) := by
  rcases h with h | ⟨a, u, rfl, h1, ⟨dx, fs, rfl, h2⟩, nt⟩
  · unfold Rp at h
    obtain ⟨a, dx, fs, h1, h2, h3⟩ := h
    exact ⟨a, dx, fs, h1, e _ _ h2, h3⟩
  · exact ⟨a, dx, fs, rfl, h1, h2⟩
theorem See.int {H : Hp} {i : Int} {v : V} (h : See K T F H (.int i) v) : v = .int i := by
  rcases h with h | ⟨_, _, _, _, h, _⟩
  · unfold Rp at h; exact h
  · exact h.elim
theorem See.bl {H : Hp} {i : Bool} {v : V} (h : See K T F H (.bl i) v) : v = .bl i := by
  rcases h with h | ⟨_, _, _, _, h, _⟩
  · unfold Rp at h; exact h
  · exact h.elim
theorem See.str {H : Hp} {i : Str} {v : V} (h : See K T F H (.str i) v) : v = .str i := by
  rcases h with h | ⟨_, _, _, _, h, _⟩
  · unfold Rp at h; exact h
  · exact h.elim
theorem See.non {H : Hp} {v : V} (h : See K T F H .non v) : v = .non := by
  rcases h with h | ⟨_, _, _, _, h, _⟩
  · unfold Rp at h; exact h
  · exact h.elim
theorem See.cls {H : Hp} {c : Nat} {v : V} (h : See K T F H (.cls c) v) : v = .ref (T.cl c) := by
  rcases h with h | ⟨_, _, _, _, h, _⟩
  · unfold Rp at h; exact h
  · exact h.elim
theorem See.rp {H : Hp} {d : D} {v : V} (e : Ex F H) (h : See K T F H d v) : Rp K T H d v := by
  rcases h with h | ⟨a, u, rfl, h1, h2, _⟩
  · exact h.mono e
  · exact (h2.mono e).rp h1
theorem See.ext {H H' : Hp} {d : D} {v : V} (e : Ex H H') (h : See K T F H d v) : See K T F H' d v := by
  rcases h with h | ⟨a, u, rfl, h1, h2, h3⟩
  · exact .inl h
  · exact .inr ⟨a, u, rfl, e _ _ h1, h2, h3⟩
end

/-! ### the slots of a frame, as data -/
inductive Slot where
  | un | val (d : D) | own (r : Bool) (d : D) | fix
abbrev Sl := List Slot
/-- what an expression gives: a frozen value, a new object, the object of a slot -/
inductive T1 where
  | vl (d : D) | fr (d : D) | pk (i : Nat)
/-- an exception of the text's own: its class, its fields -/
structure Exn where
  c : Nat
  fs : List D
inductive Res (α : Type) where
  | ok (a : α) (s : Sl) | exc (e : Exn) (s : Sl) | no
def M (α : Type) : Type := Sl → Res α
def M.ret {α : Type} (a : α) : M α := fun s => .ok a s
def M.bnd {α β : Type} (m : M α) (k : α → M β) : M β := fun s => match m s with
  | .ok a s' => k a s'
  | .exc e s' => .exc e s'
  | .no => .no
instance : Monad M where
  pure := M.ret
  bind := M.bnd
end Fw
end

section
set_option maxRecDepth 100000
set_option maxHeartbeats 2000000
namespace Fw
open PySem PySem.Spec PyProof.Rows L2

/-- what a frame began with: the heap, the frozen part, the slots that hold a caller's object -/
structure Fc where
  H0 : Hp
  F0 : Hp
  rf : Nat → Addr → Prop
  tp : Hp
  fx : Nat → Option V

structure Rel (K : PySem.W.Frag) (T : Tb) (c : Fc) (o : Nat → Addr) (st : Sl) (σ : L2.St) (H F : Hp) : Prop where
  ex0 : Ex c.F0 F
  sub : Ex F H
  dom : ∀ a u, c.H0 a = some u → ∃ u', H a = some u'
  keep : ∀ a u, c.H0 a = some u → (∀ i, ¬ c.rf i a) → H a = some u
  new : ∀ b u, F b = some u → c.H0 b = none ∨ ∃ u', c.F0 b = some u'
  val : ∀ (i : Nat) d, st[i]? = some (Slot.val d) → ∃ v, σ[i]? = some (some v) ∧ Rp K T F d v
  own : ∀ (i : Nat) r d, st[i]? = some (Slot.own r d) → σ[i]? = some (some (.ref (o i))) ∧ F (o i) = none ∧ (∃ u, H (o i) = some u ∧ Ob K T F d u) ∧ (if r = true then c.rf i (o i) else c.H0 (o i) = none)
  dis : ∀ (i j : Nat) r r' d d', st[i]? = some (Slot.own r d) → st[j]? = some (Slot.own r' d') → o i = o j → i = j
  len : st.length = σ.length
  tpk : ∀ a u, c.tp a = some u → H a = some u ∧ F a = none ∧ c.H0 a = none ∧ ∀ (i : Nat) r d, st[i]? = some (Slot.own r d) → o i ≠ a
  fix : ∀ (i : Nat), st[i]? = some Slot.fix → σ[i]? = some (c.fx i)

section
variable {K : PySem.W.Frag} {T : Tb} {c : Fc} {o : Nat → Addr} {st : Sl} {σ : L2.St} {H H' F F' : Hp}
/-- only new objects -/
theorem Rel.ext (R : Rel K T c o st σ H F) (e : Ex H H') : Rel K T c o st σ H' F :=
  ⟨R.ex0, R.sub.trans e, fun a u h => let ⟨u', h'⟩ := R.dom a u h; ⟨u', e _ _ h'⟩, fun a u h n => e _ _ (R.keep a u h n), R.new, R.val,
    fun i r d h => let ⟨h1, h2, ⟨u, h3, h4⟩, h5⟩ := R.own i r d h; ⟨h1, h2, ⟨u, e _ _ h3, h4⟩, h5⟩, R.dis, R.len, fun a u h => let ⟨k1, k2, k3, k4⟩ := R.tpk a u h; ⟨e _ _ k1, k2, k3, k4⟩, R.fix⟩
theorem Rel.nof (R : Rel K T c o st σ H F) {a : Addr} (h : H a = none) : F a = none := R.sub.free h
theorem Rel.no0 (R : Rel K T c o st σ H F) {a : Addr} (h : H a = none) : c.H0 a = none := by
  cases e : c.H0 a with
  | none => rfl
  | some u =>
    obtain ⟨u', h'⟩ := R.dom a u e
    rw [h] at h'
    cases h'
theorem Rel.not (R : Rel K T c o st σ H F) {a : Addr} (h : H a = none) : c.tp a = none := by
  cases e : c.tp a with
  | none => rfl
  | some u =>
    have := (R.tpk a u e).1
    rw [h] at this
    cases this
theorem Rel.neO (R : Rel K T c o st σ H F) {a : Addr} (h : H a = none) {i : Nat} {r : Bool} {d : D} (e : st[i]? = some (Slot.own r d)) : o i ≠ a := by
  obtain ⟨_, _, ⟨u, h3, _⟩, _⟩ := R.own i r d e
  exact ne_of_none h3 h
/-- an object of ours that no slot holds is frozen -/
theorem Rel.frz {a : Addr} {u : HO} (R : Rel K T c o st σ H F) (h0 : c.H0 a = none) (hf : F a = none) (hh : H a = some u) (hn : ∀ (i : Nat) r d, st[i]? = some (Slot.own r d) → o i ≠ a) (ht : c.tp a = none) : Rel K T c o st σ H (upd F a u) := by
  have e : Ex F (upd F a u) := Ex.new hf
  refine ⟨R.ex0.trans e, fun b w h => ?_, R.dom, R.keep, fun b w h => ?_, fun i d h => ?_, fun i r d h => ?_, R.dis, R.len, fun b w h => let ⟨k1, k2, k3, k4⟩ := R.tpk b w h; ⟨k1, by rw [upd_ne (fun z => by rw [z, ht] at h; cases h)]; exact k2, k3, k4⟩, R.fix⟩
  · by_cases hb : b = a
    · subst hb
      rw [upd_same] at h
      cases h
      exact hh
    · rw [upd_ne hb] at h
      exact R.sub b w h
  · by_cases hb : b = a
    · subst hb
      exact .inl h0
    · rw [upd_ne hb] at h
      exact R.new b w h
  · obtain ⟨v, h1, h2⟩ := R.val i d h
    exact ⟨v, h1, h2.mono e⟩
  · obtain ⟨h1, h2, ⟨w, h3, h4⟩, h5⟩ := R.own i r d h
    exact ⟨h1, by rw [upd_ne (hn i r d h)]; exact h2, ⟨w, h3, h4.mono e⟩, h5⟩

/-- what an expression gave stands for t -/
def TR (K : PySem.W.Frag) (T : Tb) (c : Fc) (o : Nat → Addr) (st : Sl) (σ : L2.St) (H F : Hp) (v : V) : T1 → Prop
  | .vl d => Rp K T F d v
  | .fr d => ∃ a u, v = .ref a ∧ c.H0 a = none ∧ F a = none ∧ H a = some u ∧ Ob K T F d u ∧ c.tp a = none ∧ ∀ (i : Nat) r d', st[i]? = some (Slot.own r d') → o i ≠ a
  | .pk i => σ[i]? = some (some v)
def fz : T1 → T1
  | .fr d => .vl d
  | t => t
theorem Rel.fz {v : V} {t : T1} (R : Rel K T c o st σ H F) (h : TR K T c o st σ H F v t) : ∃ F', Ex F F' ∧ Rel K T c o st σ H F' ∧ TR K T c o st σ H F' v (Fw.fz t) := by
  cases t with
  | vl d => exact ⟨F, Ex.refl F, R, h⟩
  | pk i => exact ⟨F, Ex.refl F, R, h⟩
  | fr d =>
    obtain ⟨a, u, rfl, h0, hf, hh, ho, ht, hn⟩ := h
    exact ⟨upd F a u, Ex.new hf, R.frz h0 hf hh hn ht, (ho.mono (Ex.new hf)).rp upd_same⟩

/-- the data of what an expression gave, as it stands now -/
def rv (t : T1) : M D := fun st => match t with
  | .vl d => .ok d st
  | .fr d => .ok d st
  | .pk i => match st[i]? with
    | some (Slot.val d) => .ok d st
    | some (Slot.own _ d) => if isTup d = true then .no else .ok d st
    | _ => .no
def lf {α : Type} (x : Option α) : M α := fun st => match x with
  | some t => .ok t st
  | none => .no
def XR (K : PySem.W.Frag) (T : Tb) (H F : Hp) (e : Exn) (cl : Value) (dd : Option Addr) : Prop :=
  cl = .ref (T.cl e.c) ∧ ((e.fs = [] ∧ dd = none) ∨ (e.fs ≠ [] ∧ ∃ d fs, dd = some d ∧ F d = some (.xd fs) ∧ fs.map (·.1) = T.an e.c ∧ RpL K T F e.fs (fs.map (·.2))))
def PostR {α : Type} (K : PySem.W.Frag) (T : Tb) (c : Fc) (W : WX) (σ : L2.St) (F : Hp) (Q : α → (Nat → Addr) → Sl → Hp → Hp → Prop) : Res α → Prop
  | .ok a st' => ∀ o' H' F', Ex F F' → Rel K T c o' st' σ H' F' → Q a o' st' H' F'
  | .exc e st' => ∀ cl dd o' H' F', Ex F F' → Rel K T c o' st' σ H' F' → XR K T H' F' e cl dd → W cl dd σ H'
  | .no => False
theorem PostR.ext {α : Type} {W : WX} {Q : α → (Nat → Addr) → Sl → Hp → Hp → Prop} {r : Res α} (e : Ex F F') (h : PostR K T c W σ F Q r) : PostR K T c W σ F' Q r := by
  cases r with
  | ok a st' => exact fun o' H' F2 e2 R => h o' H' F2 (e.trans e2) R
  | exc x st' => exact fun cl dd o' H' F2 e2 R => h cl dd o' H' F2 (e.trans e2) R
  | no => exact h
theorem PostR.imp {α : Type} {W : WX} {Q Q' : α → (Nat → Addr) → Sl → Hp → Hp → Prop} {r : Res α} (h : PostR K T c W σ F Q r) (q : ∀ a o' st' H' F', Ex F F' → Rel K T c o' st' σ H' F' → Q a o' st' H' F' → Q' a o' st' H' F') : PostR K T c W σ F Q' r := by
  cases r with
  | ok a st' => exact fun o' H' F2 e2 R => q _ _ _ _ _ e2 R (h o' H' F2 e2 R)
  | exc x st' => exact h
  | no => exact h
/-- what follows a part -/
theorem PostR.bnd {α β : Type} {W : WX} {Q : β → (Nat → Addr) → Sl → Hp → Hp → Prop} {m : M α} {k : α → M β} (h : PostR K T c W σ F Q (M.bnd m k st)) : PostR K T c W σ F (fun a _ st' _ F' => PostR K T c W σ F' Q (k a st')) (m st) := by
  unfold M.bnd at h
  cases hm : m st with
  | ok a st' =>
    rw [hm] at h
    intro o' H' F' e R
    exact PostR.ext e h
  | exc x st' =>
    rw [hm] at h
    exact h
  | no =>
    rw [hm] at h
    exact h
end

/-! ### expressions -/
def tW (X : Cx) (py : Expr) : TE := fun σ H Q => ∀ (pins : List (Addr × Obj)) (s : Shared), Inv X pins σ H s → wpAny (model X.prog X.w) X.A (eval py X.env) (EP X pins σ Q) X.xe s
theorem pe_tW {X : Cx} {py : Expr} : PE X py (tW X py) := ⟨fun pins s σ H Q I h => h pins s I⟩
theorem tW_of {X : Cx} {py : Expr} {t : TE} {σ : L2.St} {H : Hp} {Q : VK} (p : PE X py t) (h : t σ H Q) : tW X py σ H Q := fun pins s I => p.run pins s σ H Q I h
theorem tW.mono {X : Cx} {py : Expr} {σ : L2.St} {H : Hp} {Q Q' : VK} (h : tW X py σ H Q) (q : ∀ v H', Q v H' → Q' v H') : tW X py σ H Q' := fun pins s I =>
  wpAny_mono (h pins s I) (fun u s' ⟨v, H', I', r, z⟩ => ⟨v, H', I', r, q v H' z⟩) fun _ _ z => z
def tWT (X : Cx) (py : Expr) : TT := fun σ H Q => ∀ (pins : List (Addr × Obj)) (s : Shared), Inv X pins σ H s → wpAny (model X.prog X.w) X.A (isTrue py X.env (eval py X.env)) (TP X pins σ Q) X.xe s
theorem pt_tW {X : Cx} {py : Expr} : PT X py (tWT X py) := ⟨fun pins s σ H Q I h => h pins s I⟩
theorem tWT_of {X : Cx} {py : Expr} {t : TT} {σ : L2.St} {H : Hp} {Q : Bool → Hp → Prop} (p : PT X py t) (h : t σ H Q) : tWT X py σ H Q := fun pins s I => p.run pins s σ H Q I h
def tWW (X : Cx) (py : Expr) : TT := fun σ H Q => ∀ (whole : Sem Value) (pins : List (Addr × Obj)) (s : Shared), Inv X pins σ H s → wpAny (model X.prog X.w) X.A (isTrue py X.env whole) (TP X pins σ Q) X.xe s
theorem pw_tW {X : Cx} {py : Expr} : PW X py (tWW X py) := ⟨fun whole pins s σ H Q I h => h whole pins s I⟩
theorem tWW_of {X : Cx} {py : Expr} {t : TT} {σ : L2.St} {H : Hp} {Q : Bool → Hp → Prop} (p : PW X py t) (h : t σ H Q) : tWW X py σ H Q := fun whole pins s I => p.run whole pins s σ H Q I h
theorem tWW.pt {X : Cx} {py : Expr} {σ : L2.St} {H : Hp} {Q : Bool → Hp → Prop} (h : tWW X py σ H Q) : tWT X py σ H Q := fun pins s I => h _ pins s I

def QE (K : PySem.W.Frag) (T : Tb) (c : Fc) (σ : L2.St) (Q : VK) : T1 → (Nat → Addr) → Sl → Hp → Hp → Prop := fun t o' st' H' F' => ∀ v, TR K T c o' st' σ H' F' v t → Q v H'
/-- the expression py does what m does -/
structure SE (T : Tb) (X : Cx) (c : Fc) (W : WX) (py : Expr) (m : M T1) : Prop where
  run : ∀ (st : Sl) (o : Nat → Addr) (σ : L2.St) (H F : Hp) (Q : VK), Rel X.K T c o st σ H F → PostR X.K T c W σ F (QE X.K T c σ Q) (m st) → tW X py σ H Q
structure ST (T : Tb) (X : Cx) (c : Fc) (W : WX) (py : Expr) (m : M Bool) : Prop where
  run : ∀ (st : Sl) (o : Nat → Addr) (σ : L2.St) (H F : Hp) (Q : Bool → Hp → Prop), Rel X.K T c o st σ H F → PostR X.K T c W σ F (fun b _ _ H' _ => Q b H') (m st) → tWT X py σ H Q
structure SW (T : Tb) (X : Cx) (c : Fc) (W : WX) (py : Expr) (m : M Bool) : Prop where
  run : ∀ (st : Sl) (o : Nat → Addr) (σ : L2.St) (H F : Hp) (Q : Bool → Hp → Prop), Rel X.K T c o st σ H F → PostR X.K T c W σ F (fun b _ _ H' _ => Q b H') (m st) → tWW X py σ H Q
theorem SW.t {T : Tb} {X : Cx} {c : Fc} {W : WX} {py : Expr} {m : M Bool} (h : SW T X c W py m) : ST T X c W py m := ⟨fun st o σ H F Q R p => (h.run st o σ H F Q R p).pt⟩

/-! the pure forms -/
def var (i : Nat) : M T1 := fun st => match st[i]? with
  | some (Slot.val d) => .ok (.vl d) st
  | some (Slot.own false d) => .ok (.vl d) (st.set i (Slot.val d))
  | _ => .no
def pk (i : Nat) : M T1 := fun st => match st[i]? with
  | some (Slot.val _) => .ok (.pk i) st
  | some (Slot.own _ _) => .ok (.pk i) st
  | _ => .no
def cst (d : D) : M T1 := fun st => .ok (.vl d) st
def ops2 (a b : M T1) : M (D × D) := M.bnd a fun x => M.bnd b fun y => M.bnd (rv x) fun dx => M.bnd (rv y) fun dy => M.ret (dx, dy)
def ops1 (a : M T1) : M D := M.bnd a rv
def bin (f : D → D → Option T1) (a b : M T1) : M T1 := M.bnd (ops2 a b) fun p => lf (f p.1 p.2)
def cmp (f : D → D → Option Bool) (a b : M T1) : M Bool := M.bnd (ops2 a b) fun p => lf (f p.1 p.2)
def asV (m : M Bool) : M T1 := M.bnd m fun b => M.ret (.vl (.bl b))
def un (f : D → Option T1) (a : M T1) : M T1 := M.bnd (ops1 a) fun p => lf (f p)

section
variable {T : Tb} {X : Cx} {c : Fc} {W : WX} {pos : Pos} {a b : Expr} {ma mb : M T1}
theorem se_pk {i : Nat} {py : Expr} (h : PE X py (tVar i)) : SE T X c W py (pk i) := by
  refine ⟨fun st o σ H F Q R p => tW_of h ?_⟩
  unfold pk at p
  cases e : st[i]? with
  | none => rw [e] at p; exact p.elim
  | some x =>
    rw [e] at p
    cases x with
    | un => exact p.elim
    | fix => exact p.elim
    | val d =>
      obtain ⟨v, h1, h2⟩ := R.val i d e
      exact ⟨v, h1, p o H F (Ex.refl F) R v h1⟩
    | own r d =>
      obtain ⟨h1, h2, h3, h4⟩ := R.own i r d e
      exact ⟨_, h1, p o H F (Ex.refl F) R _ h1⟩
theorem Rel.thaw {K : PySem.W.Frag} {o : Nat → Addr} {st : Sl} {σ : L2.St} {H F : Hp} {i : Nat} {d : D} (R : Rel K T c o st σ H F) (e : st[i]? = some (Slot.own false d)) :
    ∃ F' v, Ex F F' ∧ Rel K T c o (st.set i (Slot.val d)) σ H F' ∧ σ[i]? = some (some v) ∧ Rp K T F' d v := by
  obtain ⟨h1, h2, ⟨u, h3, h4⟩, h5⟩ := R.own i false d e
  have h0 : c.H0 (o i) = none := by simpa using h5
  have eF : Ex F (upd F (o i) u) := Ex.new h2
  have rp : Rp K T (upd F (o i) u) d (.ref (o i)) := (h4.mono eF).rp upd_same
  refine ⟨upd F (o i) u, .ref (o i), eF, ?_, h1, rp⟩
  have ne : ∀ j r d', (st.set i (Slot.val d))[j]? = some (Slot.own r d') → j ≠ i ∧ st[j]? = some (Slot.own r d') := fun j r d' h => by
    by_cases hj : j = i
    · subst hj
      have hi := (List.getElem?_eq_some_iff.mp e).1
      rw [List.getElem?_set_self hi] at h
      cases h
    · rw [List.getElem?_set_ne (Ne.symm hj)] at h
      exact ⟨hj, h⟩
  have hn : ∀ j r d', (st.set i (Slot.val d))[j]? = some (Slot.own r d') → o j ≠ o i := fun j r d' h z => by
    obtain ⟨n, h'⟩ := ne j r d' h
    exact n (R.dis j i r false d' d h' e z)
  refine ⟨R.ex0.trans eF, fun b w h => ?_, R.dom, R.keep, fun b w h => ?_, fun j d' h => ?_, fun j r d' h => ?_, fun j k r r' d1 d2 h h' z => ?_, by rw [List.length_set]; exact R.len, fun b w h => ?_, fun j h => ?_⟩
  · by_cases hb : b = o i
    · subst hb
      rw [upd_same] at h
      cases h
      exact h3
    · rw [upd_ne hb] at h
      exact R.sub b w h
  · by_cases hb : b = o i
    · subst hb
      exact .inl h0
    · rw [upd_ne hb] at h
      exact R.new b w h
  · by_cases hj : j = i
    · subst hj
      have hi := (List.getElem?_eq_some_iff.mp e).1
      rw [List.getElem?_set_self hi] at h
      cases h
      exact ⟨_, h1, rp⟩
    · rw [List.getElem?_set_ne (Ne.symm hj)] at h
      obtain ⟨v, g1, g2⟩ := R.val j d' h
      exact ⟨v, g1, g2.mono eF⟩
  · obtain ⟨n, h'⟩ := ne j r d' h
    obtain ⟨g1, g2, ⟨w, g3, g4⟩, g5⟩ := R.own j r d' h'
    exact ⟨g1, by rw [upd_ne (hn j r d' h)]; exact g2, ⟨w, g3, g4.mono eF⟩, g5⟩
  · exact R.dis j k r r' d1 d2 (ne j r d1 h).2 (ne k r' d2 h').2 z
  · obtain ⟨k1, k2, k3, k4⟩ := R.tpk b w h
    exact ⟨k1, by rw [upd_ne (fun z => k4 i false d e z.symm)]; exact k2, k3, fun j r d' h => k4 j r d' (ne j r d' h).2⟩
  · by_cases hj : j = i
    · subst hj
      have hi := (List.getElem?_eq_some_iff.mp e).1
      rw [List.getElem?_set_self hi] at h
      cases h
    · rw [List.getElem?_set_ne (Ne.symm hj)] at h
      exact R.fix j h
theorem se_var {i : Nat} {py : Expr} (h : PE X py (tVar i)) : SE T X c W py (var i) := by
  refine ⟨fun st o σ H F Q R p => tW_of h ?_⟩
  unfold var at p
  cases e : st[i]? with
  | none => rw [e] at p; exact p.elim
  | some x =>
    rw [e] at p
    cases x with
    | un => exact p.elim
    | fix => exact p.elim
    | val d =>
      obtain ⟨v, h1, h2⟩ := R.val i d e
      exact ⟨v, h1, p o H F (Ex.refl F) R v h2⟩
    | own r d =>
      cases r with
      | true => exact p.elim
      | false =>
        obtain ⟨F', v, eF, R', h1, rp⟩ := R.thaw e
        exact ⟨v, h1, p o H F' eF R' v rp⟩
theorem se_cst {py : Expr} {d : D} {v : V} (h : PE X py (tC v)) (r : ∀ F, Rp X.K T F d v) : SE T X c W py (cst d) :=
  ⟨fun st o σ H F Q R p => tW_of h (p o H F (Ex.refl F) R v (r F))⟩
/-- the data is seen -/
theorem rv_see {K : PySem.W.Frag} {o : Nat → Addr} {st : Sl} {σ : L2.St} {H F : Hp} {v : V} {t : T1} {α : Type} {k : D → M α} {Q : α → (Nat → Addr) → Sl → Hp → Hp → Prop} (R : Rel K T c o st σ H F) (h : TR K T c o st σ H F v (fz t))
    (p : PostR K T c W σ F Q (M.bnd (rv (fz t)) k st)) : ∃ d, See K T F H d v ∧ PostR K T c W σ F Q (k d st) := by
  unfold M.bnd at p
  cases t with
  | vl d => exact ⟨d, .inl h, p⟩
  | fr d => exact ⟨d, .inl h, p⟩
  | pk i =>
    unfold rv at p
    simp only [fz] at p h
    cases e : st[i]? with
    | none => rw [e] at p; exact p.elim
    | some x =>
      rw [e] at p
      cases x with
      | un => exact p.elim
      | fix => exact p.elim
      | val d =>
        obtain ⟨w, h1, h2⟩ := R.val i d e
        have h : σ[i]? = some (some v) := h
        rw [h1] at h
        cases h
        exact ⟨d, .inl h2, p⟩
      | own r d =>
        obtain ⟨h1, h2, ⟨u, h3, h4⟩, _⟩ := R.own i r d e
        have h : σ[i]? = some (some v) := h
        rw [h1] at h
        cases h
        cases nt : isTup d with
        | true =>
          simp only [nt, if_true] at p
          exact p.elim
        | false =>
          simp only [nt, Bool.false_eq_true, if_false] at p
          exact ⟨d, .inr ⟨_, u, rfl, h3, h4, nt⟩, p⟩
theorem TR.ext {K : PySem.W.Frag} {o o' : Nat → Addr} {st st' : Sl} {σ : L2.St} {H H' F F' : Hp} {v : V} {t : T1} (e : Ex F F') (h : TR K T c o st σ H F v (fz t)) : TR K T c o' st' σ H' F' v (fz t) := by
  cases t with
  | vl d => exact Rp.mono e h
  | fr d => exact Rp.mono e h
  | pk i => exact h
theorem rv_fz {t : T1} : rv (fz t) = rv t := by cases t <;> rfl
/-- two parts, then what both give -/
theorem two {σ : L2.St} {H F : Hp} {o : Nat → Addr} {st : Sl} {α : Type} {k : D → D → M α} {Q : V → V → Hp → Prop} {q : α → (Nat → Addr) → Sl → Hp → Hp → Prop} (ha : SE T X c W a ma) (hb : SE T X c W b mb) (R : Rel X.K T c o st σ H F)
    (p : PostR X.K T c W σ F q (M.bnd (ops2 ma mb) (fun p => k p.1 p.2) st))
    (fin : ∀ dx dy x y o' st' H' F', Ex F F' → Rel X.K T c o' st' σ H' F' → See X.K T F' H' dx x → See X.K T F' H' dy y → PostR X.K T c W σ F' q (k dx dy st') → Q x y H') :
    tW X a σ H (fun x H1 => tW X b σ H1 fun y H2 => Q x y H2) := by
  have p1 : PostR X.K T c W σ F q (M.bnd ma (fun x => M.bnd mb fun y => M.bnd (rv x) fun dx => M.bnd (rv y) fun dy => k dx dy) st) := by
    have e : M.bnd (ops2 ma mb) (fun p => k p.1 p.2) st = M.bnd ma (fun x => M.bnd mb fun y => M.bnd (rv x) fun dx => M.bnd (rv y) fun dy => k dx dy) st := by
      unfold ops2 M.bnd M.ret
      cases ma st with
      | ok x s1 =>
        simp only
        cases mb s1 with
        | ok y s2 =>
          simp only
          cases rv x s2 with
          | ok dx s3 =>
            simp only
            cases rv y s3 <;> rfl
          | exc e s => rfl
          | no => rfl
        | exc e s => rfl
        | no => rfl
      | exc e s => rfl
      | no => rfl
    rw [e] at p
    exact p
  refine ha.run st o σ H F _ R ((PostR.bnd p1).imp fun x o1 s1 H1 F1 e1 R1 p2 v tr => ?_)
  obtain ⟨F2, e2, R2, tr2⟩ := R1.fz tr
  refine hb.run s1 o1 σ H1 F2 _ R2 ((PostR.bnd (PostR.ext e2 p2)).imp fun y o3 s3 H3 F3 e3 R3 p3 w tw => ?_)
  obtain ⟨F4, e4, R4, tw4⟩ := R3.fz tw
  have p4 := PostR.ext e4 p3
  rw [← rv_fz] at p4
  obtain ⟨dx, see1, p5⟩ := rv_see R4 (tr2.ext (e3.trans e4)) p4
  rw [← rv_fz] at p5
  obtain ⟨dy, see2, p6⟩ := rv_see R4 tw4 p5
  exact fin dx dy v w o3 s3 H3 F4 (((e1.trans e2).trans e3).trans e4) R4 see1 see2 p6
/-- one part -/
theorem one {σ : L2.St} {H F : Hp} {o : Nat → Addr} {st : Sl} {α : Type} {k : D → M α} {Q : V → Hp → Prop} {q : α → (Nat → Addr) → Sl → Hp → Hp → Prop} (ha : SE T X c W a ma) (R : Rel X.K T c o st σ H F)
    (p : PostR X.K T c W σ F q (M.bnd (ops1 ma) k st))
    (fin : ∀ dx x o' st' H' F', Ex F F' → Rel X.K T c o' st' σ H' F' → See X.K T F' H' dx x → PostR X.K T c W σ F' q (k dx st') → Q x H') :
    tW X a σ H Q := by
  have p1 : PostR X.K T c W σ F q (M.bnd ma (fun x => M.bnd (rv x) k) st) := by
    have e : M.bnd (ops1 ma) k st = M.bnd ma (fun x => M.bnd (rv x) k) st := by
      unfold ops1 M.bnd
      cases ma st <;> rfl
    rw [e] at p
    exact p
  refine ha.run st o σ H F _ R ((PostR.bnd p1).imp fun x o1 s1 H1 F1 e1 R1 p2 v tr => ?_)
  obtain ⟨F2, e2, R2, tr2⟩ := R1.fz tr
  have p4 := PostR.ext e2 p2
  rw [← rv_fz] at p4
  obtain ⟨dx, see1, p5⟩ := rv_see R2 tr2 p4
  exact fin dx v o1 s1 H1 F2 (e1.trans e2) R2 see1 p5

/-- the result of an operation on values: a frozen value, or a new object -/
def PR (K : PySem.W.Frag) (T : Tb) (F H : Hp) (t : T1) (v : V) (H' : Hp) : Prop := Ex H H' ∧ match t with
  | .vl d => Rp K T F d v
  | .fr d => ∃ a u, v = .ref a ∧ H a = none ∧ H' a = some u ∧ Ob K T F d u
  | .pk _ => False
theorem PR.tr {K : PySem.W.Frag} {o : Nat → Addr} {st : Sl} {σ : L2.St} {H H' F : Hp} {v : V} {t : T1} (R : Rel K T c o st σ H F) (h : PR K T F H t v H') : Rel K T c o st σ H' F ∧ TR K T c o st σ H' F v t := by
  obtain ⟨e, h⟩ := h
  refine ⟨R.ext e, ?_⟩
  cases t with
  | vl d => exact h
  | pk i => exact h.elim
  | fr d =>
    obtain ⟨a, u, h1, h2, h3, h4⟩ := h
    exact ⟨a, u, h1, R.no0 h2, R.nof h2, h3, h4, R.not h2, fun i r d' z => R.neO h2 z⟩
theorem PR.sc {K : PySem.W.Frag} {F H : Hp} {d : D} {v : V} (h : Rp K T F d v) : PR K T F H (.vl d) v H := ⟨Ex.refl H, h⟩
/-- a two-place operation on values does what g does on data -/
def OpS (T : Tb) (X : Cx) (f : Value → Value → Sem Value) (g : D → D → Option T1) : Prop :=
  ∀ (pins : List (Addr × Obj)) (s : Shared) (σ : L2.St) (F H : Hp) (x y : V) (v u : Value) (dx dy : D) (t : T1) (Q : VK), Inv X pins σ H s → RelV x v → RelV y u → Ex F H → See X.K T F H dx x → See X.K T F H dy y → g dx dy = some t →
    (∀ z H', PR X.K T F H t z H' → Q z H') → wpAny (model X.prog X.w) X.A (f v u) (EP X pins σ Q) X.xe s
def rW (X : Cx) (f : Value → Value → Sem Value) : R2 := fun x y H Q => ∀ (pins : List (Addr × Obj)) (s : Shared) (σ : L2.St) (v u : Value), Inv X pins σ H s → RelV x v → RelV y u → wpAny (model X.prog X.w) X.A (f v u) (EP X pins σ Q) X.xe s
theorem opr_rW {f : Value → Value → Sem Value} : OpR X f (rW X f) := fun pins s σ H x y v u Q I rx ry h => h pins s σ v u I rx ry
/-- .. from a rule of the layer, by cases on the data -/
theorem OpS.of {f : Value → Value → Sem Value} {g : D → D → Option T1} (h : ∀ (F H : Hp) (x y : V) (dx dy : D) (t : T1) (Q : VK), Ex F H → See X.K T F H dx x → See X.K T F H dy y → g dx dy = some t → (∀ z H', PR X.K T F H t z H' → Q z H') → ∃ r : R2, OpR X f r ∧ r x y H Q) : OpS T X f g :=
  fun pins s σ F H x y v u dx dy t Q I rx ry e sx sy hg k => by
    obtain ⟨r, hr, hq⟩ := h F H x y dx dy t Q e sx sy hg k
    exact hr pins s σ H x y v u Q I rx ry hq
theorem OpS.or {f : Value → Value → Sem Value} {g1 g2 : D → D → Option T1} (h1 : OpS T X f g1) (h2 : OpS T X f g2) : OpS T X f (fun x y => (g1 x y).or (g2 x y)) :=
  fun pins s σ F H x y v u dx dy t Q I rx ry e sx sy hg k => by
    cases e1 : g1 dx dy with
    | some t1 =>
      simp only [e1, Option.some_or, Option.some.injEq] at hg
      subst hg
      exact h1 pins s σ F H x y v u dx dy t1 Q I rx ry e sx sy e1 k
    | none =>
      simp only [e1, Option.none_or] at hg
      exact h2 pins s σ F H x y v u dx dy t Q I rx ry e sx sy hg k
theorem OpS.rW {f : Value → Value → Sem Value} {g : D → D → Option T1} (h : OpS T X f g) {F H : Hp} {x y : V} {dx dy : D} {t : T1} {Q : VK} (e : Ex F H) (sx : See X.K T F H dx x) (sy : See X.K T F H dy y) (hg : g dx dy = some t) (k : ∀ z H', PR X.K T F H t z H' → Q z H') : Fw.rW X f x y H Q :=
  fun pins s σ v u I rx ry => h pins s σ F H x y v u dx dy t Q I rx ry e sx sy hg k
theorem PostR.lf {K : PySem.W.Frag} {σ : L2.St} {F : Hp} {st : Sl} {α : Type} {q : α → (Nat → Addr) → Sl → Hp → Hp → Prop} {x : Option α} (p : PostR K T c W σ F q (lf x st)) : ∃ a, x = some a ∧ PostR K T c W σ F q (.ok a st) := by
  cases x with
  | none => exact p.elim
  | some a => exact ⟨a, rfl, p⟩
theorem se_bin {op : Operator} {f : D → D → Option T1} (hop : OpS T X (binaryOp op) f) (ha : SE T X c W a ma) (hb : SE T X c W b mb) : SE T X c W (.BinOp a op b pos) (bin f ma mb) := by
  refine ⟨fun st o σ H F Q R p => tW_of (pe_op opr_rW pe_tW pe_tW) ?_⟩
  refine two (k := fun x y => lf (f x y)) ha hb R p fun dx dy x y o1 s1 H1 F1 e1 R1 sx sy p1 => ?_
  obtain ⟨t, ht, p2⟩ := p1.lf
  exact hop.rW R1.sub sx sy ht fun z H' pr => let ⟨R2, tr⟩ := pr.tr R1; p2 o1 H' F1 (Ex.refl F1) R2 z tr
/-- a comparison: the answer is a bool -/
def CmS (T : Tb) (X : Cx) (f : Value → Value → Sem Value) (g : D → D → Option Bool) : Prop := OpS T X f fun x y => (g x y).map fun b => .vl (.bl b)
theorem st_cmp {op : CmpOp} {f : D → D → Option Bool} (hop : CmS T X (compareOp op) f) (ha : SE T X c W a ma) (hb : SE T X c W b mb) (hm : behindInMarks op b = false := by first | exact nobehind _ (by decide) (by decide) | rfl) : ST T X c W (.Compare a [op] [b] pos) (cmp f ma mb) := by
  refine ⟨fun st o σ H F Q R p => tWT_of (pt_cmpR opr_rW pe_tW pe_tW hm) ?_⟩
  refine two (k := fun x y => lf (f x y)) ha hb R p fun dx dy x y o1 s1 H1 F1 e1 R1 sx sy p1 => ?_
  obtain ⟨t, ht, p2⟩ := p1.lf
  refine OpS.rW hop R1.sub sx sy (t := .vl (.bl t)) (by simp only [ht, Option.map_some]) fun z H' pr => ?_
  obtain ⟨R2, tr⟩ := pr.tr R1
  have tr : Rp X.K T F1 (.bl t) z := tr
  unfold Rp at tr
  exact ⟨t, tr, p2 o1 H' F1 (Ex.refl F1) R2⟩
theorem asV_post {K : PySem.W.Frag} {σ : L2.St} {F : Hp} {st : Sl} {m : M Bool} {Q : VK} (p : PostR K T c W σ F (QE K T c σ Q) (asV m st)) : PostR K T c W σ F (fun b _ _ H' _ => Q (.bl b) H') (m st) := by
  refine (PostR.bnd p).imp fun b o' s' H' F' e R q => ?_
  exact q o' H' F' (Ex.refl F') R (.bl b) (by show Rp K T F' (.bl b) (.bl b); unfold Rp; rfl)
theorem se_cmp {op : CmpOp} {f : D → D → Option Bool} (hop : CmS T X (compareOp op) f) (ha : SE T X c W a ma) (hb : SE T X c W b mb) (hm : behindInMarks op b = false := by first | exact nobehind _ (by decide) (by decide) | rfl) : SE T X c W (.Compare a [op] [b] pos) (asV (cmp f ma mb)) := by
  refine ⟨fun st o σ H F Q R p => tW_of (pe_cmpR opr_rW pe_tW pe_tW hm) ?_⟩
  refine two (k := fun x y => lf (f x y)) ha hb R (asV_post p) fun dx dy x y o1 s1 H1 F1 e1 R1 sx sy p1 => ?_
  obtain ⟨t, ht, p2⟩ := p1.lf
  refine OpS.rW hop R1.sub sx sy (t := .vl (.bl t)) (by simp only [ht, Option.map_some]) fun z H' pr => ?_
  obtain ⟨R2, tr⟩ := pr.tr R1
  have tr : Rp X.K T F1 (.bl t) z := tr
  unfold Rp at tr
  subst tr
  exact p2 o1 H' F1 (Ex.refl F1) R2
end
end Fw
end

section
set_option maxRecDepth 100000
set_option maxHeartbeats 2000000
namespace Fw
open PySem PySem.Spec PyProof.Rows L2

def stk {α : Type} : M α := fun _ => Res.no
/-! ### truth, and, or, not, if-else -/
def andM (a b : M Bool) : M Bool := M.bnd a fun x => if x = true then b else M.ret false
def orM (a b : M Bool) : M Bool := M.bnd a fun x => if x = true then M.ret true else b
def notM (a : M Bool) : M Bool := M.bnd a fun x => M.ret (!x)
def ifM {α : Type} (t : M Bool) (a b : M α) : M α := M.bnd t fun x => if x = true then a else b
def boolD : D → Option Bool
  | .bl b => some b
  | _ => none
def andV (a b : M T1) : M T1 := M.bnd (ops1 a) fun d => M.bnd (lf (boolD d)) fun x => if x = true then b else M.ret (T1.vl (.bl false))
def orV (a b : M T1) : M T1 := M.bnd (ops1 a) fun d => M.bnd (lf (boolD d)) fun x => if x = true then M.ret (T1.vl (.bl true)) else b
def notV (a : M T1) : M T1 := M.bnd (ops1 a) fun d => M.bnd (lf (boolD d)) fun x => M.ret (T1.vl (.bl (!x)))
def truD : D → Option Bool
  | .non => some false
  | .bl b => some b
  | .int i => some (i != 0)
  | .str x => if x.length ≤ 1000000 then some ((x.length : Int) != 0) else none
  | .lst ds => some !ds.isEmpty
  | .tup ds => some !ds.isEmpty
  | .dic ks _ => some !ks.isEmpty
  | .ins _ _ => none
  | .cls _ => none
  | .scr _ => none
def tst (a : M T1) : M Bool := M.bnd (ops1 a) fun d => lf (truD d)

section
variable {T : Tb} {X : Cx} {c : Fc} {W : WX} {pos : Pos} {a b : Expr} {ma mb : M T1} {ta tb : M Bool} {rest : List Expr}
theorem truV_of {F H : Hp} {d : D} {x : V} {k : Bool} (e : Ex F H) (h : See X.K T F H d x) (t : truD d = some k) : TruV X.K x H k := by
  cases d with
  | non => cases h.non; cases t; rfl
  | bl b => cases h.bl; cases t; rfl
  | int i => cases h.int; cases t; rfl
  | str y =>
    cases h.str
    have t : (if y.length ≤ 1000000 then some ((y.length : Int) != 0) else none) = some k := t
    by_cases hl : y.length ≤ 1000000
    · rw [if_pos hl] at t
      cases t
      exact ⟨by rw [sizeLine_eq]; omega, rfl⟩
    · rw [if_neg hl] at t
      cases t
  | lst ds =>
    obtain ⟨p, vs, rfl, h1, h2⟩ := h.lst e
    cases t
    refine .inl ⟨vs, h1, ?_⟩
    have := h2.len
    cases vs <;> cases ds <;> simp_all
  | tup ds =>
    obtain ⟨p, vs, rfl, h1, h2⟩ := h.tup e
    cases t
    refine .inr (.inl ⟨vs, h1, ?_⟩)
    have := h2.len
    cases vs <;> cases ds <;> simp_all
  | dic ks ds =>
    obtain ⟨p, kvs, rfl, h1, h2, h3⟩ := h.dic e
    cases t
    refine .inr (.inr ⟨kvs, h1, ?_⟩)
    subst h2
    cases kvs <;> rfl
  | ins c ds => cases t
  | cls c => cases t
  | scr c => cases t
theorem st_val (ha : SE T X c W a ma) (he : ∀ whole, isTrue a X.env whole = (do let v ← whole; standAt a.pos; holding [v] (truthy v)) := by intro _; rfl) : ST T X c W a (tst ma) := by
  refine ⟨fun st o σ H F Q R p => tWT_of (pt_truth pe_tW he) ?_⟩
  refine one (k := fun d => lf (truD d)) ha R p fun dx x o1 s1 H1 F1 e1 R1 sx p1 => ?_
  obtain ⟨k, hk, p2⟩ := p1.lf
  exact ⟨k, truV_of R1.sub sx hk, p2 o1 H1 F1 (Ex.refl F1) R1⟩
theorem sw_and1 (ha : ST T X c W a ta) : SW T X c W (.BoolOp .And [a] pos) ta := ⟨fun st o σ H F Q R p => tWW_of (pw_and1 pt_tW) (ha.run st o σ H F Q R p)⟩
theorem sw_or1 (ha : ST T X c W a ta) : SW T X c W (.BoolOp .Or [a] pos) ta := ⟨fun st o σ H F Q R p => tWW_of (pw_or1 pt_tW) (ha.run st o σ H F Q R p)⟩
theorem sw_and (ha : ST T X c W a ta) (hb : SW T X c W (.BoolOp .And (b :: rest) pos) tb) : SW T X c W (.BoolOp .And (a :: b :: rest) pos) (andM ta tb) := by
  refine ⟨fun st o σ H F Q R p => tWW_of (pw_and pt_tW pw_tW) ?_⟩
  refine ha.run st o σ H F _ R ((PostR.bnd p).imp fun x o1 s1 H1 F1 e1 R1 p1 => ?_)
  cases x with
  | true => exact hb.run s1 o1 σ H1 F1 Q R1 p1
  | false => exact p1 o1 H1 F1 (Ex.refl F1) R1
theorem sw_or (ha : ST T X c W a ta) (hb : SW T X c W (.BoolOp .Or (b :: rest) pos) tb) : SW T X c W (.BoolOp .Or (a :: b :: rest) pos) (orM ta tb) := by
  refine ⟨fun st o σ H F Q R p => tWW_of (pw_or pt_tW pw_tW) ?_⟩
  refine ha.run st o σ H F _ R ((PostR.bnd p).imp fun x o1 s1 H1 F1 e1 R1 p1 => ?_)
  cases x with
  | false => exact hb.run s1 o1 σ H1 F1 Q R1 p1
  | true => exact p1 o1 H1 F1 (Ex.refl F1) R1
theorem st_not (ha : ST T X c W a ta) : ST T X c W (.UnaryOp .Not a pos) (notM ta) := by
  refine ⟨fun st o σ H F Q R p => tWT_of (pt_not pt_tW) ?_⟩
  exact ha.run st o σ H F _ R ((PostR.bnd p).imp fun x o1 s1 H1 F1 e1 R1 p1 => p1 o1 H1 F1 (Ex.refl F1) R1)
theorem se_if {t : Expr} {mt : M Bool} (ht : ST T X c W t mt) (ha : SE T X c W a ma) (hb : SE T X c W b mb) : SE T X c W (.IfExp t a b pos) (ifM mt ma mb) := by
  refine ⟨fun st o σ H F Q R p => tW_of (pe_ifExp pt_tW pe_tW pe_tW) ?_⟩
  refine ht.run st o σ H F _ R ((PostR.bnd p).imp fun x o1 s1 H1 F1 e1 R1 p1 => ?_)
  cases x with
  | true => exact ha.run s1 o1 σ H1 F1 Q R1 p1
  | false => exact hb.run s1 o1 σ H1 F1 Q R1 p1
theorem boolD_see {K : PySem.W.Frag} {F H : Hp} {d : D} {x : V} {k : Bool} (h : See K T F H d x) (t : boolD d = some k) : x = .bl k := by
  cases d <;> cases t
  exact h.bl
theorem se_and1 {op : BoolOp} (ha : SE T X c W a ma) : SE T X c W (.BoolOp op [a] pos) ma := ⟨fun st o σ H F Q R p => tW_of (pe_one pe_tW) (ha.run st o σ H F Q R p)⟩
theorem se_and (ha : SE T X c W a ma) (hb : SE T X c W (.BoolOp .And (b :: rest) pos) mb) : SE T X c W (.BoolOp .And (a :: b :: rest) pos) (andV ma mb) := by
  refine ⟨fun st o σ H F Q R p => tW_of (pe_and pe_tW pe_tW) ?_⟩
  refine one (k := fun d => M.bnd (lf (boolD d)) fun x => if x = true then mb else M.ret (T1.vl (.bl false))) ha R p fun dx x o1 s1 H1 F1 e1 R1 sx p1 => ?_
  obtain ⟨k, hk, p2⟩ := (PostR.bnd p1).lf
  have p3 := p2 o1 H1 F1 (Ex.refl F1) R1
  refine ⟨k, boolD_see sx hk, ?_⟩
  cases k with
  | true => exact hb.run s1 o1 σ H1 F1 Q R1 p3
  | false => exact p3 o1 H1 F1 (Ex.refl F1) R1 _ (by show Rp _ _ _ _ _; unfold Rp; rfl)
theorem se_or (ha : SE T X c W a ma) (hb : SE T X c W (.BoolOp .Or (b :: rest) pos) mb) : SE T X c W (.BoolOp .Or (a :: b :: rest) pos) (orV ma mb) := by
  refine ⟨fun st o σ H F Q R p => tW_of (pe_or pe_tW pe_tW) ?_⟩
  refine one (k := fun d => M.bnd (lf (boolD d)) fun x => if x = true then M.ret (T1.vl (.bl true)) else mb) ha R p fun dx x o1 s1 H1 F1 e1 R1 sx p1 => ?_
  obtain ⟨k, hk, p2⟩ := (PostR.bnd p1).lf
  have p3 := p2 o1 H1 F1 (Ex.refl F1) R1
  refine ⟨k, boolD_see sx hk, ?_⟩
  cases k with
  | false => exact hb.run s1 o1 σ H1 F1 Q R1 p3
  | true => exact p3 o1 H1 F1 (Ex.refl F1) R1 _ (by show Rp _ _ _ _ _; unfold Rp; rfl)
theorem se_not (ha : SE T X c W a ma) : SE T X c W (.UnaryOp .Not a pos) (notV ma) := by
  refine ⟨fun st o σ H F Q R p => tW_of (pe_not pe_tW) ?_⟩
  refine one (k := fun d => M.bnd (lf (boolD d)) fun x => M.ret (T1.vl (.bl (!x)))) ha R p fun dx x o1 s1 H1 F1 e1 R1 sx p1 => ?_
  obtain ⟨k, hk, p2⟩ := (PostR.bnd p1).lf
  have p3 := p2 o1 H1 F1 (Ex.refl F1) R1
  exact ⟨k, boolD_see sx hk, p3 o1 H1 F1 (Ex.refl F1) R1 _ (by show Rp _ _ _ _ _; unfold Rp; rfl)⟩
end

/-! ### argument lists -/
def argsM : List (M T1) → M (List T1)
  | [] => M.ret []
  | m :: ms => M.bnd m fun t => M.bnd (argsM ms) fun ts => M.ret (fz t :: ts)
def TRL (K : PySem.W.Frag) (T : Tb) (c : Fc) (o : Nat → Addr) (st : Sl) (σ : L2.St) (H F : Hp) : List V → List T1 → Prop
  | [], [] => True
  | v :: vs, t :: ts => TR K T c o st σ H F v (fz t) ∧ fz t = t ∧ TRL K T c o st σ H F vs ts
  | _, _ => False
theorem TRL.ext {K : PySem.W.Frag} {T : Tb} {c : Fc} {o o' : Nat → Addr} {st st' : Sl} {σ : L2.St} {H H' F F' : Hp} (e : Ex F F') : ∀ {vs : List V} {ts : List T1}, TRL K T c o st σ H F vs ts → TRL K T c o' st' σ H' F' vs ts
  | [], [], _ => True.intro
  | v :: vs, t :: ts, h => ⟨TR.ext e h.1, h.2.1, TRL.ext e h.2.2⟩
  | [], _ :: _, h => h.elim
  | _ :: _, [], h => h.elim
def tWA (X : Cx) (es : List Expr) : TA := fun σ H Q => ∀ (pos : Pos) (pins : List (Addr × Obj)) (s : Shared), Inv X pins σ H s → wpAny (model X.prog X.w) X.A (spliced (backTo pos (starEach es X.env))) (AP X pins σ Q) X.xe s
theorem pa_tW {X : Cx} {es : List Expr} : PA X es (tWA X es) := ⟨fun pos pins s σ H Q I h => h pos pins s I⟩
theorem tWA_of {X : Cx} {es : List Expr} {t : TA} {σ : L2.St} {H : Hp} {Q : List V → Hp → Prop} (p : PA X es t) (h : t σ H Q) : tWA X es σ H Q := fun pos pins s I => p.run pos pins s σ H Q I h
structure SA (T : Tb) (X : Cx) (c : Fc) (W : WX) (es : List Expr) (m : M (List T1)) : Prop where
  run : ∀ (st : Sl) (o : Nat → Addr) (σ : L2.St) (H F : Hp) (Q : List V → Hp → Prop), Rel X.K T c o st σ H F → PostR X.K T c W σ F (fun ts o' st' H' F' => ∀ vs, TRL X.K T c o' st' σ H' F' vs ts → Q vs H') (m st) → tWA X es σ H Q
section
variable {T : Tb} {X : Cx} {c : Fc} {W : WX} {pos : Pos} {e : Expr} {es : List Expr} {m : M T1} {ms : List (M T1)}
theorem sa_nil : SA T X c W [] (argsM []) := ⟨fun st o σ H F Q R p => tWA_of pa_nil (p o H F (Ex.refl F) R [] True.intro)⟩
theorem sa_cons (h : SE T X c W e m) (hs : SA T X c W es (argsM ms)) (hst : starEach (e :: es) X.env = (false, eval e X.env) :: starEach es X.env := by rfl) : SA T X c W (e :: es) (argsM (m :: ms)) := by
  refine ⟨fun st o σ H F Q R p => tWA_of (pa_cons pe_tW pa_tW hst) ?_⟩
  refine h.run st o σ H F _ R ((PostR.bnd (m := m) p).imp fun x o1 s1 H1 F1 e1 R1 p1 v tr => ?_)
  obtain ⟨F2, e2, R2, tr2⟩ := R1.fz tr
  refine hs.run s1 o1 σ H1 F2 _ R2 ((PostR.bnd (PostR.ext e2 p1)).imp fun ts o3 s3 H3 F3 e3 R3 p3 vs tvs => ?_)
  refine p3 o3 H3 F3 (Ex.refl F3) R3 (v :: vs) ⟨?_, by cases x <;> rfl, tvs⟩
  have h1 := tr2.ext (o' := o3) (st' := s3) (H' := H3) e3
  cases x <;> exact h1
end
/-- the data of frozen arguments, as it stands now -/
def rvs : List T1 → M (List D)
  | [] => M.ret []
  | t :: ts => M.bnd (rv t) fun d => M.bnd (rvs ts) fun ds => M.ret (d :: ds)
def SeeL (K : PySem.W.Frag) (T : Tb) (F H : Hp) : List D → List V → Prop
  | [], [] => True
  | d :: ds, v :: vs => See K T F H d v ∧ SeeL K T F H ds vs
  | _, _ => False
theorem SeeL.len {K : PySem.W.Frag} {T : Tb} {F H : Hp} : ∀ {ds : List D} {vs : List V}, SeeL K T F H ds vs → vs.length = ds.length
  | [], [], _ => rfl
  | _ :: _, _ :: _, h => by simp [SeeL.len h.2]
  | [], _ :: _, h => h.elim
  | _ :: _, [], h => h.elim
section
variable {T : Tb} {X : Cx} {c : Fc} {W : WX} {pos : Pos} {es : List Expr}
theorem rvs_see {K : PySem.W.Frag} {o : Nat → Addr} {st : Sl} {σ : L2.St} {H F : Hp} {α : Type} {Q : α → (Nat → Addr) → Sl → Hp → Hp → Prop} (R : Rel K T c o st σ H F) :
    ∀ {vs : List V} {ts : List T1} {k : List D → M α}, TRL K T c o st σ H F vs ts → PostR K T c W σ F Q (M.bnd (rvs ts) k st) → ∃ ds, SeeL K T F H ds vs ∧ PostR K T c W σ F Q (k ds st)
  | [], [], k, _, p => ⟨[], True.intro, p⟩
  | v :: vs, t :: ts, k, h, p => by
    have p1 : PostR K T c W σ F Q (M.bnd (rv (fz t)) (fun d => M.bnd (rvs ts) fun ds => k (d :: ds)) st) := by
      have e : M.bnd (rvs (t :: ts)) k st = M.bnd (rv t) (fun d => M.bnd (rvs ts) fun ds => k (d :: ds)) st := by
        show M.bnd (M.bnd (rv t) fun d => M.bnd (rvs ts) fun ds => M.ret (d :: ds)) k st = _
        unfold M.bnd M.ret
        cases rv t st with
        | ok d s1 =>
          simp only
          cases rvs ts s1 <;> rfl
        | exc e s => rfl
        | no => rfl
      rw [e] at p
      rw [h.2.1]
      exact p
    obtain ⟨d, sd, p2⟩ := rv_see R h.1 p1
    obtain ⟨ds, sds, p3⟩ := rvs_see R (k := fun ds => k (d :: ds)) h.2.2 p2
    exact ⟨d :: ds, ⟨sd, sds⟩, p3⟩
  | [], _ :: _, _, h, _ => h.elim
  | _ :: _, [], _, h, _ => h.elim
end
/-- frozen arguments alone -/
def vlsO : List T1 → Option (List D)
  | [] => some []
  | .vl d :: ts => (vlsO ts).map (d :: ·)
  | _ :: _ => none
theorem vlsO_rp {K : PySem.W.Frag} {T : Tb} {c : Fc} {o : Nat → Addr} {st : Sl} {σ : L2.St} {H F : Hp} : ∀ {vs : List V} {ts : List T1} {ds : List D}, TRL K T c o st σ H F vs ts → vlsO ts = some ds → RpL K T F ds vs
  | [], [], ds, _, e => by cases e; exact RpL.nil
  | v :: vs, .vl d :: ts, ds, h, e => by
    unfold vlsO at e
    cases e1 : vlsO ts with
    | none => rw [e1] at e; cases e
    | some es =>
      rw [e1] at e
      cases e
      exact RpL.cons h.1 (vlsO_rp h.2.2 e1)
  | v :: vs, .fr d :: ts, ds, h, e => by cases e
  | v :: vs, .pk d :: ts, ds, h, e => by cases e
  | [], _ :: _, _, h, _ => h.elim
  | _ :: _, [], _, h, _ => h.elim
def tupM (ms : List (M T1)) : M T1 := M.bnd (argsM ms) fun ts => M.bnd (lf (vlsO ts)) fun ds => if ds.length ≤ 100000 then M.ret (T1.fr (.tup ds)) else stk
def lstM (ms : List (M T1)) : M T1 := M.bnd (argsM ms) fun ts => M.bnd (lf (vlsO ts)) fun ds => if ds.length ≤ 100000 then M.ret (T1.fr (.lst ds)) else stk
def CallS (T : Tb) (X : Cx) (f : Value) (g : List D → Option T1) : Prop :=
  ∀ (pins : List (Addr × Obj)) (s : Shared) (σ : L2.St) (F H : Hp) (xs : List V) (us : List Value) (ds : List D) (t : T1) (Q : VK), Inv X pins σ H s → Vals xs us → Ex F H → SeeL X.K T F H ds xs → g ds = some t →
    (∀ z H', PR X.K T F H t z H' → Q z H') → wpAny (model X.prog X.w) X.A (call f us) (EP X pins σ Q) X.xe s
def cW (X : Cx) (f : Value) : List V → Hp → VK → Prop := fun xs H Q => ∀ (pins : List (Addr × Obj)) (s : Shared) (σ : L2.St) (us : List Value), Inv X pins σ H s → Vals xs us → wpAny (model X.prog X.w) X.A (call f us) (EP X pins σ Q) X.xe s
theorem callr_cW {X : Cx} {f : Value} : CallR X f (cW X f) := fun pins s σ H xs us Q I r h => h pins s σ us I r
theorem CallS.of {T : Tb} {X : Cx} {f : Value} {g : List D → Option T1} (h : ∀ (F H : Hp) (xs : List V) (ds : List D) (t : T1) (Q : VK), Ex F H → SeeL X.K T F H ds xs → g ds = some t → (∀ z H', PR X.K T F H t z H' → Q z H') → ∃ r, CallR X f r ∧ r xs H Q) : CallS T X f g :=
  fun pins s σ F H xs us ds t Q I r e sx hg k => by
    obtain ⟨q, hr, hq⟩ := h F H xs ds t Q e sx hg k
    exact hr pins s σ H xs us Q I r hq
theorem CallS.or {T : Tb} {X : Cx} {f : Value} {g1 g2 : List D → Option T1} (h1 : CallS T X f g1) (h2 : CallS T X f g2) : CallS T X f (fun x => (g1 x).or (g2 x)) :=
  fun pins s σ F H x v ds t Q I rx e sx hg k => by
    cases e1 : g1 ds with
    | some t1 =>
      simp only [e1, Option.some_or, Option.some.injEq] at hg
      subst hg
      exact h1 pins s σ F H x v ds t1 Q I rx e sx e1 k
    | none =>
      simp only [e1, Option.none_or] at hg
      exact h2 pins s σ F H x v ds t Q I rx e sx hg k
def callB (g : List D → Option T1) (ms : List (M T1)) : M T1 := M.bnd (argsM ms) fun ts => M.bnd (rvs ts) fun ds => lf (g ds)
section
variable {T : Tb} {X : Cx} {c : Fc} {W : WX} {pos p : Pos} {e : Expr} {es : List Expr} {ms : List (M T1)}
theorem se_tup {x1 : Nat} (h : SA T X c W es (argsM ms)) : SE T X c W (.Tuple es x1 pos) (tupM ms) := by
  refine ⟨fun st o σ H F Q R p => tW_of (pe_tup pa_tW) ?_⟩
  refine h.run st o σ H F _ R ((PostR.bnd p).imp fun ts o1 s1 H1 F1 e1 R1 p1 vs tvs => ?_)
  obtain ⟨ds, hds, p2⟩ := (PostR.bnd p1).lf
  have p3 : PostR X.K T c W σ F1 (QE X.K T c σ Q) ((if ds.length ≤ 100000 then M.ret (T1.fr (.tup ds)) else stk) s1) := p2 o1 H1 F1 (Ex.refl F1) R1
  have rp := vlsO_rp tvs hds
  by_cases hl : ds.length ≤ 100000
  · rw [if_pos hl] at p3
    refine ⟨by rw [rp.len, sizeLine_eq]; omega, fun q hq => ?_⟩
    have pr : PR X.K T F1 H1 (.fr (.tup ds)) (.ref q) (upd H1 q (.tup vs)) := ⟨Ex.new hq, q, .tup vs, rfl, hq, upd_same, vs, rfl, rp⟩
    obtain ⟨R2, tr⟩ := pr.tr R1
    exact p3 o1 _ F1 (Ex.refl F1) R2 _ tr
  · rw [if_neg hl] at p3
    exact p3.elim
theorem se_lst (h : SA T X c W es (argsM ms)) : SE T X c W (.List es pos) (lstM ms) := by
  refine ⟨fun st o σ H F Q R p => tW_of (pe_lst pa_tW) ?_⟩
  refine h.run st o σ H F _ R ((PostR.bnd p).imp fun ts o1 s1 H1 F1 e1 R1 p1 vs tvs => ?_)
  obtain ⟨ds, hds, p2⟩ := (PostR.bnd p1).lf
  have p3 : PostR X.K T c W σ F1 (QE X.K T c σ Q) ((if ds.length ≤ 100000 then M.ret (T1.fr (.lst ds)) else stk) s1) := p2 o1 H1 F1 (Ex.refl F1) R1
  have rp := vlsO_rp tvs hds
  by_cases hl : ds.length ≤ 100000
  · rw [if_pos hl] at p3
    refine ⟨by rw [rp.len, sizeLine_eq]; omega, fun q hq => ?_⟩
    have pr : PR X.K T F1 H1 (.fr (.lst ds)) (.ref q) (upd H1 q (.lst vs)) := ⟨Ex.new hq, q, .lst vs, rfl, hq, upd_same, vs, rfl, rp⟩
    obtain ⟨R2, tr⟩ := pr.tr R1
    exact p3 o1 _ F1 (Ex.refl F1) R2 _ tr
  · rw [if_neg hl] at p3
    exact p3.elim
theorem callB_core {f : Value} {g : List D → Option T1} (hc : CallS T X f g) (h : SA T X c W es (argsM ms)) {st : Sl} {o : Nat → Addr} {σ : L2.St} {H F : Hp} {Q : VK} (R : Rel X.K T c o st σ H F)
    (p : PostR X.K T c W σ F (QE X.K T c σ Q) (callB g ms st)) : tWA X es σ H (fun vs H1 => cW X f vs H1 Q) := by
  refine h.run st o σ H F _ R ((PostR.bnd p).imp fun ts o1 s1 H1 F1 e1 R1 p1 vs tvs => ?_)
  obtain ⟨ds, sds, p2⟩ := rvs_see R1 tvs p1
  obtain ⟨t, ht, p3⟩ := p2.lf
  exact fun pins s σ' us I r => hc pins s σ' F1 H1 vs us ds t Q I r R1.sub sds ht fun z H' pr => let ⟨R2, tr⟩ := pr.tr R1; p3 o1 H' F1 (Ex.refl F1) R2 z tr
theorem se_callB {x : Str} {id : String} {g : List D → Option T1} (hc : CallS T X (.builtin id) g) (hg : Gl X x) (hm : X.mg x = none) (hv : bootBuiltins x = some (.builtin id)) (h : SA T X c W (e :: es) (argsM ms))
    (hn : x ≠ "__name__" := by decide) (hdb : (x == ("__debug__" : Str)) = false := by decide) (he : starEach (e :: es) X.env = (false, eval e X.env) :: starEach es X.env := by rfl) (hpl : (backTo pos (starEach es X.env)).any (·.1) = false := by rfl) :
    SE T X c W (.Call (.Name x p) (e :: es) [] pos) (callB g ms) :=
  ⟨fun st o σ H F Q R q => tW_of (pe_callB callr_cW hg hm hv pa_tW hn hdb he hpl) (callB_core hc h R q)⟩
theorem se_callTy {x : Str} {Ty : String} {g : List D → Option T1} (hc : CallS T X (.type Ty) g) (hg : Gl X x) (hm : X.mg x = none) (hv : bootBuiltins x = some (.type Ty)) (h : SA T X c W (e :: es) (argsM ms))
    (hn : x ≠ "__name__" := by decide) (hdb : (x == ("__debug__" : Str)) = false := by decide) (he : starEach (e :: es) X.env = (false, eval e X.env) :: starEach es X.env := by rfl) (hpl : (backTo pos (starEach es X.env)).any (·.1) = false := by rfl) :
    SE T X c W (.Call (.Name x p) (e :: es) [] pos) (callB g ms) :=
  ⟨fun st o σ H F Q R q => tW_of (pe_callTy callr_cW hg hm hv pa_tW hn hdb he hpl) (callB_core hc h R q)⟩
end
end Fw
end

section
set_option maxRecDepth 100000
set_option maxHeartbeats 2000000
namespace Fw
open PySem PySem.Spec PyProof.Rows L2

/-! ### statements -/
inductive Flw where
  | nx | bk | ct | rt (t : T1)
def PS1 (K : PySem.W.Frag) (T : Tb) (c : Fc) (W : WX) (F : Hp) (D : Ends) : Res Flw → Prop
  | .ok .nx st' => ∀ o' σ' H' F', Ex F F' → Rel K T c o' st' σ' H' F' → D.nx σ' H'
  | .ok .bk st' => ∀ o' σ' H' F', Ex F F' → Rel K T c o' st' σ' H' F' → D.bk σ' H'
  | .ok .ct st' => ∀ o' σ' H' F', Ex F F' → Rel K T c o' st' σ' H' F' → D.ct σ' H'
  | .ok (.rt t) st' => ∀ v o' σ' H' F', Ex F F' → Rel K T c o' st' σ' H' F' → TR K T c o' st' σ' H' F' v t → D.rt v H'
  | .exc e st' => ∀ cl dd o' σ' H' F', Ex F F' → Rel K T c o' st' σ' H' F' → XR K T H' F' e cl dd → W cl dd σ' H'
  | .no => False
def tWS (X : Cx) (py : Stmt) : TS := fun D σ H => ∀ (pins : List (Addr × Obj)) (s : Shared), Inv X pins σ H s → wpAny (model X.prog X.w) X.A (exec py X.env) (SP X pins D) X.xe s
theorem ps_tW {X : Cx} {py : Stmt} : PS X py (tWS X py) := ⟨fun pins s σ H D I h => h pins s I⟩
theorem tWS_of {X : Cx} {py : Stmt} {t : TS} {σ : L2.St} {H : Hp} {D : Ends} (p : PS X py t) (h : t D σ H) : tWS X py D σ H := fun pins s I => p.run pins s σ H D I h
def tWB (X : Cx) (py : List Stmt) : TS := fun D σ H => ∀ (pins : List (Addr × Obj)) (s : Shared), Inv X pins σ H s → wpAny (model X.prog X.w) X.A (execs py X.env) (SP X pins D) X.xe s
theorem pss_tW {X : Cx} {py : List Stmt} : PSs X py (tWB X py) := ⟨fun pins s σ H D I h => h pins s I⟩
theorem tWB_of {X : Cx} {py : List Stmt} {t : TS} {σ : L2.St} {H : Hp} {D : Ends} (p : PSs X py t) (h : t D σ H) : tWB X py D σ H := fun pins s I => p.run pins s σ H D I h
structure SS (T : Tb) (X : Cx) (c : Fc) (W : WX) (py : Stmt) (m : M Flw) : Prop where
  run : ∀ (st : Sl) (o : Nat → Addr) (σ : L2.St) (H F : Hp) (D : Ends), Rel X.K T c o st σ H F → PS1 X.K T c W F D (m st) → tWS X py D σ H
structure SB (T : Tb) (X : Cx) (c : Fc) (W : WX) (py : List Stmt) (m : M Flw) : Prop where
  run : ∀ (st : Sl) (o : Nat → Addr) (σ : L2.St) (H F : Hp) (D : Ends), Rel X.K T c o st σ H F → PS1 X.K T c W F D (m st) → tWB X py D σ H
theorem PS1.ext {K : PySem.W.Frag} {T : Tb} {c : Fc} {W : WX} {F F' : Hp} {D : Ends} {r : Res Flw} (e : Ex F F') (h : PS1 K T c W F D r) : PS1 K T c W F' D r := by
  cases r with
  | ok f st' => cases f with
    | nx => exact fun o' σ' H' F2 e2 R => h o' σ' H' F2 (e.trans e2) R
    | bk => exact fun o' σ' H' F2 e2 R => h o' σ' H' F2 (e.trans e2) R
    | ct => exact fun o' σ' H' F2 e2 R => h o' σ' H' F2 (e.trans e2) R
    | rt t => exact fun v o' σ' H' F2 e2 R => h v o' σ' H' F2 (e.trans e2) R
  | exc x st' => exact fun cl dd o' σ' H' F2 e2 R => h cl dd o' σ' H' F2 (e.trans e2) R
  | no => exact h
/-- a part of a statement -/
theorem PS1.bnd {K : PySem.W.Frag} {T : Tb} {c : Fc} {W : WX} {σ : L2.St} {F : Hp} {st : Sl} {D : Ends} {α : Type} {m : M α} {k : α → M Flw} (h : PS1 K T c W F D (M.bnd m k st)) : PostR K T c W σ F (fun a _ st' _ F' => PS1 K T c W F' D (k a st')) (m st) := by
  unfold M.bnd at h
  cases hm : m st with
  | ok a st' =>
    rw [hm] at h
    intro o' H' F' e R
    exact PS1.ext e h
  | exc x st' =>
    rw [hm] at h
    exact fun cl dd o' H' F' e R xr => h cl dd o' σ H' F' e R xr
  | no =>
    rw [hm] at h
    exact h
theorem PS1.lf {K : PySem.W.Frag} {T : Tb} {c : Fc} {W : WX} {F : Hp} {st : Sl} {D : Ends} {α : Type} {x : Option α} {k : α → M Flw} (h : PS1 K T c W F D (M.bnd (lf x) k st)) : ∃ a, x = some a ∧ PS1 K T c W F D (k a st) := by
  cases x with
  | none => exact h.elim
  | some a => exact ⟨a, rfl, h⟩

def seqM (a b : M Flw) : M Flw := fun st => match a st with
  | .ok .nx s' => b s'
  | r => r
def nxM : M Flw := M.ret .nx
section
variable {T : Tb} {X : Cx} {c : Fc} {W : WX} {pos pos' : Pos} {s : Stmt} {ss : List Stmt} {m ms : M Flw}
theorem sb_nil : SB T X c W [] nxM := ⟨fun st o σ H F D R p => tWB_of pss_nil (p o σ H F (Ex.refl F) R)⟩
theorem PS1.seq {K : PySem.W.Frag} {F : Hp} {st : Sl} {D : Ends} {N : L2.St → Hp → Prop} (h : PS1 K T c W F D (seqM m ms st)) (n : ∀ st' o' σ' H' F', Ex F F' → Rel K T c o' st' σ' H' F' → PS1 K T c W F' D (ms st') → N σ' H') : PS1 K T c W F { D with nx := N } (m st) := by
  unfold seqM at h
  cases hm : m st with
  | ok f st' =>
    rw [hm] at h
    cases f with
    | nx => exact fun o' σ' H' F' e R => n st' o' σ' H' F' e R (PS1.ext e h)
    | bk => exact h
    | ct => exact h
    | rt t => exact h
  | exc x st' =>
    rw [hm] at h
    exact h
  | no =>
    rw [hm] at h
    exact h
theorem sb_cons (h1 : SS T X c W s m) (h2 : SB T X c W ss ms) : SB T X c W (s :: ss) (seqM m ms) := by
  refine ⟨fun st o σ H F D R p => tWB_of (pss_cons ps_tW pss_tW) ?_⟩
  exact h1.run st o σ H F _ R (p.seq fun st' o' σ' H' F' e R' p' => h2.run st' o' σ' H' F' D R' p')
theorem sb_one (h1 : SS T X c W s m) : SB T X c W [s] m := ⟨fun st o σ H F D R p => tWB_of (pss_one ps_tW) (h1.run st o σ H F D R p)⟩
theorem ss_pass : SS T X c W (.Pass pos) nxM := ⟨fun st o σ H F D R p => tWS_of ps_pass (p o σ H F (Ex.refl F) R)⟩
theorem ss_break : SS T X c W (.Break pos) (M.ret .bk) := ⟨fun st o σ H F D R p => tWS_of ps_break (p o σ H F (Ex.refl F) R)⟩
theorem ss_continue : SS T X c W (.Continue pos) (M.ret .ct) := ⟨fun st o σ H F D R p => tWS_of ps_continue (p o σ H F (Ex.refl F) R)⟩
theorem ss_if {t : Expr} {a b : List Stmt} {mt : M Bool} {ma mb : M Flw} (ht : ST T X c W t mt) (ha : SB T X c W a ma) (hb : SB T X c W b mb) : SS T X c W (.If t a b pos) (ifM mt ma mb) := by
  refine ⟨fun st o σ H F D R p => tWS_of (ps_if pt_tW pss_tW pss_tW) ?_⟩
  refine ht.run st o σ H F _ R ((PS1.bnd p).imp fun x o1 s1 H1 F1 e1 R1 p1 => ?_)
  cases x with
  | true => exact ha.run s1 o1 σ H1 F1 D R1 p1
  | false => exact hb.run s1 o1 σ H1 F1 D R1 p1
def dropM (m : M T1) : M Flw := M.bnd m fun _ => M.ret .nx
theorem ss_expr {e : Expr} {me : M T1} (h : SE T X c W e me) (hs : swapsWith e none pos.line X.env = pure false := by rfl) : SS T X c W (.Expr e pos) (dropM me) := by
  refine ⟨fun st o σ H F D R p => tWS_of (ps_expr pe_tW hs) ?_⟩
  exact h.run st o σ H F _ R ((PS1.bnd p).imp fun x o1 s1 H1 F1 e1 R1 p1 v tr => p1 o1 σ H1 F1 (Ex.refl F1) R1)
theorem ss_doc {x j pos pos'} : SS T X c W (.Expr (.Constant (.str x) j pos) pos') nxM := ⟨fun st o σ H F D R p => tWS_of ps_doc (p o σ H F (Ex.refl F) R)⟩
def retM (m : M T1) : M Flw := M.bnd m fun t => M.ret (.rt t)
theorem ss_ret {e : Expr} {me : M T1} (h : SE T X c W e me) : SS T X c W (.Return (some e) pos) (retM me) := by
  refine ⟨fun st o σ H F D R p => tWS_of (ps_ret pe_tW) ?_⟩
  exact h.run st o σ H F _ R ((PS1.bnd p).imp fun x o1 s1 H1 F1 e1 R1 p1 v tr => p1 v o1 σ H1 F1 (Ex.refl F1) R1 tr)
def retN : M Flw := M.ret (.rt (.vl .non))
theorem ss_retN : SS T X c W (.Return none pos) retN := ⟨fun st o σ H F D R p => tWS_of ps_retN (p .non o σ H F (Ex.refl F) R (by show Rp _ _ _ _ _; unfold Rp; rfl))⟩

/-! stores -/
theorem Rel.setVal {K : PySem.W.Frag} {o : Nat → Addr} {st : Sl} {σ : L2.St} {H F : Hp} {i : Nat} {d : D} {v : V} {x : Slot} (R : Rel K T c o st σ H F) (hi : st[i]? = some x) (h : Rp K T F d v) : Rel K T c o (st.set i (Slot.val d)) (σ.set i (some v)) H F := by
  have hl := (List.getElem?_eq_some_iff.mp hi).1
  have hl' : i < σ.length := by rw [← R.len]; exact hl
  refine ⟨R.ex0, R.sub, R.dom, R.keep, R.new, fun j d' h' => ?_, fun j r d' h' => ?_, fun j k r r' d1 d2 h1 h2 z => ?_, by simp [R.len], fun b w hb => ?_, fun j h' => ?_⟩
  · by_cases hj : j = i
    · subst hj
      rw [List.getElem?_set_self hl] at h'
      cases h'
      exact ⟨v, List.getElem?_set_self hl', h⟩
    · rw [List.getElem?_set_ne (Ne.symm hj)] at h'
      rw [List.getElem?_set_ne (Ne.symm hj)]
      exact R.val j d' h'
  · by_cases hj : j = i
    · subst hj
      rw [List.getElem?_set_self hl] at h'
      cases h'
    · rw [List.getElem?_set_ne (Ne.symm hj)] at h'
      rw [List.getElem?_set_ne (Ne.symm hj)]
      exact R.own j r d' h'
  · by_cases hj : j = i
    · subst hj
      rw [List.getElem?_set_self hl] at h1
      cases h1
    · by_cases hk : k = i
      · subst hk
        rw [List.getElem?_set_self hl] at h2
        cases h2
      · rw [List.getElem?_set_ne (Ne.symm hj)] at h1
        rw [List.getElem?_set_ne (Ne.symm hk)] at h2
        exact R.dis j k r r' d1 d2 h1 h2 z
  · obtain ⟨k1, k2, k3, k4⟩ := R.tpk b w hb
    refine ⟨k1, k2, k3, fun j r d' h' => ?_⟩
    by_cases hj : j = i
    · subst hj
      rw [List.getElem?_set_self hl] at h'
      cases h'
    · rw [List.getElem?_set_ne (Ne.symm hj)] at h'
      exact k4 j r d' h'
  · by_cases hj : j = i
    · subst hj
      rw [List.getElem?_set_self hl] at h'
      cases h'
    · rw [List.getElem?_set_ne (Ne.symm hj)] at h' ⊢
      exact R.fix j h'
theorem Rel.setUn {K : PySem.W.Frag} {o : Nat → Addr} {st : Sl} {σ : L2.St} {H F : Hp} {i : Nat} (R : Rel K T c o st σ H F) : Rel K T c o (st.set i Slot.un) σ H F := by
  have un : ∀ j x, (st.set i Slot.un)[j]? = some x → x ≠ Slot.un → st[j]? = some x := fun j x h n => by
    by_cases hj : j = i
    · subst hj
      have hl : j < st.length := by simpa using (List.getElem?_eq_some_iff.mp h).1
      rw [List.getElem?_set_self hl] at h
      cases h
      exact absurd rfl n
    · rwa [List.getElem?_set_ne (Ne.symm hj)] at h
  exact ⟨R.ex0, R.sub, R.dom, R.keep, R.new, fun j d' h' => R.val j d' (un _ _ h' (by simp)), fun j r d' h' => R.own j r d' (un _ _ h' (by simp)), fun j k r r' d1 d2 h1 h2 z => R.dis j k r r' d1 d2 (un _ _ h1 (by simp)) (un _ _ h2 (by simp)) z, by simp [R.len], fun b w hb => let ⟨k1, k2, k3, k4⟩ := R.tpk b w hb; ⟨k1, k2, k3, fun j r d' h' => k4 j r d' (un _ _ h' (by simp))⟩, fun j h' => R.fix j (un _ _ h' (by simp))⟩
theorem Rel.setOwn {K : PySem.W.Frag} {o : Nat → Addr} {st : Sl} {σ : L2.St} {H F : Hp} {i : Nat} {d : D} {v : V} {x : Slot} (R : Rel K T c o st σ H F) (hi : st[i]? = some x) (h : TR K T c o (st.set i Slot.un) σ H F v (.fr d)) :
    ∃ o', Rel K T c o' (st.set i (Slot.own false d)) (σ.set i (some v)) H F := by
  obtain ⟨a, u, rfl, h0, hf, hh, ho, ht, hn⟩ := h
  have hl := (List.getElem?_eq_some_iff.mp hi).1
  have hl' : i < σ.length := by rw [← R.len]; exact hl
  have oth : ∀ j x, j ≠ i → (st.set i (Slot.own false d))[j]? = some x → st[j]? = some x ∧ (st.set i Slot.un)[j]? = some x := fun j x hj h => by
    rw [List.getElem?_set_ne (Ne.symm hj)] at h
    exact ⟨h, by rw [List.getElem?_set_ne (Ne.symm hj)]; exact h⟩
  refine ⟨fun k => if k = i then a else o k, R.ex0, R.sub, R.dom, R.keep, R.new, fun j d' h' => ?_, fun j r d' h' => ?_, fun j k r r' d1 d2 h1 h2 z => ?_, by simp [R.len], fun b w hb => ?_, fun j h' => ?_⟩
  · by_cases hj : j = i
    · subst hj
      rw [List.getElem?_set_self hl] at h'
      cases h'
    · rw [List.getElem?_set_ne (Ne.symm hj)]
      exact R.val j d' (oth j _ hj h').1
  · by_cases hj : j = i
    · subst hj
      rw [List.getElem?_set_self hl] at h'
      cases h'
      simp only [if_true]
      exact ⟨List.getElem?_set_self hl', hf, ⟨u, hh, ho⟩, by simpa using h0⟩
    · simp only [if_neg hj]
      rw [List.getElem?_set_ne (Ne.symm hj)]
      exact R.own j r d' (oth j _ hj h').1
  · by_cases hj : j = i
    · by_cases hk : k = i
      · rw [hj, hk]
      · simp only [if_pos hj, if_neg hk] at z
        exact absurd z.symm (hn k r' d2 (oth k _ hk h2).2)
    · by_cases hk : k = i
      · simp only [if_neg hj, if_pos hk] at z
        exact absurd z (hn j r d1 (oth j _ hj h1).2)
      · simp only [if_neg hj, if_neg hk] at z
        exact R.dis j k r r' d1 d2 (oth j _ hj h1).1 (oth k _ hk h2).1 z
  · obtain ⟨k1, k2, k3, k4⟩ := R.tpk b w hb
    refine ⟨k1, k2, k3, fun j r d' h' => ?_⟩
    by_cases hj : j = i
    · simp only [if_pos hj]
      intro z
      rw [z, hb] at ht
      cases ht
    · simp only [if_neg hj]
      exact k4 j r d' (oth j _ hj h').1
  · by_cases hj : j = i
    · subst hj
      rw [List.getElem?_set_self hl] at h'
      cases h'
    · rw [List.getElem?_set_ne (Ne.symm hj)] at h' ⊢
      exact R.fix j h'
/-- x = t -/
def sto1 (i : Nat) (st : Sl) : T1 → Res Flw
  | .vl d => .ok .nx (st.set i (Slot.val d))
  | .fr (.tup ds) => .ok .nx (st.set i (Slot.val (.tup ds)))
  | .fr d => .ok .nx (st.set i (Slot.own false d))
  | .pk _ => .no
def stoM (i : Nat) (t : T1) : M Flw := fun st => match st[i]? with
  | none => .no
  | some (Slot.own true _) => .no
  | some _ => sto1 i st t
def setM (i : Nat) (m : M T1) : M Flw := M.bnd m (stoM i)
theorem sto_ok {K : PySem.W.Frag} {o : Nat → Addr} {st : Sl} {σ : L2.St} {H F : Hp} {i : Nat} {v : V} {t : T1} {D : Ends} (R : Rel K T c o st σ H F) (tr : TR K T c o st σ H F v t) (p : PS1 K T c W F D (stoM i t st)) : D.nx (σ.set i (some v)) H := by
  unfold stoM at p
  cases e : st[i]? with
  | none => rw [e] at p; exact p.elim
  | some x =>
    rw [e] at p
    have key : PS1 K T c W F D (sto1 i st t) := by
      cases x with
      | un => exact p
      | fix => exact p
      | val d => exact p
      | own r d =>
        cases r with
        | true => exact p.elim
        | false => exact p
    cases t with
    | vl d => exact key o _ H F (Ex.refl F) (R.setVal e tr)
    | pk j => exact key.elim
    | fr d =>
      have tr' : TR K T c o (st.set i Slot.un) σ H F v (.fr d) := by
        obtain ⟨a, u, h1, h2, h3, h4, h5, ht, h6⟩ := tr
        refine ⟨a, u, h1, h2, h3, h4, h5, ht, fun j r d' h => ?_⟩
        by_cases hj : j = i
        · subst hj
          have hl := (List.getElem?_eq_some_iff.mp e).1
          rw [List.getElem?_set_self hl] at h
          cases h
        · rw [List.getElem?_set_ne (Ne.symm hj)] at h
          exact h6 j r d' h
      obtain ⟨o', R'⟩ := R.setOwn e tr'
      cases d with
      | tup ds =>
        obtain ⟨F2, e2, R2, tr2⟩ := R.fz tr
        exact key o _ H F2 e2 (R2.setVal e tr2)
      | _ => exact key o' _ H F (Ex.refl F) R'
theorem ss_set {i : Nat} {x : Str} {e : Expr} {me : M T1} (h : SE T X c W e me) (hN : X.N.Nodup) (hi : X.N[i]? = some x) (hx : Loc X.env.scope x) (hs : swapsWith e (some (.Name x pos')) pos.line X.env = pure false := by rfl) (hf : X.fn x = true ∨ X.env.scope.names.lookup x = some .local := by first | exact .inl rfl | exact .inr rfl | assumption) :
    SS T X c W (.Assign [.Name x pos'] e pos) (setM i me) := by
  refine ⟨fun st o σ H F D R p => tWS_of (ps_set hN hi hx pe_tW hs hf) ?_⟩
  exact h.run st o σ H F _ R ((PS1.bnd p).imp fun t o1 s1 H1 F1 e1 R1 p1 v tr => sto_ok R1 tr p1)
/-- the object of a slot is handed on -/
def mov (i : Nat) : M T1 := fun st => match st[i]? with
  | some (Slot.own false d) => .ok (.fr d) (st.set i Slot.un)
  | some (Slot.val d) => .ok (.vl d) st
  | _ => .no
theorem se_mov {i : Nat} {py : Expr} (h : PE X py (tVar i)) : SE T X c W py (mov i) := by
  refine ⟨fun st o σ H F Q R p => tW_of h ?_⟩
  unfold mov at p
  cases e : st[i]? with
  | none => rw [e] at p; exact p.elim
  | some x =>
    rw [e] at p
    cases x with
    | un => exact p.elim
    | fix => exact p.elim
    | val d =>
      obtain ⟨v, h1, h2⟩ := R.val i d e
      exact ⟨v, h1, p o H F (Ex.refl F) R v h2⟩
    | own r d =>
      cases r with
      | true => exact p.elim
      | false =>
        obtain ⟨h1, h2, ⟨u, h3, h4⟩, h5⟩ := R.own i false d e
        have ht : c.tp (o i) = none := by
          cases et : c.tp (o i) with
          | none => rfl
          | some w => exact absurd rfl ((R.tpk _ w et).2.2.2 i false d e)
        refine ⟨_, h1, p o H F (Ex.refl F) R.setUn _ ⟨o i, u, rfl, by simpa using h5, h2, h3, h4, ht, fun j r d' h => ?_⟩⟩
        by_cases hj : j = i
        · subst hj
          have hl := (List.getElem?_eq_some_iff.mp e).1
          rw [List.getElem?_set_self hl] at h
          cases h
        · rw [List.getElem?_set_ne (Ne.symm hj)] at h
          exact fun z => hj (R.dis j i r false d' d h e z)
/-- the object of a slot is changed -/
theorem Rel.mut {K : PySem.W.Frag} {o : Nat → Addr} {st : Sl} {σ : L2.St} {H F : Hp} {i : Nat} {r : Bool} {d d' : D} {u' : HO} (R : Rel K T c o st σ H F) (e : st[i]? = some (Slot.own r d)) (h : Ob K T F d' u') : Rel K T c o (st.set i (Slot.own r d')) σ (upd H (o i) u') F := by
  obtain ⟨g1, g2, ⟨u, g3, g4⟩, g5⟩ := R.own i r d e
  have hl := (List.getElem?_eq_some_iff.mp e).1
  have oth : ∀ j x, j ≠ i → (st.set i (Slot.own r d'))[j]? = some x → st[j]? = some x := fun j x hj h => by
    rwa [List.getElem?_set_ne (Ne.symm hj)] at h
  refine ⟨R.ex0, fun b w hb => ?_, fun a w ha => ?_, fun a w ha n => ?_, R.new, fun j d1 h' => ?_, fun j r1 d1 h' => ?_, fun j k r1 r2 d1 d2 h1 h2 z => ?_, by simp [R.len], fun b w hb => ?_, fun j h' => ?_⟩
  · have nb : b ≠ o i := fun z => by rw [z, g2] at hb; cases hb
    rw [upd_ne nb]
    exact R.sub b w hb
  · by_cases hb : a = o i
    · rw [hb, upd_same]
      exact ⟨_, rfl⟩
    · rw [upd_ne hb]
      exact R.dom a w ha
  · have na : a ≠ o i := fun z => by
      cases r with
      | true => exact n i (by rw [z]; simpa using g5)
      | false =>
        have g6 : c.H0 (o i) = none := by simpa using g5
        rw [z, g6] at ha
        cases ha
    rw [upd_ne na]
    exact R.keep a w ha n
  · by_cases hj : j = i
    · subst hj
      rw [List.getElem?_set_self hl] at h'
      cases h'
    · exact R.val j d1 (oth j _ hj h')
  · by_cases hj : j = i
    · subst hj
      rw [List.getElem?_set_self hl] at h'
      cases h'
      exact ⟨g1, g2, ⟨u', upd_same, h⟩, g5⟩
    · have h2 := oth j _ hj h'
      obtain ⟨k1, k2, ⟨w, k3, k4⟩, k5⟩ := R.own j r1 d1 h2
      exact ⟨k1, k2, ⟨w, by rw [upd_ne (fun z => hj (R.dis j i r1 r d1 d h2 e z))]; exact k3, k4⟩, k5⟩
  · have back : ∀ j r1 d1, (st.set i (Slot.own r d'))[j]? = some (Slot.own r1 d1) → ∃ r2 d2, st[j]? = some (Slot.own r2 d2) := fun j r1 d1 h' => by
      by_cases hj : j = i
      · exact ⟨r, d, by rw [hj]; exact e⟩
      · exact ⟨r1, d1, oth j _ hj h'⟩
    obtain ⟨_, _, b1⟩ := back j r1 d1 h1
    obtain ⟨_, _, b2⟩ := back k r2 d2 h2
    exact R.dis j k _ _ _ _ b1 b2 z
  · obtain ⟨k1, k2, k3, k4⟩ := R.tpk b w hb
    refine ⟨by rw [upd_ne (fun z => k4 i r d e z.symm)]; exact k1, k2, k3, fun j r1 d1 h' => ?_⟩
    by_cases hj : j = i
    · rw [hj]; exact k4 i r d e
    · exact k4 j r1 d1 (oth j _ hj h')
  · by_cases hj : j = i
    · subst hj
      rw [List.getElem?_set_self hl] at h'
      cases h'
    · exact R.fix j (oth j _ hj h')
end
end Fw
end

section
set_option maxRecDepth 100000
set_option maxHeartbeats 2000000
namespace Fw
open PySem PySem.Spec PyProof.Rows L2

/-! ### defs -/
/-- what a def gives: new or frozen, the data, what the handed-in objects hold now -/
inductive FR where
  | ok (fr : Bool) (d : D) (outs : List D) | exc (e : Exn) (outs : List D) | no
/-- how the arguments stand: frozen, or an object that is handed in to be changed -/
structure ArgR (K : PySem.W.Frag) (T : Tb) (F H : Hp) (bs : List Bool) (vs : List V) (ds : List D) : Prop where
  l1 : vs.length = bs.length
  l2 : ds.length = bs.length
  at_ : ∀ (i : Nat) b v d, bs[i]? = some b → vs[i]? = some v → ds[i]? = some d → if b = true then ∃ a u, v = .ref a ∧ F a = none ∧ H a = some u ∧ Ob K T F d u else Rp K T F d v
def RefIn (bs : List Bool) (vs : List V) (i : Nat) (a : Addr) : Prop := bs[i]? = some true ∧ vs[i]? = some (.ref a)
def OutP (P : Addr → D → Prop) : List Bool → List V → List D → Prop
  | [], _, outs => outs = []
  | false :: bs, vs, outs => OutP P bs vs.tail outs
  | true :: bs, vs, outs => ∃ a d outs', vs.head? = some (.ref a) ∧ outs = d :: outs' ∧ P a d ∧ OutP P bs vs.tail outs'
abbrev OutR (K : PySem.W.Frag) (T : Tb) (F' H' : Hp) : List Bool → List V → List D → Prop := OutP fun a d => F' a = none ∧ ∃ u, H' a = some u ∧ Ob K T F' d u
structure Grow (F H F' H' : Hp) (rs : Nat → Addr → Prop) : Prop where
  exF : Ex F F'
  sub : Ex F' H'
  keep : ∀ a u, H a = some u → (∀ i, ¬ rs i a) → H' a = some u
  dom : ∀ a u, H a = some u → ∃ u', H' a = some u'
  new : ∀ b u, F' b = some u → H b = none ∨ ∃ u', F b = some u'
def RetR (K : PySem.W.Frag) (T : Tb) (H F' H' : Hp) (fr : Bool) (d : D) (v : V) : Prop :=
  if fr = true then ∃ a u, v = .ref a ∧ H a = none ∧ F' a = none ∧ H' a = some u ∧ Ob K T F' d u else Rp K T F' d v
def FPost (K : PySem.W.Frag) (T : Tb) (F H : Hp) (bs : List Bool) (vs : List V) (Q : VK) (E : XK) : FR → Prop
  | .ok fr d outs => ∀ v F' H', Grow F H F' H' (RefIn bs vs) → OutR K T F' H' bs vs outs → RetR K T H F' H' fr d v → Q v H'
  | .exc e outs => ∀ cl dd F' H', Grow F H F' H' (RefIn bs vs) → OutR K T F' H' bs vs outs → XR K T H' F' e cl dd → E cl dd H'
  | .no => False
def spF (K : PySem.W.Frag) (T : Tb) (bs : List Bool) (g : List D → FR) : Sp := fun vs H Q E => ∃ F ds, Ex F H ∧ ArgR K T F H bs vs ds ∧ (∀ i j a, RefIn bs vs i a → RefIn bs vs j a → i = j) ∧ FPost K T F H bs vs Q E (g ds)

def initS : List Bool → List D → Sl
  | b :: bs, d :: ds => (if b = true then Slot.own true d else Slot.val d) :: initS bs ds
  | _, _ => []
theorem initS_at : ∀ {bs : List Bool} {ds : List D} {i : Nat} {x : Slot}, (initS bs ds)[i]? = some x → ∃ b d, bs[i]? = some b ∧ ds[i]? = some d ∧ x = if b = true then Slot.own true d else Slot.val d
  | b :: bs, d :: ds, 0, x, h => by
    simp [initS] at h
    exact ⟨b, d, rfl, rfl, h.symm⟩
  | b :: bs, d :: ds, i + 1, x, h => by
    simp [initS] at h
    simpa using initS_at h
  | [], _, i, x, h => by simp [initS] at h
  | _ :: _, [], i, x, h => by simp [initS] at h
theorem initS_len : ∀ {bs : List Bool} {ds : List D}, ds.length = bs.length → (initS bs ds).length = ds.length
  | [], [], _ => rfl
  | b :: bs, d :: ds, h => by simp [initS, initS_len (bs := bs) (ds := ds) (by simpa using h)]
  | [], _ :: _, h => by simp at h
  | _ :: _, [], h => by simp at h
def outsO : List Bool → Sl → Option (List D)
  | [], _ => some []
  | false :: bs, st => outsO bs st.tail
  | true :: bs, Slot.own true d :: st => (outsO bs st).map (d :: ·)
  | true :: _, _ => none
theorem outP_of {P : Addr → D → Prop} : ∀ {bs : List Bool} {vs : List V} {st : Sl} {outs : List D}, vs.length = bs.length → (∀ (i : Nat) d, bs[i]? = some true → st[i]? = some (Slot.own true d) → ∃ a, vs[i]? = some (.ref a) ∧ P a d) → outsO bs st = some outs → OutP P bs vs outs
  | [], vs, st, outs, _, _, h => by
    simp [outsO] at h
    unfold OutP
    exact h
  | false :: bs, v :: vs, st, outs, hl, h, e => by
    refine outP_of (bs := bs) (vs := vs) (st := st.tail) (by simpa using hl) (fun i d hb hs => ?_) e
    have := h (i + 1) d (by simpa using hb) (by cases st <;> simpa using hs)
    simpa using this
  | true :: bs, v :: vs, st, outs, hl, h, e => by
    cases st with
    | nil => simp [outsO] at e
    | cons x st =>
      cases x with
      | un => simp [outsO] at e
      | fix => simp [outsO] at e
      | val d => simp [outsO] at e
      | own r d =>
        cases r with
        | false => simp [outsO] at e
        | true =>
          simp only [outsO] at e
          cases e1 : outsO bs st with
          | none => rw [e1] at e; simp at e
          | some os =>
            rw [e1] at e
            simp at e
            obtain ⟨a, ha, hp⟩ := h 0 d rfl rfl
            refine ⟨a, d, os, by simpa using ha, e.symm, hp, outP_of (bs := bs) (vs := vs) (st := st) (by simpa using hl) (fun i d' hb hs => ?_) e1⟩
            have := h (i + 1) d' (by simpa using hb) (by simpa using hs)
            simpa using this
  | false :: bs, [], st, outs, hl, h, e => by simp at hl
  | true :: bs, [], st, outs, hl, h, e => by simp at hl
def finF (bs : List Bool) : Res Flw → FR
  | .ok (.rt (.vl d)) st => match outsO bs st with
    | some outs => .ok false d outs
    | none => .no
  | .ok (.rt (.fr d)) st => match outsO bs st with
    | some outs => .ok true d outs
    | none => .no
  | .ok .nx st => match outsO bs st with
    | some outs => .ok false .non outs
    | none => .no
  | .exc e st => match outsO bs st with
    | some outs => .exc e outs
    | none => .no
  | _ => .no
/-- the def with n slots, bs its first ones, and the body m -/
def fnOf (bs : List Bool) (n : Nat) (m : M Flw) (ds : List D) : FR := if ds.length = bs.length then finF bs (m (initS bs ds ++ List.replicate (n - bs.length) Slot.un)) else .no
def addrOf : Option V → Addr
  | some (.ref a) => a
  | _ => default
theorem getElem?_app_rep {α : Type} {l : List α} {n : Nat} {x : α} {i : Nat} {y : α} (h : (l ++ List.replicate n x)[i]? = some y) : l[i]? = some y ∨ y = x := by
  rw [List.getElem?_append] at h
  split at h
  · exact .inl h
  · rw [List.getElem?_replicate] at h
    split at h
    · exact .inr (Option.some.inj h).symm
    · cases h
theorem relInit {K : PySem.W.Frag} {T : Tb} {F H : Hp} {bs : List Bool} {vs : List V} {ds : List D} {N : List Str} (sub : Ex F H) (A : ArgR K T F H bs vs ds) (dj : ∀ i j a, RefIn bs vs i a → RefIn bs vs j a → i = j) (hn : bs.length ≤ N.length) :
    Rel K T ⟨H, F, RefIn bs vs, fun _ => none, fun _ => none⟩ (fun i => addrOf vs[i]?) (initS bs ds ++ List.replicate (N.length - bs.length) Slot.un) (L2.start N vs) H F := by
  have own : ∀ (i : Nat) r d, (initS bs ds ++ List.replicate (N.length - bs.length) Slot.un)[i]? = some (Slot.own r d) → r = true ∧ bs[i]? = some true ∧ ds[i]? = some d ∧ ∃ a u, vs[i]? = some (.ref a) ∧ F a = none ∧ H a = some u ∧ Ob K T F d u := fun i r d h => by
    rcases getElem?_app_rep h with h | h
    · obtain ⟨b, d', h1, h2, h3⟩ := initS_at h
      cases b with
      | false => simp at h3
      | true =>
        simp at h3
        obtain ⟨h3, h4⟩ := h3
        subst h3 h4
        have hi : i < vs.length := by rw [A.l1]; exact (List.getElem?_eq_some_iff.mp h1).1
        have := A.at_ i true vs[i] d h1 (List.getElem?_eq_getElem hi) h2
        obtain ⟨a, u, e1, e2, e3, e4⟩ := (show ∃ a u, vs[i] = .ref a ∧ F a = none ∧ H a = some u ∧ Ob K T F d u by simpa using this)
        exact ⟨rfl, h1, h2, a, u, by rw [List.getElem?_eq_getElem hi, e1], e2, e3, e4⟩
    · cases h
  have stt : ∀ {i : Nat} {v : V}, vs[i]? = some v → (L2.start N vs)[i]? = some (some v) := fun {i v} h => by
    unfold L2.start
    have hi : i < (vs.map some).length := by rw [List.length_map]; exact (List.getElem?_eq_some_iff.mp h).1
    rw [List.getElem?_append_left hi, List.getElem?_map, h]
    rfl
  refine ⟨Ex.refl F, sub, fun a u h => ⟨u, h⟩, fun a u h _ => h, fun b u h => .inr ⟨u, h⟩, fun i d h => ?_, fun i r d h => ?_, fun i j r r' d d' h h' z => ?_, ?_, fun a u h => (by cases h), fun i h => ?_⟩
  · rcases getElem?_app_rep h with h | h
    · obtain ⟨b, d', h1, h2, h3⟩ := initS_at h
      cases b with
      | true => simp at h3
      | false =>
        simp at h3
        subst h3
        have hi : i < vs.length := by rw [A.l1]; exact (List.getElem?_eq_some_iff.mp h1).1
        have := A.at_ i false vs[i] d h1 (List.getElem?_eq_getElem hi) h2
        exact ⟨vs[i], stt (List.getElem?_eq_getElem hi), by simpa using this⟩
    · cases h
  · obtain ⟨rfl, h1, h2, a, u, e1, e2, e3, e4⟩ := own i r d h
    have ea : addrOf vs[i]? = a := by rw [e1]; rfl
    refine ⟨?_, ?_, ⟨u, ?_, e4⟩, ?_⟩
    · rw [ea]; exact stt e1
    · rw [ea]; exact e2
    · rw [ea]; exact e3
    · rw [ea, if_pos rfl]; exact (⟨h1, e1⟩ : RefIn bs vs i a)
  · obtain ⟨_, h1, _, a, u, e1, _⟩ := own i r d h
    obtain ⟨_, h1', _, a', u', e1', _⟩ := own j r' d' h'
    have ea : addrOf vs[i]? = a := by rw [e1]; rfl
    have ea' : addrOf vs[j]? = a' := by rw [e1']; rfl
    have z : a = a' := by rw [← ea, ← ea']; exact z
    subst z
    exact dj i j a ⟨h1, e1⟩ ⟨h1', e1'⟩
  · unfold L2.start
    have := initS_len A.l2
    simp [this, A.l1, A.l2]
  · rcases getElem?_app_rep h with h | h
    · obtain ⟨b, d', h1, h2, h3⟩ := initS_at h
      cases b <;> simp at h3
    · cases h
/-- a def's promise, where (gd) no repr of a container is under way around it -/
structure FnG (gd : Bool) (P : Program) (w : World) (K : PySem.W.Frag) (mg : Str → Option Value) (base : Heap) (CX : CXT) (k : Nat) (f : Addr) (fd : FuncData) (ps : List Str) (sp : Sp) : Prop where
  len : ∀ vs H Q E, sp vs H Q E → vs.length = ps.length
  run : ∀ (A : Around) (outer : List Env) (s : Shared) (H : Hp) (args : Args) (us : List Value) (vs : List V) (Q : VK) (E : XK), (gd = true → A.guards = some []) → Room k A → Env0 P w K mg base A outer s H → BindsTo s fd args (ps.zip us) → Vals vs us → sp vs H Q E →
    codeAny (model P w) A (.call (.ref f) args) (CR CX outer P w H s Q E) s
theorem FnG.mono {gd : Bool} {P : Program} {w : World} {K : PySem.W.Frag} {mg : Str → Option Value} {base : Heap} {CX : CXT} {j k : Nat} {f : Addr} {fd : FuncData} {ps : List Str} {sp : Sp} (F : FnG gd P w K mg base CX j f fd ps sp) (h : j ≤ k) : FnG gd P w K mg base CX k f fd ps sp :=
  ⟨F.len, fun A outer s H args us vs Q E hd hr => F.run A outer s H args us vs Q E hd (hr.mono h)⟩
theorem FnG.of {gd : Bool} {P : Program} {w : World} {K : PySem.W.Frag} {mg : Str → Option Value} {base : Heap} {CX : CXT} {k : Nat} {f : Addr} {fd : FuncData} {ps : List Str} {sp : Sp} (F : FnOk P w K mg base CX k f fd ps sp) : FnG gd P w K mg base CX k f fd ps sp :=
  ⟨F.len, fun A outer s H args us vs Q E _ hr => F.run A outer s H args us vs Q E hr⟩
/-- a def as it stands behind the top -/
structure Df (K : PySem.W.Frag) (x qual : Str) (st : Stmt) (f : Addr) (fd : FuncData) : Prop where
  ex : ∃ (oc : Value) (od : Option Addr) (dV kV doc pm : Value) (an : Option Addr) (cdv ct : Value) (osl : Array (Option Value)),
    fd = PySem.W.fnOf x qual (defArgs st) (defBody st) (defScope st) dV kV doc pm an cdv ct ∧ K.lookup f = some ⟨oc, od, .func fd, osl⟩ ∧ PySem.W.codeIn K cdv qual = true
theorem okG {gd : Bool} {P : Program} {w : World} {K : PySem.W.Frag} {mg : Str → Option Value} {base : Heap} {x qual : Str} {st : Stmt} {f : Addr} {fd : FuncData} {N ps : List Str} {k : Nat} {sp : Sp} (F : Df K x qual st f fd) (S : FnScope N ps (defScope st)) (len : ∀ vs H Q E, sp vs H Q E → vs.length = ps.length)
    (hbody : ∀ (cdv : Value) (A : Around) (outer : List Env) (s : Shared) (H : Hp) (vs : List V) (Q : VK) (E : XK), (gd = true → A.guards = some []) → Room k (A.deeper (envOfC qual (defScope st) s.heap.objs.size f cdv)) → sp vs H Q E →
      ∃ t, PSs (cxOf (L2.CX P w) P w K mg base N qual (defScope st) f cdv A outer s H E) (defBody st) t ∧ t { nx := fun _ H' => Q .non H', rt := Q } (L2.start N vs) H) : FnG gd P w K mg base (L2.CX P w) (k + 1) f fd ps sp := by
  obtain ⟨oc, od, dV, kV, doc, pm, an, cdv, ct, osl, rfl, lk, hcd⟩ := F.ex
  refine ⟨len, fun A outer s H args us vs Q E hgd hr e0 hb r hsp => ?_⟩
  have KX : K.In s.heap := e0.mod.kin.keeps fun b o e => (e0.bs b o e).1
  have lim : s.heap.NoLimit := e0.mod.nolimit.keeps fun b o e => (e0.bs b o e).1
  refine codeAny_call_function hr.depth (KX _ _ lk) rfl S.co S.gen rfl (PySem.W.codeRec_of KX hcd) (hb _ _ _ _ (wpAny_newFunctionEnv_cells S.kind (fun ⟨n, v⟩ hy => ?_) fun env he s1 x => ?_))
  · exact (S.par n (List.of_mem_zip hy).1).elim .inl fun q => .inr ⟨q, PySem.W.cellsFrom_some _ _ _ (.inl q)⟩
  · subst he
    obtain ⟨t, ht, hq⟩ := hbody cdv A outer s H vs Q E hgd (hr.deeper _) hsp
    have I : Inv (cxOf (L2.CX P w) P w K mg base N qual (defScope st) f cdv A outer s H E) [] (L2.start N vs) H s1 := inv_start S hr.hd e0 (len _ _ _ _ hsp) r x
    refine ⟨lim.keeps x.toInCall.keep, codeAny_func (wpAny_mono (ht.run [] s1 _ H _ I hq) (fun fl s' hs => ?_) fun e s' hs => hs)⟩
    cases fl with
    | ret u => exact let ⟨v, _, H', J, rv, q⟩ := hs; ⟨v, H', J.os, J.bare, J.base, J.hok, rv, q⟩
    | next => exact let ⟨_, H', J, q⟩ := hs; ⟨.non, H', J.os, J.bare, J.base, J.hok, rfl, q⟩
    | brk => exact let ⟨_, _, _, q⟩ := hs; False.elim q
    | cont => exact let ⟨_, _, _, q⟩ := hs; False.elim q
/-- THE RULE for a def -/
theorem fn_ok {gd : Bool} {P : Program} {w : World} {K : PySem.W.Frag} {mg : Str → Option Value} {base : Heap} {T : Tb} {x qual : Str} {st : Stmt} {f : Addr} {fd : FuncData} {N ps : List Str} {k : Nat} {bs : List Bool} {m : List D → M Flw} {g : List D → FR}
    (Fn : Df K x qual st f fd) (S : FnScope N ps (defScope st)) (hl : bs.length = ps.length) (hg : ∀ ds, g ds = fnOf bs N.length (m ds) ds ∨ g ds = .no)
    (hbody : ∀ (ds : List D) (cdv : Value) (A : Around) (outer : List Env) (s : Shared) (H F : Hp) (vs : List V) (E : XK), (gd = true → A.guards = some []) → Room k (A.deeper (envOfC qual (defScope st) s.heap.objs.size f cdv)) →
      Takes (cxOf (L2.CX P w) P w K mg base N qual (defScope st) f cdv A outer s H E) (fun cl dd _ H' => E cl dd H') →
      SB T (cxOf (L2.CX P w) P w K mg base N qual (defScope st) f cdv A outer s H E) ⟨H, F, RefIn bs vs, fun _ => none, fun _ => none⟩ (fun cl dd _ H' => E cl dd H') (defBody st) (m ds)) :
    FnG gd P w K mg base (L2.CX P w) (k + 1) f fd ps (spF K T bs g) := by
  have hpl : ps.length ≤ N.length := by have := congrArg List.length S.pre; rw [List.length_take] at this; omega
  refine okG Fn S (fun vs H Q E h => ?_) (fun cdv A outer s H vs Q E hgd hr h => ?_)
  · obtain ⟨F, ds, _, A, _⟩ := h
    rw [A.l1, hl]
  · obtain ⟨F, ds, sub, AR, dj, post⟩ := h
    have tk : Takes (cxOf (L2.CX P w) P w K mg base N qual (defScope st) f cdv A outer s H E) (fun cl dd _ H' => E cl dd H') := takes_of rfl rfl rfl rfl
    have R := relInit (N := N) sub AR dj (by omega)
    refine ⟨_, pss_tW, (hbody ds cdv A outer s H F vs E hgd hr tk).run _ _ _ H F _ R ?_⟩
    rcases hg ds with hg | hg
    · rw [hg] at post
      unfold fnOf at post
      rw [if_pos AR.l2] at post
      have outs_ok : ∀ {o' st' σ' H' F'} {outs : List D}, Rel K T ⟨H, F, RefIn bs vs, fun _ => none, fun _ => none⟩ o' st' σ' H' F' → outsO bs st' = some outs → OutR K T F' H' bs vs outs := fun {o' st' σ' H' F' outs} R' e =>
        outP_of AR.l1 (fun i d hb hs => by
          obtain ⟨_, g2, ⟨u, g3, g4⟩, g5⟩ := R'.own i true d hs
          have g5 : RefIn bs vs i (o' i) := by simpa using g5
          exact ⟨o' i, g5.2, g2, u, g3, g4⟩) e
      have grow : ∀ {o' st' σ' H' F'}, Rel K T ⟨H, F, RefIn bs vs, fun _ => none, fun _ => none⟩ o' st' σ' H' F' → Grow F H F' H' (RefIn bs vs) := fun {o' st' σ' H' F'} R' => ⟨R'.ex0, R'.sub, R'.keep, R'.dom, R'.new⟩
      cases hm : m ds (initS bs ds ++ List.replicate (N.length - bs.length) Slot.un) with
      | no => rw [hm] at post; exact post
      | exc e st' =>
        rw [hm] at post
        unfold finF at post
        simp only at post
        cases eo : outsO bs st' with
        | none => rw [eo] at post; exact post.elim
        | some outs =>
          rw [eo] at post
          exact fun cl dd o' σ' H' F' ex R' xr => post cl dd F' H' (grow R') (outs_ok R' eo) xr
      | ok f st' =>
        rw [hm] at post
        unfold finF at post
        cases f with
        | nx =>
          simp only at post
          cases eo : outsO bs st' with
          | none => rw [eo] at post; exact post.elim
          | some outs =>
            rw [eo] at post
            exact fun o' σ' H' F' ex R' => post .non F' H' (grow R') (outs_ok R' eo) (by unfold RetR; simp [Rp])
        | bk => exact post.elim
        | ct => exact post.elim
        | rt t =>
          cases t with
          | pk i => exact post.elim
          | vl d =>
            simp only at post
            cases eo : outsO bs st' with
            | none => rw [eo] at post; exact post.elim
            | some outs =>
              rw [eo] at post
              exact fun v o' σ' H' F' ex R' tr => post v F' H' (grow R') (outs_ok R' eo) (by unfold RetR; rw [if_neg (by decide)]; exact tr)
          | fr d =>
            simp only at post
            cases eo : outsO bs st' with
            | none => rw [eo] at post; exact post.elim
            | some outs =>
              rw [eo] at post
              refine fun v o' σ' H' F' ex R' tr => post v F' H' (grow R') (outs_ok R' eo) ?_
              obtain ⟨a, u, h1, h2, h3, h4, h5, _, _⟩ := tr
              unfold RetR
              simpa using ⟨a, h1, h2, h3, u, h4, h5⟩
    · rw [hg] at post
      exact post.elim

/-! calls -/
def resO : List Bool → List T1 → Sl → Option (List D)
  | [], [], _ => some []
  | false :: bs, .vl d :: ts, st => (resO bs ts st).map (d :: ·)
  | true :: bs, .pk i :: ts, st => match st[i]? with
    | some (Slot.own _ d) => (resO bs ts st).map (d :: ·)
    | _ => none
  | _, _, _ => none
def pks : List Bool → List T1 → List Nat
  | true :: bs, .pk i :: ts => i :: pks bs ts
  | _ :: bs, _ :: ts => pks bs ts
  | _, _ => []
def setO (st : Sl) (i : Nat) (d : D) : Sl := match st[i]? with
  | some (Slot.own r _) => st.set i (Slot.own r d)
  | _ => st
def putB : List Nat → List D → Sl → Sl
  | i :: is, d :: outs, st => putB is outs (setO st i d)
  | [], _, st => st
  | _ :: _, [], st => st
def callT (bs : List Bool) (g : List D → FR) (ts : List T1) : M T1 := fun st => match resO bs ts st with
  | none => .no
  | some ds => if (pks bs ts).Nodup then match g ds with
    | .ok true d outs => .ok (.fr d) (putB (pks bs ts) outs st)
    | .ok false d outs => .ok (.vl d) (putB (pks bs ts) outs st)
    | .exc e outs => .exc e (putB (pks bs ts) outs st)
    | .no => .no
    else .no
def callM (bs : List Bool) (g : List D → FR) (ms : List (M T1)) : M T1 := M.bnd (argsM ms) (callT bs g)
theorem setO_at {st : Sl} {i j : Nat} {d : D} {x : Slot} (h : (setO st i d)[j]? = some x) : st[j]? = some x ∧ j ≠ i ∨ (∃ r d0, j = i ∧ st[j]? = some (Slot.own r d0) ∧ x = Slot.own r d) ∨ (st[j]? = some x ∧ ∀ r d0, x ≠ Slot.own r d0) := by
  unfold setO at h
  split at h
  · rename_i r d0 e
    by_cases hj : j = i
    · subst hj
      have hl := (List.getElem?_eq_some_iff.mp e).1
      rw [List.getElem?_set_self hl] at h
      exact .inr (.inl ⟨r, d0, rfl, e, (Option.some.inj h).symm⟩)
    · rw [List.getElem?_set_ne (Ne.symm hj)] at h
      exact .inl ⟨h, hj⟩
  · rename_i hno
    by_cases hj : j = i
    · subst hj
      exact .inr (.inr ⟨h, fun r d0 z => hno r d0 (by rw [h, z])⟩)
    · exact .inl ⟨h, hj⟩
theorem setO_len {st : Sl} {i : Nat} {d : D} : (setO st i d).length = st.length := by
  unfold setO
  split <;> simp
theorem putB_len : ∀ {is : List Nat} {outs : List D} {st : Sl}, (putB is outs st).length = st.length
  | i :: is, d :: outs, st => by rw [putB, putB_len, setO_len]
  | [], _, st => by cases st <;> rfl
  | _ :: _, [], st => rfl
theorem putB_at : ∀ {is : List Nat} {outs : List D} {st : Sl} {j : Nat} {x : Slot}, is.length = outs.length → is.Nodup → (∀ i ∈ is, ∃ r d, st[i]? = some (Slot.own r d)) → (putB is outs st)[j]? = some x →
    (st[j]? = some x ∧ j ∉ is) ∨ ∃ (p : Nat) (r : Bool) (d0 d : D), is[p]? = some j ∧ outs[p]? = some d ∧ st[j]? = some (Slot.own r d0) ∧ x = Slot.own r d
  | [], [], st, j, x, _, _, _, h => .inl ⟨h, by simp⟩
  | i :: is, d :: outs, st, j, x, hl, hn, ho, h => by
    rw [putB] at h
    obtain ⟨n1, n2⟩ := List.nodup_cons.mp hn
    have ho' : ∀ i' ∈ is, ∃ r d', (setO st i d)[i']? = some (Slot.own r d') := fun i' hi' => by
      obtain ⟨r, d', e⟩ := ho i' (List.mem_cons_of_mem _ hi')
      obtain ⟨r0, d0, e0⟩ := ho i List.mem_cons_self
      refine ⟨r, d', ?_⟩
      unfold setO
      rw [e0]
      simp only
      rw [List.getElem?_set_ne (fun z => n1 (by rw [z]; exact hi'))]
      exact e
    rcases putB_at (by simpa using hl) n2 ho' h with ⟨h1, h2⟩ | ⟨p, r, d0, d', h1, h2, h3, h4⟩
    · rcases setO_at h1 with ⟨h3, h4⟩ | ⟨r, d0, rfl, h4, h5⟩ | ⟨h3, h4⟩
      · exact .inl ⟨h3, fun z => by
          rcases List.mem_cons.mp z with z | z
          · exact h4 z
          · exact h2 z⟩
      · exact .inr ⟨0, r, d0, d, rfl, rfl, h4, h5⟩
      · refine .inl ⟨h3, fun z => ?_⟩
        rcases List.mem_cons.mp z with z | z
        · subst z
          obtain ⟨r, d', e⟩ := ho j List.mem_cons_self
          rw [h3] at e
          exact h4 r d' (Option.some.inj e)
        · exact h2 z
    · refine .inr ⟨p + 1, r, ?_⟩
      have ne : j ≠ i := fun z => n1 (by rw [← z]; exact List.mem_of_getElem? h1)
      rcases setO_at h3 with ⟨h5, h6⟩ | ⟨r', d1, e1, _, _⟩ | ⟨h5, h6⟩
      · exact ⟨d0, d', by simpa using h1, by simpa using h2, h5, h4⟩
      · exact absurd e1 ne
      · exact ⟨d0, d', by simpa using h1, by simpa using h2, h5, h4⟩
  | [], _ :: _, st, j, x, hl, _, _, _ => by simp at hl
  | _ :: _, [], st, j, x, hl, _, _, _ => by simp at hl
/-- the arguments of a call stand as the def wants them -/
theorem resO_ok {K : PySem.W.Frag} {T : Tb} {c : Fc} {o : Nat → Addr} {st : Sl} {σ : L2.St} {H F : Hp} (R : Rel K T c o st σ H F) : ∀ {bs : List Bool} {ts : List T1} {vs : List V} {ds : List D}, TRL K T c o st σ H F vs ts → resO bs ts st = some ds →
    ArgR K T F H bs vs ds ∧ (∀ i ∈ pks bs ts, ∃ r d, st[i]? = some (Slot.own r d)) ∧ (∀ (p : Nat) (a : Addr), RefIn bs vs p a → ∃ (q i : Nat), (pks bs ts)[q]? = some i ∧ o i = a ∧ ts[p]? = some (.pk i)) ∧
      (∀ {P : Addr → D → Prop} {outs : List D}, OutP P bs vs outs → (pks bs ts).length = outs.length ∧ ∀ (q : Nat) i d, (pks bs ts)[q]? = some i → outs[q]? = some d → P (o i) d)
  | [], [], [], ds, _, e => by
    cases e
    exact ⟨⟨rfl, rfl, fun i b v d h => by simp at h⟩, fun i h => by simp [pks] at h, fun p a h => by have := h.1; simp at this, fun {P outs} h => by
      unfold OutP at h
      subst h
      exact ⟨rfl, fun q i d h => by simp [pks] at h⟩⟩
  | false :: bs, .vl d :: ts, v :: vs, ds, h, e => by
    simp only [resO] at e
    cases e1 : resO bs ts st with
    | none => rw [e1] at e; simp at e
    | some ds' =>
      rw [e1] at e
      simp at e
      subst e
      obtain ⟨A, h1, h2, h3⟩ := resO_ok R h.2.2 e1
      refine ⟨⟨by simp [A.l1], by simp [A.l2], fun i b w d' g1 g2 g3 => ?_⟩, fun i hi => h1 i (by simpa [pks] using hi), fun p a g => ?_, fun {P outs} g => ?_⟩
      · cases i with
        | zero =>
          simp at g1 g2 g3
          subst g1 g2 g3
          rw [if_neg (by decide)]
          exact h.1
        | succ i => exact A.at_ i b w d' (by simpa using g1) (by simpa using g2) (by simpa using g3)
      · obtain ⟨g1, g2⟩ := g
        cases p with
        | zero => simp at g1
        | succ p =>
          obtain ⟨q, i, k1, k2, k3⟩ := h2 p a ⟨by simpa using g1, by simpa using g2⟩
          exact ⟨q, i, by simpa [pks] using k1, k2, by simpa using k3⟩
      · have g' : OutP P bs vs outs := g
        obtain ⟨k1, k2⟩ := h3 g'
        exact ⟨by simpa [pks] using k1, fun q i d' k3 => k2 q i d' (by simpa [pks] using k3)⟩
  | true :: bs, .pk i :: ts, v :: vs, ds, h, e => by
    simp only [resO] at e
    cases es : st[i]? with
    | none => rw [es] at e; simp at e
    | some x =>
      cases x with
      | un => rw [es] at e; simp at e
      | fix => rw [es] at e; simp at e
      | val d => rw [es] at e; simp at e
      | own r d =>
        rw [es] at e
        simp only at e
        cases e1 : resO bs ts st with
        | none => rw [e1] at e; simp at e
        | some ds' =>
          rw [e1] at e
          simp at e
          subst e
          obtain ⟨A, h1, h2, h3⟩ := resO_ok R h.2.2 e1
          obtain ⟨o1, o2, ⟨u, o3, o4⟩, o5⟩ := R.own i r d es
          have hv : v = .ref (o i) := by
            have := h.1
            have this : σ[i]? = some (some v) := this
            rw [o1] at this
            exact (Option.some.inj (Option.some.inj this)).symm
          subst hv
          refine ⟨⟨by simp [A.l1], by simp [A.l2], fun j b w d' g1 g2 g3 => ?_⟩, fun j hj => ?_, fun p a g => ?_, fun {P outs} g => ?_⟩
          · cases j with
            | zero =>
              simp at g1 g2 g3
              subst g1 g2 g3
              simpa using ⟨o2, u, o3, o4⟩
            | succ j => exact A.at_ j b w d' (by simpa using g1) (by simpa using g2) (by simpa using g3)
          · simp only [pks] at hj
            rcases List.mem_cons.mp hj with z | z
            · exact ⟨r, d, by rw [z]; exact es⟩
            · exact h1 j z
          · obtain ⟨g1, g2⟩ := g
            cases p with
            | zero =>
              simp at g2
              exact ⟨0, i, by simp [pks], g2, by simp⟩
            | succ p =>
              obtain ⟨q, j, k1, k2, k3⟩ := h2 p a ⟨by simpa using g1, by simpa using g2⟩
              exact ⟨q + 1, j, by simpa [pks] using k1, k2, by simpa using k3⟩
          · obtain ⟨a, d', outs', k1, k2, k3, k4⟩ := (show ∃ a d outs', (V.ref (o i) :: vs).head? = some (.ref a) ∧ outs = d :: outs' ∧ P a d ∧ OutP P bs (V.ref (o i) :: vs).tail outs' from g)
            simp at k1
            subst k1 k2
            obtain ⟨k5, k6⟩ := h3 (P := P) (outs := outs') k4
            refine ⟨by simp [pks, k5], fun q j d2 k7 k8 => ?_⟩
            cases q with
            | zero =>
              simp [pks] at k7 k8
              subst k7 k8
              exact k3
            | succ q => exact k6 q j d2 (by simpa [pks] using k7) (by simpa using k8)
  | false :: bs, .fr _ :: ts, vs, ds, h, e => by simp [resO] at e
  | false :: bs, .pk _ :: ts, vs, ds, h, e => by simp [resO] at e
  | true :: bs, .vl _ :: ts, vs, ds, h, e => by simp [resO] at e
  | true :: bs, .fr _ :: ts, vs, ds, h, e => by simp [resO] at e
  | [], [], _ :: _, ds, h, e => h.elim
  | false :: bs, .vl _ :: ts, [], ds, h, e => h.elim
  | true :: bs, .pk _ :: ts, [], ds, h, e => h.elim
  | [], _ :: _, vs, ds, h, e => by simp [resO] at e
  | true :: _, [], vs, ds, h, e => by simp [resO] at e
  | false :: _, [], vs, ds, h, e => by simp [resO] at e
theorem pks_inj : ∀ {bs : List Bool} {ts : List T1} {i j k : Nat}, (pks bs ts).Nodup → bs[i]? = some true → bs[j]? = some true → ts[i]? = some (.pk k) → ts[j]? = some (.pk k) → i = j
  | [], _, i, j, k, _, h, _, _, _ => by simp at h
  | _ :: _, [], i, j, k, _, _, _, h, _ => by simp at h
  | b :: bs, t :: ts, i, j, k, hn, h1, h2, h3, h4 => by
    have mem : ∀ {bs : List Bool} {ts : List T1} {i k : Nat}, bs[i]? = some true → ts[i]? = some (.pk k) → k ∈ pks bs ts := by
      intro bs
      induction bs with
      | nil => intro ts i k h; simp at h
      | cons b bs ih =>
        intro ts i k h h'
        cases ts with
        | nil => simp at h'
        | cons t ts =>
          cases i with
          | zero =>
            simp at h h'
            subst h h'
            simp [pks]
          | succ i =>
            have := ih (ts := ts) (i := i) (k := k) (by simpa using h) (by simpa using h')
            cases b with
            | false => simpa [pks] using this
            | true => cases t <;> simp [pks, this]
    have tl : (pks bs ts).Nodup := by
      cases b with
      | false => simpa [pks] using hn
      | true =>
        cases t with
        | pk q => exact (List.nodup_cons.mp (by simpa [pks] using hn)).2
        | vl d => simpa [pks] using hn
        | fr d => simpa [pks] using hn
    cases i with
    | zero =>
      cases j with
      | zero => rfl
      | succ j =>
        simp at h1 h3
        subst h1 h3
        exact absurd (mem (by simpa using h2) (by simpa using h4)) (List.nodup_cons.mp (by simpa [pks] using hn)).1
    | succ i =>
      cases j with
      | zero =>
        simp at h2 h4
        subst h2 h4
        exact absurd (mem (by simpa using h1) (by simpa using h3)) (List.nodup_cons.mp (by simpa [pks] using hn)).1
      | succ j => exact congrArg Nat.succ (pks_inj tl (k := k) (by simpa using h1) (by simpa using h2) (by simpa using h3) (by simpa using h4))
/-- behind a call -/
theorem Rel.called {K : PySem.W.Frag} {T : Tb} {c : Fc} {o : Nat → Addr} {st : Sl} {σ : L2.St} {H F F' H' : Hp} (R : Rel K T c o st σ H F) {bs : List Bool} {ts : List T1} {vs : List V} {ds outs : List D} (tr : TRL K T c o st σ H F vs ts) (e : resO bs ts st = some ds) (hn : (pks bs ts).Nodup)
    (g : Grow F H F' H' (RefIn bs vs)) (ho : OutR K T F' H' bs vs outs) : Rel K T c o (putB (pks bs ts) outs st) σ H' F' := by
  obtain ⟨A, h1, h2, h3⟩ := resO_ok R tr e
  obtain ⟨hl, h4⟩ := h3 ho
  have at_ := fun {j : Nat} {x : Slot} => putB_at (j := j) (x := x) hl hn h1
  have notRef : ∀ {j r d}, st[j]? = some (Slot.own r d) → j ∉ pks bs ts → ∀ p, ¬ RefIn bs vs p (o j) := fun {j r d} es hj p z => by
    obtain ⟨q, i, k1, k2, k3⟩ := h2 p _ z
    obtain ⟨r', d', es'⟩ := h1 i (List.mem_of_getElem? k1)
    have := R.dis i j r' r d' d es' es k2
    exact hj (by rw [← this]; exact List.mem_of_getElem? k1)
  refine ⟨R.ex0.trans g.exF, g.sub, fun a u h => ?_, fun a u h n => ?_, fun b u h => ?_, fun j d h => ?_, fun j r d h => ?_, fun j k r r' d d' hj hk z => ?_, by rw [putB_len]; exact R.len, fun a u h => ?_, fun j h => ?_⟩
  · obtain ⟨u', h'⟩ := R.dom a u h
    exact g.dom a u' h'
  · refine g.keep a u (R.keep a u h n) fun p z => ?_
    obtain ⟨q, i, k1, k2, k3⟩ := h2 p a z
    obtain ⟨r', d', es'⟩ := h1 i (List.mem_of_getElem? k1)
    obtain ⟨_, _, _, o5⟩ := R.own i r' d' es'
    cases r' with
    | true => exact n i (by rw [← k2]; simpa using o5)
    | false =>
      have o5 : c.H0 (o i) = none := by simpa using o5
      rw [← k2, o5] at h
      cases h
  · rcases g.new b u h with z | ⟨u', z⟩
    · exact .inl (R.no0 z)
    · exact R.new b u' z
  · rcases at_ h with ⟨h5, _⟩ | ⟨p, r, d0, d', h5, h6, h7, h8⟩
    · obtain ⟨v, k1, k2⟩ := R.val j d h5
      exact ⟨v, k1, k2.mono g.exF⟩
    · cases h8
  · rcases at_ h with ⟨h5, h6⟩ | ⟨p, r', d0, d', h5, h6, h7, h8⟩
    · obtain ⟨k1, k2, ⟨u, k3, k4⟩, k5⟩ := R.own j r d h5
      refine ⟨k1, ?_, ⟨u, g.keep _ _ k3 (notRef h5 h6), k4.mono g.exF⟩, k5⟩
      cases hF : F' (o j) with
      | none => rfl
      | some w =>
        rcases g.new _ _ hF with z | ⟨u', z⟩
        · rw [k3] at z; cases z
        · rw [k2] at z; cases z
    · cases h8
      obtain ⟨k1, k2, k3, k5⟩ := R.own j r d0 h7
      obtain ⟨g1, g2⟩ := h4 p j d h5 h6
      exact ⟨k1, g1, g2, k5⟩
  · have back : ∀ {j r d}, (putB (pks bs ts) outs st)[j]? = some (Slot.own r d) → ∃ r' d', st[j]? = some (Slot.own r' d') := fun {j r d} h => by
      rcases at_ h with ⟨h5, _⟩ | ⟨p, r', d0, d', h5, h6, h7, h8⟩
      · exact ⟨r, d, h5⟩
      · exact ⟨r', d0, h7⟩
    obtain ⟨_, _, b1⟩ := back hj
    obtain ⟨_, _, b2⟩ := back hk
    exact R.dis j k _ _ _ _ b1 b2 z
  · obtain ⟨k1, k2, k3, k4⟩ := R.tpk a u h
    refine ⟨g.keep a u k1 fun p z => ?_, ?_, k3, fun j r d h' => ?_⟩
    · obtain ⟨q, i, n1, n2, n3⟩ := h2 p a z
      obtain ⟨r', d', es'⟩ := h1 i (List.mem_of_getElem? n1)
      exact k4 i r' d' es' n2
    · cases hF : F' a with
      | none => rfl
      | some w =>
        rcases g.new _ _ hF with z | ⟨u', z⟩
        · rw [k1] at z; cases z
        · rw [k2] at z; cases z
    · rcases at_ h' with ⟨h5, _⟩ | ⟨p, r', d0, d', h5, h6, h7, h8⟩
      · exact k4 j r d h5
      · exact k4 j r' d0 h7
  · rcases at_ h with ⟨h5, _⟩ | ⟨p, r', d0, d', h5, h6, h7, h8⟩
    · exact R.fix j h5
    · cases h8
theorem call_core {T : Tb} {X : Cx} {c : Fc} {W : WX} {o : Nat → Addr} {st : Sl} {σ : L2.St} {H F : Hp} {bs : List Bool} {g : List D → FR} {ts : List T1} {vs : List V} {Q : VK} (R : Rel X.K T c o st σ H F) (tr : TRL X.K T c o st σ H F vs ts)
    (p : PostR X.K T c W σ F (QE X.K T c σ Q) (callT bs g ts st)) : spF X.K T bs g vs H Q (WE W σ) := by
  unfold callT at p
  cases e : resO bs ts st with
  | none => rw [e] at p; exact p.elim
  | some ds =>
    rw [e] at p
    simp only at p
    by_cases hn : (pks bs ts).Nodup
    · rw [if_pos hn] at p
      obtain ⟨A, h1, h2, h3⟩ := resO_ok R tr e
      refine ⟨F, ds, R.sub, A, fun i j a z1 z2 => ?_, ?_⟩
      · -- two places of one object
        obtain ⟨q1, i1, k1, k2, k3⟩ := h2 i a z1
        obtain ⟨q2, i2, k1', k2', k3'⟩ := h2 j a z2
        obtain ⟨r1, d1, e1⟩ := h1 i1 (List.mem_of_getElem? k1)
        obtain ⟨r2, d2, e2⟩ := h1 i2 (List.mem_of_getElem? k1')
        have ei : i1 = i2 := R.dis i1 i2 r1 r2 d1 d2 e1 e2 (by rw [k2, k2'])
        subst ei
        exact pks_inj hn z1.1 z2.1 k3 k3'
      · cases hg : g ds with
        | no => rw [hg] at p; exact p.elim
        | exc x outs =>
          rw [hg] at p
          exact fun cl dd F' H' gr ho xr => p cl dd o H' F' gr.exF (R.called tr e hn gr ho) xr
        | ok fr d outs =>
          rw [hg] at p
          cases fr with
          | false =>
            refine fun v F' H' gr ho rt => p o H' F' gr.exF (R.called tr e hn gr ho) v ?_
            unfold RetR at rt
            rw [if_neg (by decide)] at rt
            exact rt
          | true =>
            refine fun v F' H' gr ho rt => p o H' F' gr.exF (R.called tr e hn gr ho) v ?_
            unfold RetR at rt
            obtain ⟨a, u, h5, h6, h7, h8, h9⟩ := (show ∃ a u, v = .ref a ∧ H a = none ∧ F' a = none ∧ H' a = some u ∧ Ob X.K T F' d u by simpa using rt)
            refine ⟨a, u, h5, R.no0 h6, h7, h8, h9, R.not h6, fun i r d' z => ?_⟩
            obtain ⟨hl, _⟩ := h3 ho
            rcases putB_at hl hn h1 z with ⟨z, _⟩ | ⟨_, r', d0, _, _, _, z, _⟩
            · exact R.neO h6 z
            · exact R.neO h6 z
    · rw [if_neg hn] at p
      exact p.elim
end Fw
end

section
set_option maxRecDepth 100000
set_option maxHeartbeats 2000000
namespace Fw
open PySem PySem.Spec PyProof.Rows L2

section
variable {T : Tb} {X : Cx} {c : Fc} {W : WX} {pos p apos : Pos} {e : Expr} {es : List Expr} {m : M T1} {ms : List (M T1)}
/-- the callee runs -/
theorem run_core {gd : Bool} {k : Nat} {f : Addr} {fd : FuncData} {ps : List Str} {sp : Sp} {pins : List (Addr × Obj)} {σ : L2.St} {H : Hp} {s : Shared} {Q : VK} {us0 us : List Value} {kw : List (Str × Value)} {vs : List V} (F : FnG gd X.prog X.w X.K X.mg X.base (L2.CX X.prog X.w) k f fd ps sp) (hgd : gd = true → X.A.guards = some []) (hr : Room k X.A) (tk : Takes X W)
    (I : Inv X pins σ H s) (hb : us.length = ps.length → BindsTo s fd ⟨us0, kw⟩ (ps.zip us)) (r : Vals vs us) (h : sp vs H Q (WE W σ)) : wpAny (model X.prog X.w) X.A (call (.ref f) us0 kw) (EP X pins σ Q) X.xe s := by
  have hl : us.length = ps.length := by rw [← r.length]; exact F.len _ _ _ _ h
  refine wpAny_call (codeAny_mono (F.run X.A X.stack s H ⟨us0, kw⟩ us vs Q (WE W σ) hgd hr I.env0 (hb hl) r h) fun r s' hq => ?_)
  cases r with
  | error e => exact passAt tk σ pins H s e s' I hq
  | ok fl =>
    cases fl with
    | ret u => exact I.after hq
    | next => exact False.elim hq
    | brk => exact False.elim hq
    | cont => exact False.elim hq

theorem TRL.app {K : PySem.W.Frag} {o : Nat → Addr} {st : Sl} {σ : L2.St} {H F : Hp} : ∀ {vs ws : List V} {ts us : List T1}, TRL K T c o st σ H F vs ts → TRL K T c o st σ H F ws us → TRL K T c o st σ H F (vs ++ ws) (ts ++ us)
  | [], _, [], _, _, h => h
  | v :: vs, ws, t :: ts, us, h, h' => ⟨h.1, h.2.1, TRL.app h.2.2 h'⟩
  | [], _, _ :: _, _, h, _ => h.elim
  | _ :: _, _, [], _, h, _ => h.elim
theorem TRL.vls {K : PySem.W.Frag} {o : Nat → Addr} {st : Sl} {σ : L2.St} {H F : Hp} : ∀ {ds : List D} {vs : List V}, RpL K T F ds vs → TRL K T c o st σ H F vs (ds.map T1.vl)
  | [], vs, h => by unfold RpL at h; subst h; exact True.intro
  | d :: ds, vs, h => by
    unfold RpL at h
    obtain ⟨v, vs', rfl, h2, h3⟩ := h
    exact ⟨h2, rfl, TRL.vls h3⟩
end

/-! ### attributes -/
section
variable {T : Tb} {X : Cx} {c : Fc} {W : WX} {pos p apos : Pos} {e : Expr} {ma : M T1}
theorem lookup_at {f : Str} {v : V} : ∀ {fs : List (Str × V)} {ns : List Str} {j : Nat}, fs.map (·.1) = ns.take fs.length → ns.Nodup → ns[j]? = some f → (fs.map (·.2))[j]? = some v → fs.lookup f = some v
  | [], ns, j, _, _, _, h => by simp at h
  | (g, w) :: fs, [], j, h, _, _, _ => by simp at h
  | (g, w) :: fs, n :: ns, 0, h, hn, h1, h2 => by
    simp at h h1 h2
    obtain ⟨rfl, _⟩ := h
    subst h1 h2
    simp [List.lookup]
  | (g, w) :: fs, n :: ns, j + 1, h, hn, h1, h2 => by
    simp at h
    obtain ⟨rfl, h⟩ := h
    obtain ⟨n1, n2⟩ := List.nodup_cons.mp hn
    have h1 : ns[j]? = some f := by simpa using h1
    have ne : f ≠ g := fun z => n1 (by rw [← z]; exact List.mem_of_getElem? h1)
    have nb : (f == g) = false := beq_eq_false_iff_ne.mpr ne
    simp only [List.lookup, nb]
    exact lookup_at (by simpa using h) n2 h1 (by simpa using h2)
/-- what an attribute's name is in the classes: at which place -/
structure AtF (X : Cx) (T : Tb) (f : Str) (ix : Nat → Option Nat) : Prop where
  at_ : ∀ c j, ix c = some j → Cls X.K (T.cl c) ∧ NoAttr X.K (T.cl c) f ∧ (T.an c).Nodup ∧ (T.an c)[j]? = some f
def attD (ix : Nat → Option Nat) : D → Option D
  | .ins c ds => (ix c).bind fun j => ds[j]?
  | _ => none
def attM (ix : Nat → Option Nat) (a : M T1) : M T1 := M.bnd (ops1 a) fun d => M.bnd (lf (attD ix d)) fun r => M.ret (T1.vl r)
theorem se_att {f : Str} {ix : Nat → Option Nat} (A : AtF X T f ix) (h : SE T X c W e ma) (hb : attributeBase e f X.env (eval e X.env) = eval e X.env := by rfl) : SE T X c W (.Attribute e f pos) (attM ix ma) := by
  refine ⟨fun st o σ H F Q R q => tW_of (pe_fld pe_tW hb) ?_⟩
  refine one (k := fun d => M.bnd (lf (attD ix d)) fun r => M.ret (T1.vl r)) h R q fun dx x o1 s1 H1 F1 e1 R1 sx p1 => ?_
  obtain ⟨r, hr, p2⟩ := (PostR.bnd p1).lf
  have p3 := p2 o1 H1 F1 (Ex.refl F1) R1
  cases dx with
  | ins cc ds =>
    unfold attD at hr
    simp only at hr
    cases hi : ix cc with
    | none => rw [hi] at hr; cases hr
    | some j =>
      rw [hi] at hr
      have hr : ds[j]? = some r := hr
      obtain ⟨k1, k2, k3, k4⟩ := A.at_ cc j hi
      obtain ⟨a, dx, fs, rfl, h1, h2, h3⟩ := sx.ins R1.sub
      obtain ⟨v, h4, h5⟩ := h3.get hr
      exact ⟨a, _, dx, fs, v, rfl, h1, k1, k2, lookup_at h2 k3 k4 h4, p3 o1 H1 F1 (Ex.refl F1) R1 v h5⟩
  | _ => cases hr
end

/-! ### subscripts -/
def dget : List L2.Key → List D → L2.Key → Option D
  | k0 :: ks, d :: ds, k => if k0 = k then some d else dget ks ds k
  | _, _, _ => none
def subD : D → D → Option T1
  | .lst ds, .int i => (atI ds i).map .vl
  | .tup ds, .int i => (atI ds i).map .vl
  | .str x, .int i => if x.length ≤ 1000000 then (atI x.cps.toList i).map fun c => .vl (.str ⟨#[c]⟩) else none
  | .dic ks ds, .int i => (dget ks ds (.inl i)).map .vl
  | .dic ks ds, .str x => (dget ks ds (.inr x)).map .vl
  | _, _ => none
def subM (a b : M T1) : M T1 := bin subD a b
section
variable {T : Tb} {X : Cx} {c : Fc} {W : WX} {pos p apos p2 : Pos} {a b : Expr} {ma mb : M T1}
theorem atI_get {α β : Type} {ds : List α} {vs : List β} {i : Int} {d : α} (hl : vs.length = ds.length) (h : atI ds i = some d) : ∃ j : Nat, ds[j]? = some d ∧ atI vs i = vs[j]? := by
  unfold atI at h ⊢
  rw [hl]
  cases e : ixN ds.length i with
  | none => rw [e] at h; cases h
  | some j =>
    rw [e] at h
    exact ⟨j, h, rfl⟩
theorem dget_valV {K : PySem.W.Frag} {F : Hp} {k : L2.Key} : ∀ {kvs : List (L2.Key × V)} {ds : List D} {d : D}, RpL K T F ds (kvs.map (·.2)) → dget (kvs.map (·.1)) ds k = some d → ∃ v, valV kvs k = some v ∧ Rp K T F d v
  | [], ds, d, r, e => by simp [dget] at e
  | (k0, v0) :: kvs, [], d, r, e => by simp [dget] at e
  | (k0, v0) :: kvs, d0 :: ds, d, r, e => by
    unfold RpL at r
    obtain ⟨w, vs', e1, r1, r2⟩ := r
    cases e1
    simp only [List.map_cons, dget] at e
    by_cases hk : k0 = k
    · rw [if_pos hk] at e
      cases e
      exact ⟨v0, by simp [valV, hk], r1⟩
    · rw [if_neg hk] at e
      obtain ⟨v, h1, h2⟩ := dget_valV (kvs := kvs) r2 e
      refine ⟨v, ?_, h2⟩
      unfold valV at h1 ⊢
      rw [List.find?_cons_of_neg (by simpa using hk)]
      exact h1
def iW (X : Cx) : R2 := fun x y H Q => ∀ (value slice : Expr) (pins : List (Addr × Obj)) (s : Shared) (σ : L2.St) (v u : Value), Inv X pins σ H s → RelV x v → RelV y u → subscripted slice false v u = operate [v, u] (getItem v u) → wpAny (model X.prog X.w) X.A (subscriptTail value slice v u) (EP X pins σ Q) X.xe s
theorem ixr_iW : IxR X (iW X) := fun value slice pins s σ H x y v u Q I rx ry h hs => h value slice pins s σ v u I rx ry hs
theorem iW_of {r : R2} (h : IxR X r) {x y : V} {H : Hp} {Q : VK} (q : r x y H Q) : iW X x y H Q := fun value slice pins s σ v u I rx ry hs => h value slice pins s σ H x y v u Q I rx ry q hs
theorem ix_dict (hu : X.A.units + 1 < cLine) : IxR X (fun x y H Q => ∃ a v, x = .ref a ∧ DGet H a y (some v) ∧ Q v H) := by
  intro value slice pins s σ H x y v u Q I rx ry h hs
  obtain ⟨a, w, rfl, g, q⟩ := h
  obtain rfl : v = Value.ref a := rx
  exact tail_any (dict_typeIs I g) PySem.F.slot_dict_getitem.lookup (d_getItem hu I g ry fun w' s3 I3 rw' => ⟨w, H, I3, rw', q⟩) hs
theorem se_sub (hu : X.A.units + 1 < cLine) (ha : SE T X c W a ma) (hb : SE T X c W b mb) (hs : PlainIx b := by intro _ _; rfl) : SE T X c W (.Subscript a b pos) (subM ma mb) := by
  refine ⟨fun st o σ H F Q R p => tW_of (pe_ix ixr_iW pe_tW pe_tW hs) ?_⟩
  refine two (k := fun x y => lf (subD x y)) ha hb R p fun dx dy x y o1 s1 H1 F1 e1 R1 sx sy p1 => ?_
  obtain ⟨t, ht, p2⟩ := p1.lf
  have fin : ∀ d v, t = .vl d → Rp X.K T F1 d v → Q v H1 := fun d v e r => by
    subst e
    exact p2 o1 H1 F1 (Ex.refl F1) R1 v r
  have dct : ∀ ks ds (k : L2.Key), dx = .dic ks ds → y = kV k → (dget ks ds k).map T1.vl = some t → iW X x y H1 Q := fun ks ds k e ey h => by
    subst e
    obtain ⟨d, hd, rfl⟩ := Option.map_eq_some_iff.mp h
    obtain ⟨a, kvs, rfl, h1, h2, h3⟩ := sx.dic R1.sub
    subst h2
    obtain ⟨v, h4, h5⟩ := dget_valV h3 hd
    refine iW_of (ix_dict hu) ⟨a, v, rfl, ?_, fin d v rfl h5⟩
    have := DGet.k (k := k) h1
    rw [h4] at this
    rw [ey]
    exact this
  cases dx with
  | lst ds =>
    cases dy with
    | int i =>
      cases sy.int
      obtain ⟨d, hd, rfl⟩ := Option.map_eq_some_iff.mp ht
      obtain ⟨q, vs, rfl, h1, h2⟩ := sx.lst R1.sub
      obtain ⟨j, h3, h4⟩ := atI_get h2.len hd
      obtain ⟨v, h5, h6⟩ := h2.get h3
      exact iW_of ix_list ⟨q, vs, i, v, rfl, rfl, h1, by rw [h4, h5], fin d v rfl h6⟩
    | _ => cases ht
  | tup ds =>
    cases dy with
    | int i =>
      cases sy.int
      obtain ⟨d, hd, rfl⟩ := Option.map_eq_some_iff.mp ht
      obtain ⟨q, vs, rfl, h1, h2⟩ := sx.tup R1.sub
      obtain ⟨j, h3, h4⟩ := atI_get h2.len hd
      obtain ⟨v, h5, h6⟩ := h2.get h3
      exact iW_of ix_tup ⟨q, vs, i, v, rfl, rfl, h1, by rw [h4, h5], fin d v rfl h6⟩
    | _ => cases ht
  | str z =>
    cases dy with
    | int i =>
      cases sy.int
      cases sx.str
      have ht : (if z.length ≤ 1000000 then (atI z.cps.toList i).map fun c => T1.vl (.str ⟨#[c]⟩) else none) = some t := ht
      by_cases hl : z.length ≤ 1000000
      · rw [if_pos hl] at ht
        obtain ⟨d, hd, rfl⟩ := Option.map_eq_some_iff.mp ht
        exact iW_of ix_str ⟨z, i, d, rfl, rfl, by rw [sizeLine_eq]; omega, hd, fin _ _ rfl (by unfold Rp; rfl)⟩
      · rw [if_neg hl] at ht
        cases ht
    | _ => cases ht
  | dic ks ds =>
    cases dy with
    | int i => exact dct ks ds (.inl i) rfl sy.int ht
    | str z => exact dct ks ds (.inr z) rfl sy.str ht
    | _ => cases ht
  | _ => cases ht

/-! slices -/
def intD : D → Option Int
  | .int i => some i
  | _ => none
/-- an optional part -/
def partM : Option (M T1) → M (Option Int)
  | none => M.ret none
  | some m => M.bnd (ops1 m) fun d => M.bnd (lf (intD d)) fun i => M.ret (some i)
structure SO (T : Tb) (X : Cx) (c : Fc) (W : WX) (py : Option Expr) (m : M (Option Int)) : Prop where
  run : ∀ (st : Sl) (o : Nat → Addr) (σ : L2.St) (H F : Hp) (Q : Option Int → Hp → Prop), Rel X.K T c o st σ H F → PostR X.K T c W σ F (fun i _ _ H' _ => Q i H') (m st) → ∃ to, PO X py to ∧ to σ H Q
def oW (X : Cx) : Option Expr → TO
  | none => tNoPart
  | some e => tPart (tW X e)
theorem po_oW : ∀ {e : Option Expr}, PO X e (oW X e)
  | none => po_none
  | some e => po_some pe_tW
theorem intD_see {K : PySem.W.Frag} {F H : Hp} {d : D} {x : V} {i : Int} (h : See K T F H d x) (e : intD d = some i) : x = .int i := by
  cases d <;> cases e
  exact h.int
def SP1 (T : Tb) (X : Cx) (c : Fc) (W : WX) (e : Option Expr) (m : Option (M T1)) : Prop := match e, m with
  | none, none => True
  | some e, some m => SE T X c W e m
  | _, _ => False
theorem part_run {e : Option Expr} {m : Option (M T1)} (h : SP1 T X c W e m) {st : Sl} {o : Nat → Addr} {σ : L2.St} {H F : Hp} {Q : Option Int → Hp → Prop} (R : Rel X.K T c o st σ H F) {α : Type} {k : Option Int → M α} {q : α → (Nat → Addr) → Sl → Hp → Hp → Prop}
    (p : PostR X.K T c W σ F q (M.bnd (partM m) k st)) (fin : ∀ i o' st' H' F', Ex F F' → Rel X.K T c o' st' σ H' F' → PostR X.K T c W σ F' q (k i st') → Q i H') : oW X e σ H Q := by
  cases e with
  | none =>
    cases m with
    | none => exact fin none o st H F (Ex.refl F) R p
    | some m => exact h.elim
  | some e =>
    cases m with
    | none => exact h.elim
    | some m =>
      have h : SE T X c W e m := h
      have p1 : PostR X.K T c W σ F q (M.bnd (ops1 m) (fun d => M.bnd (lf (intD d)) fun i => k (some i)) st) := by
        have e1 : M.bnd (partM (some m)) k st = M.bnd (ops1 m) (fun d => M.bnd (lf (intD d)) fun i => k (some i)) st := by
          show M.bnd (M.bnd (ops1 m) fun d => M.bnd (lf (intD d)) fun i => M.ret (some i)) k st = _
          unfold M.bnd M.ret
          cases ops1 m st with
          | ok d s1 =>
            simp only
            cases lf (intD d) s1 <;> rfl
          | exc e s => rfl
          | no => rfl
        rw [e1] at p
        exact p
      refine one (Q := fun x H' => ∃ i, x = .int i ∧ Q (some i) H') h R p1 fun dx x o1 s1 H1 F1 e1 R1 sx p2 => ?_
      obtain ⟨i, hi, p3⟩ := (PostR.bnd p2).lf
      exact ⟨i, intD_see sx hi, fin (some i) o1 s1 H1 F1 e1 R1 (p3 o1 H1 F1 (Ex.refl F1) R1)⟩
end
end Fw
end

section
set_option maxRecDepth 100000
set_option maxHeartbeats 2000000
namespace Fw
open PySem PySem.Spec PyProof.Rows L2

/-! ### slices -/
def sliD : D → Option Int → Option Int → Option T1
  | .lst ds, lo, hi => some (.fr (.lst (cutV' ds lo hi)))
  | .tup ds, lo, hi => some (if HT.sIx ds.length 0 lo = 0 ∧ HT.sIx ds.length ds.length hi = ds.length then .vl (.tup ds) else .fr (.tup (cutV' ds lo hi)))
  | .str z, lo, hi => if z.length ≤ 1000000 then some (.vl (.str (cutS z lo hi))) else none
  | .scr ns, lo, hi => some (.fr (.lst (cutV' (ns.map D.int) lo hi)))
  | _, _, _ => none
where cutV' (ds : List D) (lo hi : Option Int) : List D := (ds.drop (HT.sIx ds.length 0 lo)).take (HT.sIx ds.length ds.length hi - HT.sIx ds.length 0 lo)
def sliM (a : M T1) (lo hi : Option (M T1)) : M T1 := M.bnd a fun t => M.bnd (partM lo) fun l => M.bnd (partM hi) fun h => M.bnd (rv t) fun d => lf (sliD d l h)
section
variable {T : Tb} {X : Cx} {c : Fc} {W : WX} {pos p apos p2 : Pos} {a b : Expr} {ma mb : M T1}
def sW (X : Cx) : V → Option Int → Option Int → Hp → VK → Prop := fun x lo hi H Q => ∀ (pins : List (Addr × Obj)) (s : Shared) (σ : L2.St) (v vl vu : Value) (sl : Addr), Inv X pins σ H s → RelV x v → s.heap.IsSliceOf sl vl vu .none → IsPart vl lo → IsPart vu hi →
    ∃ T id, typeLookup (.type T) "__getitem__" = pure (some (.builtin id)) ∧ s.TypeIs v T ∧ wpAny (model X.prog X.w) X.A (getItem v (.ref sl)) (EP X pins σ Q) X.xe s
theorem slr_sW : SlR X (sW X) := fun pins s σ H x v vl vu lo hi sl Q I rx hs pl pu h => h pins s σ v vl vu sl I rx hs pl pu
theorem sW_of {r : V → Option Int → Option Int → Hp → VK → Prop} (h : SlR X r) {x : V} {lo hi : Option Int} {H : Hp} {Q : VK} (q : r x lo hi H Q) : sW X x lo hi H Q := fun pins s σ v vl vu sl I rx hs pl pu => h pins s σ H x v vl vu lo hi sl Q I rx hs pl pu q
theorem se_sli {lo hi : Option Expr} {ml mh : Option (M T1)} (ha : SE T X c W a ma) (hl : SP1 T X c W lo ml) (hh : SP1 T X c W hi mh) : SE T X c W (.Subscript a (.Slice lo hi none p2) pos) (sliM ma ml mh) := by
  refine ⟨fun st o σ H F Q R p => tW_of (pe_slice slr_sW pe_tW po_oW po_oW) ?_⟩
  refine ha.run st o σ H F _ R ((PostR.bnd p).imp fun t o1 s1 H1 F1 e1 R1 p1 v tr => ?_)
  obtain ⟨F2, e2, R2, tr2⟩ := R1.fz tr
  refine part_run hl R2 (PostR.ext e2 p1) fun l o3 s3 H3 F3 e3 R3 p3 => ?_
  refine part_run hh R3 p3 fun h o4 s4 H4 F4 e4 R4 p4 => ?_
  rw [← rv_fz] at p4
  obtain ⟨d, sd, p5⟩ := rv_see R4 (tr2.ext (e3.trans e4)) p4
  obtain ⟨r, hr, p6⟩ := p5.lf
  have fin : ∀ z H', PR X.K T F4 H4 r z H' → Q z H' := fun z H' pr => let ⟨R5, tr5⟩ := pr.tr R4; p6 o4 H' F4 (Ex.refl F4) R5 z tr5
  cases d with
  | lst ds =>
    cases hr
    obtain ⟨q, vs, rfl, h1, h2⟩ := sd.lst R4.sub
    refine sW_of sl_list ⟨q, vs, rfl, h1, fun n hn => fin _ _ ⟨Ex.new hn, n, _, rfl, hn, upd_same, _, rfl, ?_⟩⟩
    unfold sliD.cutV' cutV
    rw [h2.len]
    exact (h2.drop _).take _
  | scr ns =>
    cases hr
    obtain ⟨q, rfl, h1⟩ := sd.scr R4.sub
    refine sW_of sl_list ⟨q, _, rfl, h1, fun n hn => fin _ _ ⟨Ex.new hn, n, _, rfl, hn, upd_same, _, rfl, ?_⟩⟩
    unfold sliD.cutV' cutV
    rw [List.length_map, List.length_map]
    exact ((RpL.ints ns).drop _).take _
  | tup ds =>
    obtain ⟨q, vs, rfl, h1, h2⟩ := sd.tup R4.sub
    have hr : (if HT.sIx ds.length 0 l = 0 ∧ HT.sIx ds.length ds.length h = ds.length then T1.vl (.tup ds) else .fr (.tup (sliD.cutV' ds l h))) = r := Option.some.inj hr
    refine sW_of sl_tupA ⟨q, vs, rfl, h1, fun hw => ?_, fun hw n hn => ?_⟩
    · rw [h2.len] at hw
      rw [if_pos hw] at hr
      subst hr
      refine fin _ _ (PR.sc ?_)
      rcases sd with sd | ⟨a', u, e', h3, h4, h5⟩
      · exact sd
      · cases h5
    · rw [h2.len] at hw
      rw [if_neg hw] at hr
      subst hr
      refine fin _ _ ⟨Ex.new hn, n, _, rfl, hn, upd_same, _, rfl, ?_⟩
      unfold sliD.cutV' cutV
      rw [h2.len]
      exact (h2.drop _).take _
  | str z =>
    cases sd.str
    have hr : (if z.length ≤ 1000000 then some (T1.vl (.str (cutS z l h))) else none) = some r := hr
    by_cases hz : z.length ≤ 1000000
    · rw [if_pos hz] at hr
      cases hr
      exact sW_of sl_str ⟨z, rfl, by rw [sizeLine_eq]; omega, fin _ _ (PR.sc (by unfold Rp; rfl))⟩
    · rw [if_neg hz] at hr
      cases hr
  | _ => cases hr
end
end Fw
end

section
set_option maxRecDepth 100000
set_option maxHeartbeats 2000000
namespace Fw
open PySem PySem.Spec PyProof.Rows L2

/-! ### targets -/
inductive Tg where
  | nm (i : Nat) | tp (is : List Nat)
def bind1 (i : Nat) (d : D) (st : Sl) : Option Sl := match st[i]? with
  | some (Slot.own true _) => none
  | some _ => some (st.set i (Slot.val d))
  | none => none
def bindAll : List Nat → List D → Sl → Option Sl
  | [], [], st => some st
  | i :: is, d :: ds, st => (bind1 i d st).bind (bindAll is ds)
  | _, _, _ => none
def bindT : Tg → D → Sl → Option Sl
  | .nm i, d, st => bind1 i d st
  | .tp is, .tup ds, st => bindAll is ds st
  | .tp _, _, _ => none
def gW (X : Cx) (tg : Expr) : TG := fun v σ H Q => ∀ (pins : List (Addr × Obj)) (s : Shared) (u : Value), Inv X pins σ H s → RelV v u → wpAny (model X.prog X.w) X.A (assign tg X.env u) (fun _ s' => ∃ σ' H', Inv X pins σ' H' s' ∧ Q σ' H') X.xe s
theorem pg_gW {X : Cx} {tg : Expr} : PG X tg (gW X tg) := ⟨fun pins s σ H v u Q I r h => h pins s u I r⟩
theorem gW_of {X : Cx} {tg : Expr} {g : TG} (p : PG X tg g) {v : V} {σ : L2.St} {H : Hp} {Q : L2.St → Hp → Prop} (h : g v σ H Q) : gW X tg v σ H Q := fun pins s u I r => p.run pins s σ H v u Q I r h
structure STg (T : Tb) (X : Cx) (tg : Expr) (t : Tg) : Prop where
  run : ∀ (c : Fc) (st st' : Sl) (o : Nat → Addr) (σ : L2.St) (H F : Hp) (d : D) (v : V) (Q : L2.St → Hp → Prop), Rel X.K T c o st σ H F → Rp X.K T F d v → bindT t d st = some st' → (∀ σ', Rel X.K T c o st' σ' H F → (∃ vs : List (Nat × V), σ' = vs.foldl (fun s p => s.set p.1 (some p.2)) σ ∧ vs.map (·.1) = match t with | .nm i => [i] | .tp is => is) → Q σ' H) → gW X tg v σ H Q
section
variable {T : Tb} {X : Cx} {c : Fc} {W : WX} {pos p apos p2 : Pos}
theorem bind1_ok {K : PySem.W.Frag} {o : Nat → Addr} {st st' : Sl} {σ : L2.St} {H F : Hp} {i : Nat} {d : D} {v : V} (R : Rel K T c o st σ H F) (h : Rp K T F d v) (e : bind1 i d st = some st') : Rel K T c o st' (σ.set i (some v)) H F := by
  unfold bind1 at e
  cases es : st[i]? with
  | none => rw [es] at e; cases e
  | some x =>
    rw [es] at e
    have : st' = st.set i (Slot.val d) := by
      cases x with
      | un => exact (Option.some.inj e).symm
      | fix => exact (Option.some.inj e).symm
      | val d => exact (Option.some.inj e).symm
      | own r d =>
        cases r with
        | true => cases e
        | false => exact (Option.some.inj e).symm
    subst this
    exact R.setVal es h
theorem stg_nm {i : Nat} {x : Str} (hN : X.N.Nodup) (hi : X.N[i]? = some x) (hx : Loc X.env.scope x) (hf : X.fn x = true ∨ X.env.scope.names.lookup x = some .local := by first | exact .inl rfl | exact .inr rfl | assumption) : STg T X (.Name x pos) (.nm i) :=
  ⟨fun c st st' o σ H F d v Q R h e k => gW_of (pg_name hN hi hx hf) (k _ (bind1_ok R h e) ⟨[(i, v)], rfl, rfl⟩)⟩
/-- a list of names -/
structure STs (T : Tb) (X : Cx) (ts : List Expr) (is : List Nat) : Prop where
  run : ∃ g : TGs, PGs X ts g ∧ ∀ (c : Fc) (st st' : Sl) (o : Nat → Addr) (σ : L2.St) (H F : Hp) (ds : List D) (vs : List V) (Q : L2.St → Hp → Prop), Rel X.K T c o st σ H F → RpL X.K T F ds vs → bindAll is ds st = some st' → (∀ σ', Rel X.K T c o st' σ' H F → (∃ vs : List (Nat × V), σ' = vs.foldl (fun s p => s.set p.1 (some p.2)) σ ∧ vs.map (·.1) = is) → Q σ' H) → g vs σ H Q
theorem sts_nil : STs T X [] [] := ⟨gNil, pgs_nil, fun c st st' o σ H F ds vs Q R h e k => by
  cases ds with
  | cons d ds => simp [bindAll] at e
  | nil =>
    unfold RpL at h
    simp [bindAll] at e
    subst e
    exact ⟨h, k σ R ⟨[], rfl, rfl⟩⟩⟩
theorem sts_cons {i : Nat} {x : Str} {ts : List Expr} {is : List Nat} (hN : X.N.Nodup) (hi : X.N[i]? = some x) (hx : Loc X.env.scope x) (h : STs T X ts is) (hf : X.fn x = true ∨ X.env.scope.names.lookup x = some .local := by first | exact .inl rfl | exact .inr rfl | assumption)
    (hs : (assignEach ((.Name x pos) :: ts) X.env).map (·.2) = assign (.Name x pos) X.env :: (assignEach ts X.env).map (·.2) := by rfl) : STs T X (.Name x pos :: ts) (i :: is) := by
  obtain ⟨g, pg, r⟩ := h.run
  refine ⟨gCons (gName i) g, pgs_cons (pg_name hN hi hx hf) pg hs, fun c st st' o σ H F ds vs Q R h e k => ?_⟩
  cases ds with
  | nil => simp [bindAll] at e
  | cons d ds =>
    simp only [bindAll] at e
    obtain ⟨s1, e1, e2⟩ := Option.bind_eq_some_iff.mp e
    unfold RpL at h
    obtain ⟨v, vs', rfl, h2, h3⟩ := h
    refine ⟨v, vs', rfl, r c s1 st' o _ H F ds vs' Q (bind1_ok R h2 e1) h3 e2 fun σ' R' ⟨ws, e3, e4⟩ => k σ' R' ⟨(i, v) :: ws, e3, by simp [e4]⟩⟩
theorem bindAll_len : ∀ {is : List Nat} {ds : List D} {st st' : Sl}, bindAll is ds st = some st' → ds.length = is.length
  | [], [], _, _, _ => rfl
  | i :: is, d :: ds, st, st', e => by
    simp only [bindAll] at e
    obtain ⟨s1, e1, e2⟩ := Option.bind_eq_some_iff.mp e
    simp [bindAll_len e2]
  | [], _ :: _, _, _, e => by simp [bindAll] at e
  | _ :: _, [], _, _, e => by simp [bindAll] at e
theorem stg_tp {ts : List Expr} {is : List Nat} {k : Nat} {n : Nat} (hc : X.calm = true) (h : STs T X ts is) (hl : is.length = n) (hn : (assignEach ts X.env).length = n := by rfl) (hst : (assignEach ts X.env).findIdx? (·.1) = none := by rfl) : STg T X (.Tuple ts k pos) (.tp is) := by
  obtain ⟨g, pg, r⟩ := h.run
  refine ⟨fun c st st' o σ H F d v Q R hr e kk => gW_of (pg_tup hc pg hn hst) ?_⟩
  cases d with
  | tup ds =>
    unfold Rp at hr
    obtain ⟨a, vs, rfl, h1, h2⟩ := hr
    have e : bindAll is ds st = some st' := e
    exact ⟨a, vs, rfl, ex_t R.sub h1, by rw [h2.len, bindAll_len e, hl], r c st st' o σ H F ds vs Q R h2 e kk⟩
  | _ => cases e
/-- a, b = e -/
def unpM (is : List Nat) (m : M T1) : M Flw := M.bnd (ops1 m) fun d => fun st => match bindT (.tp is) d st with
  | some st' => .ok .nx st'
  | none => .no
theorem ss_unp {ts : List Expr} {is : List Nat} {e : Expr} {me : M T1} {k : Nat} {n : Nat} (he : SE T X c W e me) (hc : X.calm = true) (h : STs T X ts is) (hl : is.length = n) (hn : (assignEach ts X.env).length = n := by rfl) (hst : (assignEach ts X.env).findIdx? (·.1) = none := by rfl)
    (hs : swapsWithSole [.Tuple ts k p] e pos.line X.env = pure false := by rfl) (hw : swappedStores [.Tuple ts k p] e X.env = pure none := by rfl)
    (h1 : (assignEach [.Tuple ts k p] X.env).map (·.2) = [assign (.Tuple ts k p) X.env] := by rfl) : SS T X c W (.Assign [.Tuple ts k p] e pos) (unpM is me) := by
  obtain ⟨g, pg, r⟩ := h.run
  refine ⟨fun st o σ H F D R q => tWS_of (ps_asg pe_tW (pg_tup hc pg hn hst) hs hw h1) ?_⟩
  refine he.run st o σ H F _ R ?_
  have q1 : PostR X.K T c W σ F (fun d _ s1 _ F1 => PS1 X.K T c W F1 D (match bindT (.tp is) d s1 with | some st' => Res.ok Flw.nx st' | none => Res.no)) (M.bnd me rv st) := PS1.bnd (m := ops1 me) q
  refine (PostR.bnd q1).imp fun t o1 s1 H1 F1 e1 R1 p1 v tr => ?_
  obtain ⟨F2, e2, R2, tr2⟩ := R1.fz tr
  have p1 := PostR.ext e2 p1
  have p2 : PostR X.K T c W σ F2 (fun d _ s1 _ F1 => PS1 X.K T c W F1 D (match bindT (.tp is) d s1 with | some st' => Res.ok Flw.nx st' | none => Res.no)) (M.bnd (rv (fz t)) (fun d => M.ret d) s1) := by
    rw [rv_fz]
    have : M.bnd (rv t) (fun d => M.ret d) s1 = rv t s1 := by unfold M.bnd M.ret; cases rv t s1 <;> rfl
    rw [this]
    exact p1
  obtain ⟨d, sd, p3⟩ := rv_see R2 tr2 p2
  have p4 := p3 o1 H1 F2 (Ex.refl F2) R2
  cases d with
  | tup ds =>
    simp only [bindT] at p4
    cases eb : bindAll is ds s1 with
    | none => rw [eb] at p4; exact p4.elim
    | some st' =>
      rw [eb] at p4
      obtain ⟨a, vs, rfl, h1, h2⟩ := sd.tup R2.sub
      exact ⟨a, vs, rfl, h1, by rw [h2.len, bindAll_len eb, hl], r c s1 st' o1 σ H1 F2 ds vs D.nx R2 h2 eb fun σ' R' _ => p4 o1 σ' H1 F2 (Ex.refl F2) R'⟩
  | _ => exact p4.elim
/-- a, b = x, y with plain locals -/
def parM (i j : Nat) (ms : List (M T1)) : M Flw := M.bnd (argsM ms) fun ts => M.bnd (lf (vlsO ts)) fun ds => fun st => match bindAll [i, j] ds st with
  | some st' => .ok .nx st'
  | none => .no
theorem ss_par {i j : Nat} {x y : Str} {a b : Expr} {ms : List (M T1)} {px py pt : Pos} {kt k2 pt2} (ha : SA T X c W [a, b] (argsM ms)) (hc : X.calm = true) (hN : X.N.Nodup) (hi : X.N[i]? = some x) (hj : X.N[j]? = some y) (hij : i ≠ j)
    (hx : X.env.scope.names.lookup x = some .local) (hy : X.env.scope.names.lookup y = some .local)
    (hw : swappedStores [.Tuple [.Name x px, .Name y py] kt pt] (.Tuple [a, b] k2 pt2) X.env = pure (some [x, y]))
    (hs : swapsWithSole [.Tuple [.Name x px, .Name y py] kt pt] (.Tuple [a, b] k2 pt2) pos.line X.env = pure false := by rfl) :
    SS T X c W (.Assign [.Tuple [.Name x px, .Name y py] kt pt] (.Tuple [a, b] k2 pt2) pos) (parM i j ms) := by
  refine ⟨fun st o σ H F D R q => tWS_of (ps_par hc hN hi hj hij hx hy pa_tW hw hs) ?_⟩
  refine ha.run st o σ H F _ R ((PS1.bnd q).imp fun ts o1 s1 H1 F1 e1 R1 p1 vs tvs => ?_)
  obtain ⟨ds, hds, p2⟩ := p1.lf
  have rp := vlsO_rp tvs hds
  cases eb : bindAll [i, j] ds s1 with
  | none => simp only [eb] at p2; exact p2.elim
  | some st' =>
    simp only [eb] at p2
    match ds, rp, eb with
    | [d1, d2], rp, eb =>
      unfold RpL at rp
      obtain ⟨v, vs', rfl, r1, rp⟩ := rp
      unfold RpL at rp
      obtain ⟨w, vs'', rfl, r2, rp⟩ := rp
      unfold RpL at rp
      subst rp
      simp only [bindAll] at eb
      obtain ⟨t1, g1, eb⟩ := Option.bind_eq_some_iff.mp eb
      obtain ⟨t2, g2, eb⟩ := Option.bind_eq_some_iff.mp eb
      cases eb
      exact ⟨v, w, rfl, p2 o1 _ H1 F1 (Ex.refl F1) (bind1_ok (bind1_ok R1 r1 g1) r2 g2)⟩
    | [], rp, eb => simp [bindAll] at eb
    | [d1], rp, eb =>
      simp only [bindAll] at eb
      obtain ⟨t1, g1, eb⟩ := Option.bind_eq_some_iff.mp eb
      cases eb
    | d1 :: d2 :: d3 :: ds, rp, eb =>
      simp only [bindAll] at eb
      obtain ⟨t1, g1, eb⟩ := Option.bind_eq_some_iff.mp eb
      obtain ⟨t2, g2, eb⟩ := Option.bind_eq_some_iff.mp eb
      cases eb
/-! x op= e, an int -/
def augM (i : Nat) (f : D → D → Option T1) (m : M T1) : M Flw := M.bnd (pk i) fun x => M.bnd m fun y => M.bnd (rv x) fun dx => M.bnd (rv y) fun dy => M.bnd (lf (f dx dy)) fun t => stoM i t
theorem ss_aug {i : Nat} {x : Str} {e : Expr} {me : M T1} {op : Operator} {f : D → D → Option T1} {pos' : Pos} (hop : OpS T X (inplaceOp op) f) (h : SE T X c W e me) (hN : X.N.Nodup) (hi : X.N[i]? = some x) (hx : Loc X.env.scope x) (hf : X.fn x = true ∨ X.env.scope.names.lookup x = some .local := by first | exact .inl rfl | exact .inr rfl | assumption) :
    SS T X c W (.AugAssign (.Name x pos') op e pos) (augM i f me) := by
  refine ⟨fun st o σ H F D R q => tWS_of (ps_aug (ti := rW X (inplaceOp op)) hN hi hx pe_tW (fun pins s σ H x y v u Q I rx ry h => h pins s σ v u I rx ry) hf) ?_⟩
  have q1 := PS1.bnd (σ := σ) q
  have pkv : ∃ v, σ[i]? = some (some v) ∧ PS1 X.K T c W F D (M.bnd me (fun y => M.bnd (rv (.pk i)) fun dx => M.bnd (rv y) fun dy => M.bnd (lf (f dx dy)) fun t => stoM i t) st) := by
    unfold pk at q1
    cases es : st[i]? with
    | none => rw [es] at q1; exact q1.elim
    | some x =>
      rw [es] at q1
      cases x with
      | un => exact q1.elim
      | fix => exact q1.elim
      | val d =>
        obtain ⟨v, h1, h2⟩ := R.val i d es
        exact ⟨v, h1, q1 o H F (Ex.refl F) R⟩
      | own r d =>
        obtain ⟨h1, _⟩ := R.own i r d es
        exact ⟨_, h1, q1 o H F (Ex.refl F) R⟩
  obtain ⟨v, hv, q2⟩ := pkv
  refine ⟨v, hv, ?_⟩
  refine h.run st o σ H F _ R ((PS1.bnd q2).imp fun y o1 s1 H1 F1 e1 R1 p1 w tr => ?_)
  obtain ⟨F2, e2, R2, tr2⟩ := R1.fz tr
  have p1 := PS1.ext e2 p1
  have p2 : PostR X.K T c W σ F2 (fun (r : Fw.D × Fw.D) _ s2 _ F3 => PS1 X.K T c W F3 D (M.bnd (lf (f r.1 r.2)) (fun t => stoM i t) s2)) (M.bnd (rv (fz (.pk i))) (fun dx => M.bnd (rv (fz y)) fun dy => M.ret (dx, dy)) s1) := by
    have e : M.bnd (rv (.pk i)) (fun dx => M.bnd (rv y) fun dy => M.bnd (lf (f dx dy)) fun t => stoM i t) s1 = M.bnd (M.bnd (rv (fz (.pk i))) (fun dx => M.bnd (rv (fz y)) fun dy => M.ret (dx, dy))) (fun r => M.bnd (lf (f r.1 r.2)) fun t => stoM i t) s1 := by
      rw [rv_fz, rv_fz]
      unfold M.bnd M.ret
      cases rv (.pk i) s1 with
      | ok dx s2 =>
        simp only
        cases rv y s2 <;> rfl
      | exc e s => rfl
      | no => rfl
    rw [e] at p1
    exact PS1.bnd p1
  obtain ⟨dx, sx, p3⟩ := rv_see R2 (t := .pk i) hv p2
  obtain ⟨dy, sy, p4⟩ := rv_see R2 tr2 p3
  have p5 := p4 o1 H1 F2 (Ex.refl F2) R2
  obtain ⟨t, ht, p6⟩ := p5.lf
  exact hop.rW R2.sub sx sy ht fun z H' pr => let ⟨R3, tr3⟩ := pr.tr R2; sto_ok R3 tr3 p6
end

/-! ### what a for walks -/
structure Wk (K : PySem.W.Frag) (T : Tb) (F : Hp) (J : It) (ds : List D) : Prop where
  stop : ∀ i H, Ex F H → ds.length ≤ i → J.stop i H
  go : ∀ i H, Ex F H → i < ds.length → J.go i H
  yld : ∀ i H x H', Ex F H → i < ds.length → J.yld i H x H' → Ex H H' ∧ ∃ d, ds[i]? = some d ∧ (Rp K T F d x ∨ ∃ p xs es, x = .ref p ∧ H p = none ∧ H' p = some (.tup xs) ∧ d = .tup es ∧ RpL K T F es xs)
theorem Wk.mono {K : PySem.W.Frag} {T : Tb} {F F' : Hp} {J : It} {ds : List D} (e : Ex F F') (h : Wk K T F J ds) : Wk K T F' J ds :=
  ⟨fun i H s l => h.stop i H (e.trans s) l, fun i H s l => h.go i H (e.trans s) l, fun i H x H' s l y => by
    obtain ⟨a, d, b, r⟩ := h.yld i H x H' (e.trans s) l y
    refine ⟨a, d, b, ?_⟩
    rcases r with r | ⟨p, xs, es, h1, h2, h3, h4, h5⟩
    · exact .inl (r.mono e)
    · exact .inr ⟨p, xs, es, h1, h2, h3, h4, h5.mono e⟩⟩
def wW (X : Cx) (tg iter : Expr) : TI := fun σ H R => ∀ (pins : List (Addr × Obj)) (s : Shared), Inv X pins σ H s → wpAny (model X.prog X.w) X.A (eval iter X.env) (fun v s1 => wpAny (model X.prog X.w) X.A (pyIter v) (PIE X pins σ tg R) X.xe s1) X.xe s
theorem pi_wW {X : Cx} {tg iter : Expr} : PI X tg iter (wW X tg iter) := ⟨fun pins s σ H R I h => h pins s I⟩
theorem wW_of {X : Cx} {tg iter : Expr} {wi : TI} (p : PI X tg iter wi) {σ : L2.St} {H : Hp} {R : It → Hp → Prop} (h : wi σ H R) : wW X tg iter σ H R := fun pins s I => p.run pins s σ H R I h
structure SI (T : Tb) (X : Cx) (c : Fc) (W : WX) (tg iter : Expr) (m : M (List D)) : Prop where
  run : ∀ (st : Sl) (o : Nat → Addr) (σ : L2.St) (H F : Hp) (Q : It → Hp → Prop), Rel X.K T c o st σ H F → PostR X.K T c W σ F (fun ds _ _ H' F' => ∀ J, Wk X.K T F' J ds → Q J H') (m st) → wW X tg iter σ H Q
def seqD : D → Option (List D)
  | .lst ds => some ds
  | .tup ds => some ds
  | .str x => some (x.cps.toList.map fun k => .str ⟨#[k]⟩)
  | _ => none
def onVl (t : T1) : M D := match t with
  | .vl d => M.ret d
  | .fr d => M.ret d
  | .pk _ => stk
def seqI (m : M T1) : M (List D) := M.bnd m fun t => M.bnd (onVl t) fun d => lf (seqD d)
section
variable {T : Tb} {X : Cx} {c : Fc} {W : WX} {pos p apos p2 : Pos} {tg iter : Expr}
theorem wk_list {K : PySem.W.Frag} {F : Hp} {a : Addr} {vs : List V} {ds : List D} (h : SqL K F a vs) (r : RpL K T F ds vs) : Wk K T F (Itl K a) ds := by
  refine ⟨fun i H s l => ⟨vs, ex_l s h, by rw [r.len]; exact l⟩, fun i H s l => ?_, fun i H x H' s l y => ?_⟩
  · have hi : i < vs.length := by rw [r.len]; exact l
    exact ⟨vs, vs[i], ex_l s h, List.getElem?_eq_getElem hi⟩
  · obtain ⟨rfl, y⟩ := y
    have y := y vs (ex_l s h)
    obtain ⟨d, h1, h2⟩ := r.getV y
    exact ⟨Ex.refl _, d, h1, .inl h2⟩
theorem wk_tup {K : PySem.W.Frag} {F : Hp} {a : Addr} {vs : List V} {ds : List D} (h : SqT K F a vs) (r : RpL K T F ds vs) : Wk K T F (Itt K a) ds := by
  refine ⟨fun i H s l => ⟨vs, ex_t s h, by rw [r.len]; exact l⟩, fun i H s l => ?_, fun i H x H' s l y => ?_⟩
  · have hi : i < vs.length := by rw [r.len]; exact l
    exact ⟨vs, vs[i], ex_t s h, List.getElem?_eq_getElem hi⟩
  · obtain ⟨rfl, y⟩ := y
    have y := y vs (ex_t s h)
    obtain ⟨d, h1, h2⟩ := r.getV y
    exact ⟨Ex.refl _, d, h1, .inl h2⟩
theorem wk_str {K : PySem.W.Frag} {F : Hp} {x : Str} : Wk K T F (Its x) (x.cps.toList.map fun k => .str ⟨#[k]⟩) := by
  refine ⟨fun i H s l => by show x.cps.size ≤ i; simpa using l, fun i H s l => by show i < x.cps.size; simpa using l, fun i H v H' s l y => ?_⟩
  obtain ⟨rfl, k, h1, rfl⟩ := y
  refine ⟨Ex.refl _, .str ⟨#[k]⟩, ?_, .inl (by unfold Rp; rfl)⟩
  rw [List.getElem?_map, Array.getElem?_toList, h1]
  rfl
theorem wk_rng {K : PySem.W.Frag} {F : Hp} {lo : Int} {n : Nat} : Wk K T F (Itr lo n) ((List.range n).map fun (i : Nat) => D.int (lo + (i : Int))) := by
  refine ⟨fun i H s l => by show n ≤ i; simpa using l, fun i H s l => by show i < n; simpa using l, fun i H v H' s l y => ?_⟩
  obtain ⟨rfl, rfl⟩ := y
  refine ⟨Ex.refl _, .int (lo + i), ?_, .inl (by unfold Rp; rfl)⟩
  have l : i < n := by simpa using l
  rw [List.getElem?_map, List.getElem?_range l]
  rfl
theorem pi_or {tg iter : Expr} {w1 w2 : TI} (h1 : PI X tg iter w1) (h2 : PI X tg iter w2) : PI X tg iter (fun σ H R => w1 σ H R ∨ w2 σ H R) := ⟨fun pins s σ H R I h => h.elim (h1.run pins s σ H R I) (h2.run pins s σ H R I)⟩
theorem si_seq {m : M T1} (h : SE T X c W iter m) : SI T X c W tg iter (seqI m) := by
  refine ⟨fun st o σ H F R0 R p => ?_⟩
  have p1 := PostR.bnd p
  -- what the value will be tells how it is walked
  have run : ∀ (Q : VK), (∀ t o' st' H' F' d v, Ex F F' → Rel X.K T c o' st' σ H' F' → m st = .ok t st' → onVl t = M.ret d → Rp X.K T F' d v → PostR X.K T c W σ F' (fun ds _ _ H' F' => ∀ J, Wk X.K T F' J ds → R0 J H') (lf (seqD d) st') → Q v H') → tW X iter σ H Q := fun Q k => by
    cases hm : m st with
    | no => rw [hm] at p1; exact p1.elim
    | exc e st' =>
      rw [hm] at p1
      exact h.run st o σ H F Q R (by rw [hm]; exact p1)
    | ok t st' =>
      rw [hm] at p1
      refine h.run st o σ H F Q R ?_
      rw [hm]
      intro o1 H1 F1 e1 R1 v tr
      have p2 := p1 o1 H1 F1 e1 R1
      obtain ⟨F2, e2, R2, tr2⟩ := R1.fz tr
      have p2 := PostR.ext e2 p2
      cases t with
      | pk i => exact p2.elim
      | vl d => exact k _ o1 st' H1 F2 d v (e1.trans e2) R2 hm rfl tr2 p2
      | fr d => exact k _ o1 st' H1 F2 d v (e1.trans e2) R2 hm rfl tr2 p2
  cases hm : m st with
  | no => rw [hm] at p1; exact p1.elim
  | exc e st' => exact wW_of (pi_list pe_tW) (run _ fun t o' st' H' F' d v _ _ z => by rw [hm] at z; cases z)
  | ok t st' =>
    have same : ∀ {t' st'' d}, m st = .ok t' st'' → onVl t' = M.ret d → onVl t = M.ret d := fun {t' st'' d} z z2 => by
      rw [hm] at z
      cases z
      exact z2
    have inj : ∀ {d d' : D}, (M.ret d : M D) = M.ret d' → d = d' := fun {d d'} z => by
      have := congrFun z []
      cases this
      rfl
    have go : ∀ d0, onVl t = M.ret d0 → wW X tg iter σ H R0 := fun d0 h0 => by
      cases d0 with
      | lst ds =>
        refine wW_of (pi_list pe_tW) (run _ fun t' o' s1 H' F' d v e1 R' z z2 rp p3 => ?_)
        have := inj ((same z z2).symm.trans h0)
        subst this
        have see : See X.K T F' H' (.lst ds) v := .inl rp
        unfold Rp at rp
        obtain ⟨a, vs, rfl, h1, h2⟩ := rp
        exact ⟨a, rfl, ⟨vs, SqL.of (R'.sub _ _ h1)⟩, p3 o' H' F' (Ex.refl F') R' _ (wk_list (SqL.of h1) h2)⟩
      | tup ds =>
        refine wW_of (pi_tup pe_tW) (run _ fun t' o' s1 H' F' d v e1 R' z z2 rp p3 => ?_)
        have := inj ((same z z2).symm.trans h0)
        subst this
        unfold Rp at rp
        obtain ⟨a, vs, rfl, h1, h2⟩ := rp
        exact ⟨a, rfl, ⟨vs, ex_t R'.sub h1⟩, p3 o' H' F' (Ex.refl F') R' _ (wk_tup h1 h2)⟩
      | str x =>
        refine wW_of (pi_str pe_tW) (run _ fun t' o' s1 H' F' d v e1 R' z z2 rp p3 => ?_)
        have := inj ((same z z2).symm.trans h0)
        subst this
        unfold Rp at rp
        exact ⟨x, rp, p3 o' H' F' (Ex.refl F') R' _ wk_str⟩
      | _ =>
        refine wW_of (pi_list pe_tW) (run _ fun t' o' s1 H' F' d v e1 R' z z2 rp p3 => ?_)
        have := inj ((same z z2).symm.trans h0)
        subst this
        exact p3.elim
    cases t with
    | vl d => exact go d rfl
    | fr d => exact go d rfl
    | pk i =>
      refine wW_of (pi_list pe_tW) (run _ fun t' o' s1 H' F' d v e1 R' z z2 rp p3 => ?_)
      rw [hm] at z
      cases z
      have := congrFun z2 []
      cases this
/-! range -/
def rngD1 : List D → Option (List D)
  | [.int n] => if -(2 ^ 62) ≤ n ∧ n < 2 ^ 62 then some ((List.range n.toNat).map fun (i : Nat) => D.int (0 + (i : Int))) else none
  | _ => none
def rngD2 : List D → Option (List D)
  | [.int l, .int n] => if -(2 ^ 62) ≤ l ∧ l < 2 ^ 62 ∧ -(2 ^ 62) ≤ n ∧ n < 2 ^ 62 then some ((List.range (n - l).toNat).map fun (i : Nat) => D.int (l + (i : Int))) else none
  | _ => none
def rngI (f : List D → Option (List D)) (ms : List (M T1)) : M (List D) := M.bnd (argsM ms) fun ts => M.bnd (rvs ts) fun ds => lf (f ds)
theorem si_rng1 {a : Expr} {m : M T1} (h : SA T X c W [a] (argsM [m])) (hg : Gl X "range") (hm : X.mg "range" = none) (hs : starEach [a] X.env = [(false, eval a X.env)] := by rfl) : SI T X c W tg (.Call (.Name "range" p) [a] [] pos) (rngI rngD1 [m]) := by
  refine ⟨fun st o σ H F R0 R q => wW_of (pi_range1 hg hm pa_tW hs) ?_⟩
  refine h.run st o σ H F _ R ((PostR.bnd q).imp fun ts o1 s1 H1 F1 e1 R1 p1 vs tvs => ?_)
  obtain ⟨ds, sds, p2⟩ := rvs_see R1 tvs p1
  obtain ⟨r, hr, p3⟩ := p2.lf
  match ds, vs, sds, hr with
  | [.int n], [v], sds, hr =>
    cases sds.1.int
    have hr : (if -(2 ^ 62) ≤ n ∧ n < 2 ^ 62 then some ((List.range n.toNat).map fun (i : Nat) => D.int (0 + (i : Int))) else none) = some r := hr
    by_cases hn : -(2 ^ 62) ≤ n ∧ n < 2 ^ 62
    · rw [if_pos hn] at hr
      cases hr
      exact ⟨n, rfl, hn.1, hn.2, p3 o1 H1 F1 (Ex.refl F1) R1 _ wk_rng⟩
    · rw [if_neg hn] at hr
      cases hr
theorem si_rng2 {a b : Expr} {m m' : M T1} (h : SA T X c W [a, b] (argsM [m, m'])) (hg : Gl X "range") (hm : X.mg "range" = none) (pi : ∀ {t}, PA X [a, b] t → PI X tg (.Call (.Name "range" p) [a, b] [] pos) (iRng2 t)) : SI T X c W tg (.Call (.Name "range" p) [a, b] [] pos) (rngI rngD2 [m, m']) := by
  refine ⟨fun st o σ H F R0 R q => wW_of (pi pa_tW) ?_⟩
  refine h.run st o σ H F _ R ((PostR.bnd q).imp fun ts o1 s1 H1 F1 e1 R1 p1 vs tvs => ?_)
  obtain ⟨ds, sds, p2⟩ := rvs_see R1 tvs p1
  obtain ⟨r, hr, p3⟩ := p2.lf
  match ds, vs, sds, hr with
  | [.int l, .int n], [v, w], sds, hr =>
    cases sds.1.int
    cases sds.2.1.int
    have hr : (if -(2 ^ 62) ≤ l ∧ l < 2 ^ 62 ∧ -(2 ^ 62) ≤ n ∧ n < 2 ^ 62 then some ((List.range (n - l).toNat).map fun (i : Nat) => D.int (l + (i : Int))) else none) = some r := hr
    by_cases hn : -(2 ^ 62) ≤ l ∧ l < 2 ^ 62 ∧ -(2 ^ 62) ≤ n ∧ n < 2 ^ 62
    · rw [if_pos hn] at hr
      cases hr
      exact ⟨l, n, rfl, hn, p3 o1 H1 F1 (Ex.refl F1) R1 _ wk_rng⟩
    · rw [if_neg hn] at hr
      cases hr
end

/-! ### for, while -/
def forD (tg : Tg) (body : M Flw) : List D → M Flw
  | [] => nxM
  | d :: ds => fun st => match bindT tg d st with
    | none => .no
    | some s1 => match body s1 with
      | .ok .nx s2 => forD tg body ds s2
      | .ok .ct s2 => forD tg body ds s2
      | .ok .bk s2 => .ok .nx s2
      | .ok (.rt t) s2 => .ok (.rt t) s2
      | .exc e s2 => .exc e s2
      | .no => .no
def forM (tg : Tg) (it : M (List D)) (body : M Flw) : M Flw := M.bnd it (forD tg body)
def whlD (t : M Bool) (body : M Flw) : Nat → M Flw
  | 0 => stk
  | n + 1 => M.bnd t fun b => if b = true then (fun st => match body st with
      | .ok .nx s2 => whlD t body n s2
      | .ok .ct s2 => whlD t body n s2
      | .ok .bk s2 => .ok .nx s2
      | .ok (.rt t) s2 => .ok (.rt t) s2
      | .exc e s2 => .exc e s2
      | .no => .no) else nxM
section
variable {T : Tb} {X : Cx} {c : Fc} {W : WX} {pos p apos p2 : Pos} {tg iter : Expr} {body : List Stmt} {t : Tg} {mi : M (List D)} {mb : M Flw}
theorem for_wk {K : PySem.W.Frag} {J : It} {ds : List Fw.D} {F1 : Hp} {g : TG} {tb : TS} {D : Ends} {σ : L2.St} {H : Hp} (wk : Wk K T F1 J ds) (Pv : Nat → L2.St → Hp → Prop) (h0 : Pv 0 σ H) (hx : ∀ i σ H, Pv i σ H → Ex F1 H)
    (hs : ∀ i x d σ H H', ds[i]? = some d → Pv i σ H → Ex H H' → (Rp K T F1 d x ∨ ∃ p xs es, x = .ref p ∧ H p = none ∧ H' p = some (.tup xs) ∧ d = .tup es ∧ RpL K T F1 es xs) → g x σ H' fun σ2 H2 => tb { D with nx := Pv (i + 1), ct := Pv (i + 1), bk := D.nx } σ2 H2)
    (hd : ∀ σ H, Pv ds.length σ H → D.nx σ H) :
    ∃ W : Nat → Nat → L2.St → Hp → Prop, (∃ m, W 0 m σ H) ∧ ∀ i m σ H, W i m σ H →
      (J.stop i H ∧ D.nx σ H) ∨ (J.go i H ∧ ∃ N : L2.St → Hp → Prop, (∀ σ' H', N σ' H' → ∃ m', m' < m ∧ W (i + 1) m' σ' H') ∧ ∀ x H', J.yld i H x H' → g x σ H' fun σ2 H2 => tb { D with nx := N, ct := N, bk := D.nx } σ2 H2) := by
  refine ⟨fun i m σ H => m = ds.length - i ∧ i ≤ ds.length ∧ Pv i σ H, ⟨ds.length, by simp, Nat.zero_le _, h0⟩, ?_⟩
  rintro i m σ H ⟨rfl, hi, p⟩
  have ex := hx i σ H p
  by_cases hlt : i < ds.length
  · refine .inr ⟨wk.go i H ex hlt, Pv (i + 1), fun σ' H' p' => ⟨ds.length - (i + 1), by omega, rfl, hlt, p'⟩, fun x H' y => ?_⟩
    obtain ⟨e, d, hd', r⟩ := wk.yld i H x H' ex hlt y
    exact hs i x d σ H H' hd' p e r
  · have : i = ds.length := by omega
    subst this
    exact .inl ⟨wk.stop _ H ex (Nat.le_refl _), hd σ H p⟩
/-- the item of a turn stands frozen -/
theorem Rel.item {K : PySem.W.Frag} {o : Nat → Addr} {st : Sl} {σ : L2.St} {H H' F F1 : Hp} {d : Fw.D} {x : V} (R : Rel K T c o st σ H F) (e1 : Ex F1 F) (e : Ex H H') (h : Rp K T F1 d x ∨ ∃ p xs es, x = .ref p ∧ H p = none ∧ H' p = some (.tup xs) ∧ d = .tup es ∧ RpL K T F1 es xs) :
    ∃ F', Ex F F' ∧ Rel K T c o st σ H' F' ∧ Rp K T F' d x := by
  rcases h with h | ⟨p, xs, es, rfl, h1, h2, rfl, h3⟩
  · exact ⟨F, Ex.refl F, R.ext e, h.mono e1⟩
  · have pr : PR K T F H (.fr (.tup es)) (.ref p) H' := ⟨e, p, _, rfl, h1, h2, xs, rfl, h3.mono e1⟩
    obtain ⟨R2, tr⟩ := pr.tr R
    obtain ⟨F', e', R3, tr3⟩ := R2.fz tr
    exact ⟨F', e', R3, tr3⟩
theorem PS1.loop {K : PySem.W.Frag} {F F0 : Hp} {D : Ends} {N : L2.St → Hp → Prop} {r : Res Flw} {k : Sl → Res Flw} (e0 : Ex F0 F) (h : PS1 K T c W F D (match r with
      | .ok .nx s2 => k s2
      | .ok .ct s2 => k s2
      | .ok .bk s2 => .ok .nx s2
      | .ok (.rt t) s2 => .ok (.rt t) s2
      | .exc e s2 => .exc e s2
      | .no => .no)) (n : ∀ st' o' σ' H' F', Ex F F' → Rel K T c o' st' σ' H' F' → PS1 K T c W F' D (k st') → N σ' H') : PS1 K T c W F { D with nx := N, ct := N, bk := D.nx } r := by
  cases r with
  | ok f st' =>
    cases f with
    | nx => exact fun o' σ' H' F' e R => n st' o' σ' H' F' e R (PS1.ext e h)
    | ct => exact fun o' σ' H' F' e R => n st' o' σ' H' F' e R (PS1.ext e h)
    | bk => exact h
    | rt t => exact h
  | exc x st' => exact h
  | no => exact h
theorem ss_for (hp : PassesOwn (model X.prog X.w) X.A X.env X.xe) (hc : X.calm = true) (hi : SI T X c W tg iter mi) (hg : STg T X tg t) (hb : SB T X c W body mb) (hs : ∀ x, foldedSetIterable iter X.env x = pure x := by intro _; rfl) : SS T X c W (.For tg iter body [] pos) (forM t mi mb) := by
  refine ⟨fun st o σ H F D R q => tWS_of (ps_for hp hc pi_wW pg_gW pss_tW hs) ?_⟩
  refine hi.run st o σ H F _ R ((PS1.bnd q).imp fun ds o1 s1 H1 F1 e1 R1 p1 J wk => ?_)
  refine for_wk wk (fun i σ' H' => ∃ st' o' F', Ex F1 F' ∧ Rel X.K T c o' st' σ' H' F' ∧ PS1 X.K T c W F' D (forD t mb (ds.drop i) st')) ⟨s1, o1, F1, Ex.refl F1, R1, p1⟩ (fun i σ' H' ⟨st', o', F', e, R', _⟩ => e.trans R'.sub) (fun i x d σ' H' H2 hd ⟨st', o', F', e, R', p'⟩ eH rp => ?_) (fun σ' H' ⟨st', o', F', e, R', p'⟩ => ?_)
  · obtain ⟨F2, e2, R2, rp2⟩ := R'.item e eH rp
    have hi' := (List.getElem?_eq_some_iff.mp hd).1
    have ed : ds.drop i = d :: ds.drop (i + 1) := by
      rw [List.drop_eq_getElem_cons hi']
      have := (List.getElem?_eq_some_iff.mp hd).2
      rw [this]
    rw [ed] at p'
    have p' := PS1.ext e2 p'
    simp only [forD] at p'
    cases eb : bindT t d st' with
    | none => rw [eb] at p'; exact p'.elim
    | some s2 =>
      rw [eb] at p'
      refine hg.run c st' s2 o' σ' H2 F2 d x _ R2 rp2 eb fun σ2 R3 _ => ?_
      refine hb.run s2 o' σ2 H2 F2 _ R3 (PS1.loop (F0 := F2) (Ex.refl F2) p' fun st4 o4 σ4 H4 F4 e4 R4 p4 => ⟨st4, o4, F4, (e.trans e2).trans e4, R4, p4⟩)
  · rw [List.drop_length] at p'
    exact p' o' σ' H' F' (Ex.refl F') R'
theorem ss_whl {tst : Expr} {mt : M Bool} {n : Nat} (hp : PassesOwn (model X.prog X.w) X.A X.env X.xe) (ht : ST T X c W tst mt) (hb : SB T X c W body mb) : SS T X c W (.While tst body [] pos) (whlD mt mb n) := by
  refine ⟨fun st o σ H F D R q => tWS_of (ps_while hp pt_tW pss_tW) ?_⟩
  refine ⟨fun m σ' H' => ∃ st' o' F', Rel X.K T c o' st' σ' H' F' ∧ PS1 X.K T c W F' D (whlD mt mb m st'), ⟨n, st, o, F, R, q⟩, ?_⟩
  rintro m σ' H' ⟨st', o', F', R', p'⟩
  cases m with
  | zero => exact p'.elim
  | succ m =>
    refine ht.run st' o' σ' H' F' _ R' ((PS1.bnd p').imp fun b o1 s1 H1 F1 e1 R1 p1 => ?_)
    cases b with
    | false => exact p1 o1 σ' H1 F1 (Ex.refl F1) R1
    | true =>
      simp only [if_true] at p1 ⊢
      refine ⟨fun σ2 H2 => ∃ st2 o2 F2, Rel X.K T c o2 st2 σ2 H2 F2 ∧ PS1 X.K T c W F2 D (whlD mt mb m st2), fun σ2 H2 ⟨st2, o2, F2, R2, p2⟩ => ⟨m, Nat.lt_succ_self m, st2, o2, F2, R2, p2⟩, ?_⟩
      exact hb.run s1 o1 σ' H1 F1 _ R1 (PS1.loop (F0 := F1) (Ex.refl F1) p1 fun st4 o4 σ4 H4 F4 e4 R4 p4 => ⟨st4, o4, F4, R4, p4⟩)
end
end Fw
end

section
set_option maxRecDepth 100000
set_option maxHeartbeats 2000000
namespace Fw
open PySem PySem.Spec PyProof.Rows L2

/-! ### comprehensions -/
def wipeS (vs : List Nat) (st : Sl) : Sl := vs.foldr (fun v s => s.set v Slot.un) st
def notOwn (st : Sl) (v : Nat) : Bool := match st[v]? with
  | some (Slot.own _ _) => false
  | _ => true
def backS (st : Sl) (vs : List Nat) (st' : Sl) : Sl := vs.foldr (fun v s => match st[v]? with
  | some x => s.set v x
  | none => s) st'
def lcR (vs : List Nat) (tg : Tg) (cond : M Bool) (elt : M T1) : List D → M (List D)
  | [] => M.ret []
  | d :: ds => fun st => match bindT tg d st with
    | none => .no
    | some s1 => match cond s1 with
      | .ok true s2 => match elt s2 with
        | .ok (.vl x) s3 => M.bnd (lcR vs tg cond elt ds) (fun r => M.ret (x :: r)) (wipeS vs s3)
        | .ok (.fr x) s3 => M.bnd (lcR vs tg cond elt ds) (fun r => M.ret (x :: r)) (wipeS vs s3)
        | _ => .no
      | .ok false s2 => lcR vs tg cond elt ds (wipeS vs s2)
      | _ => .no
def lcM (vs : List Nat) (tg : Tg) (it : M (List D)) (cond : M Bool) (elt : M T1) : M T1 := M.bnd it fun ds => fun st =>
  if ds.length ≤ 1000000 ∧ vs.all (notOwn st) = true then match lcR vs tg cond elt ds (wipeS vs st) with
    | .ok r s' => .ok (.fr (.lst r)) (backS st vs s')
    | _ => .no
  else .no
def yesM : M Bool := M.ret true

theorem wipe_get {σ : L2.St} : ∀ {vs : List Nat} {j : Nat}, (wipe σ vs)[j]? = if j ∈ vs then σ[j]?.map (fun _ => none) else σ[j]?
  | [], j => by simp [wipe]
  | v :: vs, j => by
    unfold wipe
    by_cases hj : j = v
    · subst hj
      by_cases hl : j < σ.length
      · rw [List.getElem?_set_self (by rw [wipe_length]; exact hl), if_pos List.mem_cons_self, List.getElem?_eq_getElem hl]
        rfl
      · rw [List.getElem?_eq_none (by rw [List.length_set, wipe_length]; omega), if_pos List.mem_cons_self, List.getElem?_eq_none (by omega)]
        rfl
    · rw [List.getElem?_set_ne (Ne.symm hj), wipe_get]
      simp [hj]
theorem wipe_wipe {σ : L2.St} {vs : List Nat} : wipe (wipe σ vs) vs = wipe σ vs := by
  apply List.ext_getElem?
  intro j
  rw [wipe_get, wipe_get]
  by_cases h : j ∈ vs
  · simp [h]
    cases σ[j]? <;> rfl
  · simp [h]
theorem wipe_set {σ : L2.St} {vs : List Nat} {i : Nat} {x : Option V} (h : i ∈ vs) : wipe (σ.set i x) vs = wipe σ vs := by
  apply List.ext_getElem?
  intro j
  rw [wipe_get, wipe_get]
  by_cases hj : j ∈ vs
  · simp only [if_pos hj]
    by_cases e : j = i
    · subst e
      by_cases hl : j < σ.length
      · rw [List.getElem?_set_self hl, List.getElem?_eq_getElem hl]
        rfl
      · rw [List.getElem?_eq_none (by rw [List.length_set]; omega), List.getElem?_eq_none (by omega)]
    · rw [List.getElem?_set_ne (Ne.symm e)]
  · simp only [if_neg hj]
    rw [List.getElem?_set_ne (fun z => hj (by rw [← z]; exact h))]
theorem wipe_fold {vs : List Nat} : ∀ {ws : List (Nat × V)} {σ : L2.St}, (∀ p ∈ ws, p.1 ∈ vs) → wipe (ws.foldl (fun s p => s.set p.1 (some p.2)) σ) vs = wipe σ vs
  | [], σ, _ => rfl
  | p :: ws, σ, h => by
    simp only [List.foldl_cons]
    rw [wipe_fold (fun q hq => h q (List.mem_cons_of_mem _ hq)), wipe_set (h p List.mem_cons_self)]
theorem wipeS_get {st : Sl} : ∀ {vs : List Nat} {j : Nat}, (wipeS vs st)[j]? = if j ∈ vs then st[j]?.map (fun _ => Slot.un) else st[j]?
  | [], j => by simp [wipeS]
  | v :: vs, j => by
    have ih := wipeS_get (st := st) (vs := vs) (j := j)
    have hlen : ∀ vs : List Nat, (wipeS vs st).length = st.length := fun vs => by
      induction vs with
      | nil => rfl
      | cons v vs ih => simpa [wipeS] using ih
    show ((wipeS vs st).set v Slot.un)[j]? = _
    by_cases hj : j = v
    · subst hj
      by_cases hl : j < st.length
      · rw [List.getElem?_set_self (by rw [hlen]; exact hl), if_pos List.mem_cons_self, List.getElem?_eq_getElem hl]
        rfl
      · rw [List.getElem?_eq_none (by rw [List.length_set, hlen]; omega), if_pos List.mem_cons_self, List.getElem?_eq_none (by omega)]
        rfl
    · rw [List.getElem?_set_ne (Ne.symm hj), ih]
      simp [hj]
theorem wipeS_len {st : Sl} {vs : List Nat} : (wipeS vs st).length = st.length := by
  induction vs with
  | nil => rfl
  | cons v vs ih => simpa [wipeS] using ih
theorem backS_len {st st' : Sl} {vs : List Nat} : (backS st vs st').length = st'.length := by
  induction vs with
  | nil => rfl
  | cons v vs ih =>
    show (match st[v]? with | some x => (backS st vs st').set v x | none => backS st vs st').length = _
    cases st[v]? with
    | none => exact ih
    | some x => simpa using ih
theorem backS_get {st st' : Sl} (hl : st'.length = st.length) : ∀ {vs : List Nat} {j : Nat}, (backS st vs st')[j]? = if j ∈ vs then st[j]? else st'[j]?
  | [], j => by simp [backS]
  | v :: vs, j => by
    have ih := backS_get hl (vs := vs) (j := j)
    show (match st[v]? with | some x => (backS st vs st').set v x | none => backS st vs st')[j]? = _
    by_cases hj : j = v
    · subst hj
      rw [if_pos List.mem_cons_self]
      cases e : st[j]? with
      | none =>
        have := List.getElem?_eq_none_iff.mp e
        simp only
        rw [List.getElem?_eq_none]
        rw [backS_len, hl]
        exact this
      | some x =>
        simp only
        have := (List.getElem?_eq_some_iff.mp e).1
        rw [List.getElem?_set_self (by rw [backS_len, hl]; exact this)]
    · cases e : st[v]? with
      | none => simp only [ih]; simp [hj]
      | some x =>
        simp only
        rw [List.getElem?_set_ne (Ne.symm hj), ih]
        simp [hj]
section
variable {T : Tb} {X : Cx} {c : Fc} {W : WX} {pos p apos p2 : Pos}
theorem Rel.wipe {K : PySem.W.Frag} {o : Nat → Addr} {st : Sl} {σ σ' : L2.St} {H F : Hp} {vs : List Nat} (R : Rel K T c o st σ H F) (hs : σ' = L2.wipe σ vs) : Rel K T c o (wipeS vs st) σ' H F := by
  subst hs
  have get : ∀ {j x}, (wipeS vs st)[j]? = some x → x ≠ Slot.un → j ∉ vs ∧ st[j]? = some x := fun {j x} h n => by
    rw [wipeS_get] at h
    by_cases hj : j ∈ vs
    · rw [if_pos hj] at h
      cases e : st[j]? with
      | none => rw [e] at h; cases h
      | some y => rw [e] at h; cases h; exact absurd rfl n
    · rw [if_neg hj] at h
      exact ⟨hj, h⟩
  refine ⟨R.ex0, R.sub, R.dom, R.keep, R.new, fun i d h => ?_, fun i r d h => ?_, fun i j r r' d d' h h' z => R.dis i j r r' d d' (get h (by simp)).2 (get h' (by simp)).2 z, by rw [wipeS_len, wipe_length]; exact R.len, fun a u h => let ⟨k1, k2, k3, k4⟩ := R.tpk a u h; ⟨k1, k2, k3, fun i r d h => k4 i r d (get h (by simp)).2⟩, fun i h => by rw [wipe_get, if_neg (get h (by simp)).1]; exact R.fix i (get h (by simp)).2⟩
  · obtain ⟨n, h⟩ := get h (by simp)
    obtain ⟨v, h1, h2⟩ := R.val i d h
    exact ⟨v, by rw [wipe_get, if_neg n]; exact h1, h2⟩
  · obtain ⟨n, h⟩ := get h (by simp)
    obtain ⟨h1, h2⟩ := R.own i r d h
    exact ⟨by rw [wipe_get, if_neg n]; exact h1, h2⟩
/-- an object at hand is kept as it is -/
theorem Rel.pin {K : PySem.W.Frag} {o : Nat → Addr} {st : Sl} {σ : L2.St} {H F : Hp} {a : Addr} {u : HO} (R : Rel K T c o st σ H F) (ha : H a = none) : Rel K T { c with tp := upd c.tp a u } o st σ (upd H a u) F := by
  have R' := R.ext (Ex.new (o := u) ha)
  refine ⟨R'.ex0, R'.sub, R'.dom, R'.keep, R'.new, R'.val, R'.own, R'.dis, R'.len, fun b w h => ?_, R'.fix⟩
  have h : upd c.tp a u b = some w := h
  by_cases hb : b = a
  · subst hb
    rw [upd_same] at h
    cases h
    exact ⟨upd_same, R.nof ha, R.no0 ha, fun i r d z => R.neO ha z⟩
  · rw [upd_ne hb] at h
    exact R'.tpk b w h
theorem Rel.repin {K : PySem.W.Frag} {o : Nat → Addr} {st : Sl} {σ : L2.St} {H F : Hp} {tp : Hp} {a : Addr} {u u' : HO} (R : Rel K T { c with tp := upd tp a u } o st σ H F) (hn : tp a = none) : Rel K T { c with tp := upd tp a u' } o st σ (upd H a u') F := by
  obtain ⟨k1, k2, k3, k4⟩ := R.tpk a u upd_same
  refine ⟨R.ex0, fun b w h => ?_, fun b w h => ?_, fun b w h n => ?_, R.new, R.val, fun i r d h => ?_, R.dis, R.len, fun b w h => ?_, R.fix⟩
  · rw [upd_ne (fun z => by rw [z, k2] at h; cases h)]
    exact R.sub b w h
  · by_cases hb : b = a
    · rw [hb, upd_same]; exact ⟨_, rfl⟩
    · rw [upd_ne hb]; exact R.dom b w h
  · rw [upd_ne (fun z => by
      have k3 : c.H0 a = none := k3
      have h : c.H0 b = some w := h
      rw [z, k3] at h
      cases h)]
    exact R.keep b w h n
  · obtain ⟨g1, g2, ⟨w, g3, g4⟩, g5⟩ := R.own i r d h
    exact ⟨g1, g2, ⟨w, by rw [upd_ne (k4 i r d h)]; exact g3, g4⟩, g5⟩
  · have h : upd tp a u' b = some w := h
    by_cases hb : b = a
    · subst hb
      rw [upd_same] at h
      cases h
      exact ⟨upd_same, k2, k3, k4⟩
    · rw [upd_ne hb] at h
      obtain ⟨g1, g2, g3, g4⟩ := R.tpk b w (by show upd tp a u b = some w; rw [upd_ne hb]; exact h)
      exact ⟨by rw [upd_ne hb]; exact g1, g2, g3, g4⟩
theorem Rel.unpin {K : PySem.W.Frag} {o : Nat → Addr} {st : Sl} {σ : L2.St} {H F : Hp} {a : Addr} {u : HO} (R : Rel K T { c with tp := upd c.tp a u } o st σ H F) (hn : c.tp a = none) : Rel K T c o st σ H F :=
  ⟨R.ex0, R.sub, R.dom, R.keep, R.new, R.val, R.own, R.dis, R.len, fun b w h => R.tpk b w (by
    show upd c.tp a u b = some w
    rw [upd_ne (fun z => by rw [z, hn] at h; cases h)]
    exact h), R.fix⟩
/-- the slots that the block had for its own are as they were -/
theorem Rel.back {K : PySem.W.Frag} {o0 o : Nat → Addr} {st st' : Sl} {σ : L2.St} {H0 H F0 F : Hp} {vs : List Nat} (R0 : Rel K T c o0 st σ H0 F0) (e : Ex F0 F) (R : Rel K T c o st' (L2.wipe σ vs) H F) (hn : vs.all (notOwn st) = true) (hu : ∀ j ∈ vs, ∀ x, st'[j]? = some x → x = Slot.un) :
    Rel K T c o (backS st vs st') σ H F := by
  have hl : st'.length = st.length := by rw [R.len, wipe_length, R0.len]
  have sg : ∀ {j x}, j ∉ vs → (L2.wipe σ vs)[j]? = x → σ[j]? = x := fun {j x} n h => by rwa [wipe_get, if_neg n] at h
  have own : ∀ {j r d}, (backS st vs st')[j]? = some (Slot.own r d) → j ∉ vs ∧ st'[j]? = some (Slot.own r d) := fun {j r d} h => by
    rw [backS_get hl] at h
    by_cases hj : j ∈ vs
    · rw [if_pos hj] at h
      have := List.all_eq_true.mp hn j hj
      unfold notOwn at this
      rw [h] at this
      cases this
    · rw [if_neg hj] at h
      exact ⟨hj, h⟩
  refine ⟨R.ex0, R.sub, R.dom, R.keep, R.new, fun j d h => ?_, fun j r d h => ?_, fun i j r r' d d' h h' z => R.dis i j r r' d d' (own h).2 (own h').2 z, by rw [backS_len, hl]; exact R0.len, fun a u h => let ⟨k1, k2, k3, k4⟩ := R.tpk a u h; ⟨k1, k2, k3, fun i r d h => k4 i r d (own h).2⟩, fun j h => ?_⟩
  · rw [backS_get hl] at h
    by_cases hj : j ∈ vs
    · rw [if_pos hj] at h
      obtain ⟨v, h1, h2⟩ := R0.val j d h
      exact ⟨v, h1, h2.mono e⟩
    · rw [if_neg hj] at h
      obtain ⟨v, h1, h2⟩ := R.val j d h
      exact ⟨v, sg hj h1, h2⟩
  · obtain ⟨n, h⟩ := own h
    obtain ⟨h1, h2⟩ := R.own j r d h
    exact ⟨sg n h1, h2⟩
  · rw [backS_get hl] at h
    by_cases hj : j ∈ vs
    · rw [if_pos hj] at h
      exact R0.fix j h
    · rw [if_neg hj] at h
      exact sg hj (R.fix j h)

/-! conditions -/
def tWI (X : Cx) (ifs : List Expr) : TT := fun σ H Q => ∀ (pins : List (Addr × Obj)) (s : Shared), Inv X pins σ H s →
    wpAny (model X.prog X.w) X.A (forIn ifs true fun c r => if r = true then do let ok ← isTrue c X.env (eval c X.env); pure (ForInStep.yield ok) else pure (ForInStep.yield r)) (TP X pins σ Q) X.xe s
theorem pts_tWI {X : Cx} {ifs : List Expr} : PTs X ifs (tWI X ifs) := ⟨fun pins s σ H Q I h => h pins s I⟩
structure SC (T : Tb) (X : Cx) (c : Fc) (W : WX) (ifs : List Expr) (m : M Bool) : Prop where
  run : ∀ (st : Sl) (o : Nat → Addr) (σ : L2.St) (H F : Hp) (Q : Bool → Hp → Prop), Rel X.K T c o st σ H F → PostR X.K T c W σ F (fun b _ _ H' _ => Q b H') (m st) → tWI X ifs σ H Q
theorem sc_nil : SC T X c W [] yesM := ⟨fun st o σ H F Q R p pins s I => pts_nil.run pins s σ H Q I (p o H F (Ex.refl F) R)⟩
theorem sc_one {e : Expr} {m : M Bool} (h : ST T X c W e m) : SC T X c W [e] m := ⟨fun st o σ H F Q R p pins s I => (pts_one pt_tW).run pins s σ H Q I (h.run st o σ H F Q R p)⟩

abbrev W0 : WX := fun _ _ _ _ => False
def Tg.is : Tg → List Nat
  | .nm i => [i]
  | .tp is => is
/-- what is shown of the parts within the block -/
structure Blk (T : Tb) (X : Cx) (scope : Scope) (tg elt : Expr) (ifs : List Expr) (t : Tg) (mc : M Bool) (me : M T1) : Prop where
  g : ∀ (s : Shared) (H : Hp) (C : Addr) (cl : List (Str × Addr)) (fp : List Addr), STg T (X.blk s H scope (compEnvC scope cl C X.env) fp) tg t
  t : ∀ (s : Shared) (H : Hp) (C : Addr) (cl : List (Str × Addr)) (fp : List Addr) (c : Fc), SC T (X.blk s H scope (compEnvC scope cl C X.env) fp) c W0 ifs mc
  e : ∀ (s : Shared) (H : Hp) (C : Addr) (cl : List (Str × Addr)) (fp : List Addr) (c : Fc), SE T (X.blk s H scope (compEnvC scope cl C X.env) fp) c W0 elt me
abbrev gB (X : Cx) (scope : Scope) (tg : Expr) : TG := fun v σ H Q => ∀ (s : Shared) (H0 : Hp) (C : Addr) (cl : List (Str × Addr)) (fp : List Addr), gW (X.blk s H0 scope (compEnvC scope cl C X.env) fp) tg v σ H Q
abbrev tB1 (X : Cx) (scope : Scope) (ifs : List Expr) : TT := fun σ H Q => ∀ (s : Shared) (H0 : Hp) (C : Addr) (cl : List (Str × Addr)) (fp : List Addr), tWI (X.blk s H0 scope (compEnvC scope cl C X.env) fp) ifs σ H Q
abbrev eB (X : Cx) (scope : Scope) (elt : Expr) : TE := fun σ H Q => ∀ (s : Shared) (H0 : Hp) (C : Addr) (cl : List (Str × Addr)) (fp : List Addr), tW (X.blk s H0 scope (compEnvC scope cl C X.env) fp) elt σ H Q
theorem pg_gB {scope : Scope} {tg : Expr} (s : Shared) (H0 : Hp) (C : Addr) (cl : List (Str × Addr)) (fp : List Addr) : PG (X.blk s H0 scope (compEnvC scope cl C X.env) fp) tg (gB X scope tg) := ⟨fun pins s1 σ H v u Q I r h => h s H0 C cl fp pins s1 u I r⟩
theorem pts_tB {scope : Scope} {ifs : List Expr} (s : Shared) (H0 : Hp) (C : Addr) (cl : List (Str × Addr)) (fp : List Addr) : PTs (X.blk s H0 scope (compEnvC scope cl C X.env) fp) ifs (tB1 X scope ifs) := ⟨fun pins s1 σ H Q I h => h s H0 C cl fp pins s1 I⟩
theorem pe_eB {scope : Scope} {elt : Expr} (s : Shared) (H0 : Hp) (C : Addr) (cl : List (Str × Addr)) (fp : List Addr) : PE (X.blk s H0 scope (compEnvC scope cl C X.env) fp) elt (eB X scope elt) := ⟨fun pins s1 σ H Q I h => h s H0 C cl fp pins s1 I⟩
theorem PostR.of_ok {α : Type} {K : PySem.W.Frag} {σ : L2.St} {F : Hp} {Q : α → (Nat → Addr) → Sl → Hp → Hp → Prop} {r : Res α} (h : ∀ a st', r = .ok a st' → ∀ o' H' F', Ex F F' → Rel K T c o' st' σ H' F' → Q a o' st' H' F') (h2 : (∃ a st', r = .ok a st')) : PostR K T c W0 σ F Q r := by
  obtain ⟨a, st', e⟩ := h2
  subst e
  exact h a st' rfl
theorem lc_run {scope : Scope} {tg elt iter : Expr} {ifs : List Expr} {t : Tg} {mi : M (List Fw.D)} {mc : M Bool} {me : M T1} {vs : List Nat} (hi : SI T X c W tg iter mi) (B : Blk T X scope tg elt ifs t mc me) (hin : ∀ i ∈ t.is, i ∈ vs)
    {st : Sl} {o : Nat → Addr} {σ : L2.St} {H F : Hp} {Q : VK} (R : Rel X.K T c o st σ H F) (p : PostR X.K T c W σ F (QE X.K T c σ Q) (lcM vs t mi mc me st)) : tLc (wW X tg iter) (gB X scope tg) (tB1 X scope ifs) (eB X scope elt) vs σ H Q := by
  refine hi.run st o σ H F _ R ((PostR.bnd p).imp fun ds o1 s1 H1 F1 e1 R1 p1 J wk Dl hD => ?_)
  by_cases hz : ds.length ≤ 1000000 ∧ vs.all (notOwn s1) = true
  · rw [if_pos hz] at p1
    cases hr : lcR vs t mc me ds (wipeS vs s1) with
    | no => rw [hr] at p1; exact p1.elim
    | exc e st' => rw [hr] at p1; exact p1.elim
    | ok res sE =>
      rw [hr] at p1
      -- the turns
      refine ⟨fun i m H' => m = ds.length - i ∧ i ≤ ds.length ∧ ∃ stb ob Fb acc accV, Ex F1 Fb ∧ H' Dl = some (.lst accV) ∧ RpL X.K T Fb acc accV ∧ acc.length ≤ i ∧ Rel X.K T { c with tp := upd c.tp Dl (.lst accV) } ob stb (L2.wipe σ vs) H' Fb ∧
          ((∀ j ∈ vs, ∀ x, stb[j]? = some x → x = Slot.un)) ∧ ∃ r, lcR vs t mc me (ds.drop i) stb = .ok r sE ∧ res = acc ++ r,
        ⟨ds.length, by simp, Nat.zero_le _, wipeS vs s1, o1, F1, [], [], Ex.refl F1, upd_same, RpL.nil, Nat.le_refl _, (R1.wipe rfl).pin hD, fun j hj x h => ?_, res, hr, rfl⟩, ?_⟩
      · rw [wipeS_get, if_pos hj] at h
        cases e : s1[j]? with
        | none => rw [e] at h; cases h
        | some y => rw [e] at h; exact (Option.some.inj h).symm
      rintro i m H' ⟨rfl, hile, stb, ob, Fb, acc, accV, eb, hDl, rp, hal, Rb, hun, r, hlr, hres⟩
      have exF1 : Ex F1 H' := eb.trans Rb.sub
      by_cases hlt : i < ds.length
      · refine .inr ⟨wk.go i H' exF1 hlt, fun H2 => ∃ stb ob Fb acc accV, Ex F1 Fb ∧ H2 Dl = some (.lst accV) ∧ RpL X.K T Fb acc accV ∧ acc.length ≤ i + 1 ∧ Rel X.K T { c with tp := upd c.tp Dl (.lst accV) } ob stb (L2.wipe σ vs) H2 Fb ∧
          ((∀ j ∈ vs, ∀ x, stb[j]? = some x → x = Slot.un)) ∧ ∃ r, lcR vs t mc me (ds.drop (i + 1)) stb = .ok r sE ∧ res = acc ++ r, fun H2 h2 => ⟨ds.length - (i + 1), by omega, rfl, hlt, h2⟩, fun x H2 y => ?_⟩
        obtain ⟨eH, d, hd, rpx⟩ := wk.yld i H' x H2 exF1 hlt y
        obtain ⟨F2, e2, R2, rp2⟩ := Rb.item eb eH rpx
        have ed : ds.drop i = d :: ds.drop (i + 1) := by
          rw [List.drop_eq_getElem_cons hlt, (List.getElem?_eq_some_iff.mp hd).2]
        rw [ed] at hlr
        simp only [lcR] at hlr
        cases ebt : bindT t d stb with
        | none => rw [ebt] at hlr; cases hlr
        | some s2 =>
          rw [ebt] at hlr
          simp only at hlr
          intro s H0 C cl fp
          refine (B.g s H0 C cl fp).run _ stb s2 ob (L2.wipe σ vs) H2 F2 d x _ R2 rp2 ebt fun σ2 R3 ⟨ws, hws1, hws2⟩ => ?_
          have hw : L2.wipe σ2 vs = L2.wipe σ vs := by
            rw [hws1, wipe_fold, wipe_wipe]
            intro q hq
            refine hin q.1 ?_
            have : q.1 ∈ ws.map (·.1) := List.mem_map_of_mem hq
            rw [hws2] at this
            cases t <;> exact this
          refine ⟨hw, ?_⟩
          intro s H0 C cl fp
          refine (B.t s H0 C cl fp _).run s2 ob σ2 H2 F2 _ R3 ?_
          refine PostR.of_ok (fun b s3 hb o4 H4 F4 e4 R4 => ?_) ?_
          · rw [hb] at hlr
            cases b with
            | false =>
              simp only at hlr
              simp only [Bool.false_eq_true, if_false]
              have hDl4 := (R4.tpk Dl _ upd_same).1
              refine ⟨wipeS vs s3, o4, F4, acc, accV, ((eb.trans e2).trans e4), hDl4, rp.mono (e2.trans e4), by omega, R4.wipe hw.symm, fun j hj x h => ?_, r, hlr, hres⟩
              rw [wipeS_get, if_pos hj] at h
              cases e : s3[j]? with
              | none => rw [e] at h; cases h
              | some y => rw [e] at h; exact (Option.some.inj h).symm
            | true =>
              simp only at hlr
              simp only [if_true]
              intro s H0 C cl fp
              refine (B.e s H0 C cl fp _).run s3 o4 σ2 H4 F4 _ R4 ?_
              have fin : ∀ (dx : Fw.D) (s5 : Sl), M.bnd (lcR vs t mc me (ds.drop (i + 1))) (fun r => M.ret (dx :: r)) (wipeS vs s5) = Res.ok r sE → ∀ o5 H5 F5 v5, Ex F4 F5 → Rel X.K T { c with tp := upd c.tp Dl (.lst accV) } o5 s5 σ2 H5 F5 → Rp X.K T F5 dx v5 →
                  ∃ acc', H5 Dl = some (.lst acc') ∧ acc'.length < sizeLine ∧ ∃ stb ob Fb acc accV, Ex F1 Fb ∧ upd H5 Dl (.lst (acc' ++ [v5])) Dl = some (.lst accV) ∧ RpL X.K T Fb acc accV ∧ acc.length ≤ i + 1 ∧ Rel X.K T { c with tp := upd c.tp Dl (.lst accV) } ob stb (L2.wipe σ vs) (upd H5 Dl (.lst (acc' ++ [v5]))) Fb ∧
                    ((∀ j ∈ vs, ∀ x, stb[j]? = some x → x = Slot.un)) ∧ ∃ r, lcR vs t mc me (ds.drop (i + 1)) stb = .ok r sE ∧ res = acc ++ r := fun dx s5 hm o5 H5 F5 v5 e5 R5 rp5 => by
                have hDl5 := (R5.tpk Dl _ upd_same).1
                have hlen : accV.length ≤ i := by rw [rp.len]; exact hal
                unfold M.bnd M.ret at hm
                cases hq : lcR vs t mc me (ds.drop (i + 1)) (wipeS vs s5) with
                | no => rw [hq] at hm; cases hm
                | exc e st' => rw [hq] at hm; cases hm
                | ok r' sE' =>
                  rw [hq] at hm
                  simp only at hm
                  injection hm with hm1 hm2
                  subst hm1 hm2
                  refine ⟨accV, hDl5, by rw [sizeLine_eq]; omega, wipeS vs s5, o5, F5, acc ++ [dx], accV ++ [v5], ((eb.trans e2).trans e4).trans e5, upd_same, (rp.mono ((e2.trans e4).trans e5)).snoc rp5, by rw [List.length_append, List.length_singleton]; omega, (R5.wipe hw.symm).repin (R1.not hD), fun j hj x h => ?_, r', hq, by rw [hres, List.append_assoc]; rfl⟩
                  rw [wipeS_get, if_pos hj] at h
                  cases e : s5[j]? with
                  | none => rw [e] at h; cases h
                  | some y => rw [e] at h; exact (Option.some.inj h).symm
              refine PostR.of_ok (fun tx s5 he o5 H5 F5 e5 R5 v5 tr5 => ?_) ?_
              · rw [he] at hlr
                cases tx with
                | pk j => cases hlr
                | vl dx => exact fin dx s5 hlr o5 H5 F5 v5 e5 R5 tr5
                | fr dx =>
                  obtain ⟨F6, e6, R6, tr6⟩ := R5.fz tr5
                  exact fin dx s5 hlr o5 H5 F6 v5 (e5.trans e6) R6 tr6
              · cases he : me s3 with
                | ok a b => exact ⟨a, b, rfl⟩
                | exc a b => rw [he] at hlr; cases hlr
                | no => rw [he] at hlr; cases hlr
          · cases he : mc s2 with
            | ok a b => exact ⟨a, b, rfl⟩
            | exc a b => rw [he] at hlr; cases hlr
            | no => rw [he] at hlr; cases hlr
      · have hie : i = ds.length := by omega
        subst hie
        refine .inl ⟨wk.stop _ H' exF1 (Nat.le_refl _), ?_⟩
        rw [List.drop_length] at hlr
        cases hlr
        rw [List.append_nil] at hres
        subst hres
        have Rc := Rb.unpin (R1.not hD)
        obtain ⟨k1, k2, k3, k4⟩ := Rb.tpk Dl _ upd_same
        have RB := Rel.back R1 eb Rc hz.2 hun
        refine p1 ob H' Fb eb RB (.ref Dl) ⟨Dl, .lst accV, rfl, k3, k2, k1, ⟨accV, rfl, rp⟩, R1.not hD, fun j r d h => ?_⟩
        have hl : sE.length = s1.length := by rw [Rc.len, wipe_length, R1.len]
        rw [backS_get hl] at h
        by_cases hj : j ∈ vs
        · rw [if_pos hj] at h
          have := List.all_eq_true.mp hz.2 j hj
          unfold notOwn at this
          rw [h] at this
          cases this
        · rw [if_neg hj] at h
          exact k4 j r d h
  · rw [if_neg hz] at p1
    exact p1.elim
theorem se_lc {scope : Scope} {own : List (Str × Nat)} {tg elt iter : Expr} {ifs : List Expr} {t : Tg} {mi : M (List Fw.D)} {mc : M Bool} {me : M T1} (hc : X.calm = true) (hN : X.N.Nodup) (hi : SI T X c W tg iter mi) (ok : BlkOk X.N X.env.scope scope own) (B : Blk T X scope tg elt ifs t mc me) (hin : ∀ i ∈ t.is, i ∈ own.map (·.2))
    (hs : ∀ x, foldedSetIterable iter X.env x = pure x := by intro _; rfl) : SE T X c W (.ListComp elt [⟨tg, iter, ifs, 0⟩] scope pos) (lcM (own.map (·.2)) t mi mc me) :=
  ⟨fun st o σ H F Q R p => tW_of (pe_lc hc hN pi_wW ok pg_gB pts_tB pe_eB hs) (lc_run hi B hin R p)⟩
theorem ss_setLc {i : Nat} {y : Str} {py spos : Pos} {scope : Scope} {own : List (Str × Nat)} {tg elt iter : Expr} {ifs : List Expr} {t : Tg} {mi : M (List Fw.D)} {mc : M Bool} {me : M T1} (hc : X.calm = true) (hN : X.N.Nodup) (hy : X.N[i]? = some y) (hyl : X.env.scope.names.lookup y = some .local)
    (hsw : swapsWith (.ListComp elt [⟨tg, iter, ifs, 0⟩] scope pos) (some (.Name y py)) spos.line X.env = pure true) (hi : SI T X c W tg iter mi) (ok : BlkOk X.N X.env.scope scope own) (B : Blk T X scope tg elt ifs t mc me) (hin : ∀ i ∈ t.is, i ∈ own.map (·.2))
    (hs : ∀ x, foldedSetIterable iter X.env x = pure x := by intro _; rfl) : SS T X c W (.Assign [.Name y py] (.ListComp elt [⟨tg, iter, ifs, 0⟩] scope pos) spos) (setM i (lcM (own.map (·.2)) t mi mc me)) := by
  refine ⟨fun st o σ H F D R p => tWS_of (ps_setLc hc hN hy hyl hsw pi_wW ok pg_gB pts_tB pe_eB hs) ?_⟩
  refine lc_run hi B hin R ?_
  exact (PS1.bnd p).imp fun tx o1 s1 H1 F1 e1 R1 p1 v tr => sto_ok R1 tr p1
end
end Fw
end

section
set_option maxRecDepth 100000
set_option maxHeartbeats 2000000
namespace Fw
open PySem PySem.Spec PyProof.Rows L2

/-! ### methods of built-in types -/
def tyD (Ty : String) : D → Bool
  | .str _ => Ty == "str"
  | .int _ => Ty == "int"
  | .lst _ => Ty == "list"
  | .dic _ _ => Ty == "dict"
  | _ => false
def MtS (T : Tb) (X : Cx) (id : String) (g : D → List D → Option T1) : Prop :=
  ∀ (pins : List (Addr × Obj)) (s : Shared) (σ : L2.St) (F H : Hp) (x : V) (xs : List V) (v : Value) (us : List Value) (d : D) (ds : List D) (t : T1) (Q : VK), Inv X pins σ H s → RelV x v → Vals xs us → Ex F H → See X.K T F H d x → SeeL X.K T F H ds xs → g d ds = some t →
    (∀ z H', PR X.K T F H t z H' → Q z H') → wpAny (model X.prog X.w) X.A (call (.builtin id) (v :: us)) (EP X pins σ Q) X.xe s
theorem MtS.of {T : Tb} {X : Cx} {id : String} {g : D → List D → Option T1} (h : ∀ (F H : Hp) (x : V) (xs : List V) (d : D) (ds : List D) (t : T1) (Q : VK), Ex F H → See X.K T F H d x → SeeL X.K T F H ds xs → g d ds = some t → (∀ z H', PR X.K T F H t z H' → Q z H') → ∃ r, MtR X id r ∧ r x xs H Q) : MtS T X id g :=
  fun pins s σ F H x xs v us d ds t Q I rx rs e sd sds hg k => by
    obtain ⟨r, hr, hq⟩ := h F H x xs d ds t Q e sd sds hg k
    exact hr pins s σ H x xs v us Q I rx rs hq
def mW (X : Cx) (id : String) : V → List V → Hp → VK → Prop := fun x xs H Q => ∀ (pins : List (Addr × Obj)) (s : Shared) (σ : L2.St) (v : Value) (us : List Value), Inv X pins σ H s → RelV x v → Vals xs us → wpAny (model X.prog X.w) X.A (call (.builtin id) (v :: us)) (EP X pins σ Q) X.xe s
theorem mtr_mW {X : Cx} {id : String} : MtR X id (mW X id) := fun pins s σ H x xs v us Q I rx rs h => h pins s σ v us I rx rs
def mthM (Ty : String) (g : D → List D → Option T1) (a : M T1) (ms : List (M T1)) : M T1 := M.bnd a fun t => M.bnd (rv t) fun d0 => if tyD Ty d0 = true then M.bnd (argsM ms) fun ts => M.bnd (rv t) fun d => M.bnd (rvs ts) fun ds => lf (g d ds) else stk
section
variable {T : Tb} {X : Cx} {c : Fc} {W : WX} {pos p apos cpos : Pos} {ob e : Expr} {es : List Expr} {ma : M T1} {ms : List (M T1)}
theorem tyV_of {F H : Hp} {d : D} {x : V} {Ty : String} (e : Ex F H) (h : See X.K T F H d x) (t : tyD Ty d = true) : tyV X.K Ty x H := by
  cases d with
  | str y => cases h.str; exact beq_iff_eq.mp t
  | int y => cases h.int; exact beq_iff_eq.mp t
  | lst ds =>
    obtain ⟨a, vs, rfl, h1, _⟩ := h.lst e
    exact .inl ⟨beq_iff_eq.mp t, vs, h1⟩
  | dic ks ds =>
    obtain ⟨a, kvs, rfl, h1, _⟩ := h.dic e
    exact .inr (.inr (.inl ⟨beq_iff_eq.mp t, .inl ⟨kvs, h1⟩⟩))
  | _ => cases t
theorem se_mth {name : Str} {Ty id : String} {g : D → List D → Option T1} (hm : MtS T X id g) (pa : PlainAttrs Ty) (slot : PySem.Slot Ty name id) (hty : typeOf (.builtin id) = pure (.type "method_descriptor")) (ha : SE T X c W ob ma) (h : SA T X c W (e :: es) (argsM ms))
    (hbase : attributeBase ob name X.env (eval ob X.env) = eval ob X.env := by rfl)
    (hfew : ((backTo cpos (starEach (e :: es) X.env)).all (fun x => !x.1) && (backToKw cpos (keywordEach [] X.env)).all (fun x => x.1.isSome)
      && decide ((e :: es).length + ([] : List Keyword).length + (if ([] : List Keyword).isEmpty then 0 else 1) < 30)) = true := by rfl)
    (hline : (apos.endLine == cpos.line) = true := by rfl) (hs : starEach (e :: es) X.env = (false, eval e X.env) :: starEach es X.env := by rfl) (hplain : (backTo cpos (starEach es X.env)).any (·.1) = false := by rfl) :
    SE T X c W (.Call (.Attribute ob name apos) (e :: es) [] cpos) (mthM Ty g ma ms) := by
  refine ⟨fun st o σ H F Q R q => tW_of (pe_bm pa slot hty mtr_mW pe_tW pa_tW hbase hfew hline hs hplain) ?_⟩
  refine ha.run st o σ H F _ R ((PostR.bnd q).imp fun t o1 s1 H1 F1 e1 R1 p1 v tr => ?_)
  obtain ⟨F2, e2, R2, tr2⟩ := R1.fz tr
  have p1 := PostR.ext e2 p1
  rw [← rv_fz] at p1
  obtain ⟨d0, sd0, p2⟩ := rv_see R2 tr2 p1
  by_cases ht : tyD Ty d0 = true
  · rw [if_pos ht] at p2
    refine ⟨tyV_of R2.sub sd0 ht, ?_⟩
    refine h.run s1 o1 σ H1 F2 _ R2 ((PostR.bnd p2).imp fun ts o3 s3 H3 F3 e3 R3 p3 vs tvs => ?_)
    obtain ⟨d, sd, p4⟩ := rv_see R3 (tr2.ext e3) p3
    obtain ⟨ds, sds, p5⟩ := rvs_see R3 tvs p4
    obtain ⟨r, hr, p6⟩ := p5.lf
    exact fun pins s σ' v' us I rx rs => hm pins s σ' F3 H3 v vs v' us d ds r Q I rx rs R3.sub sd sds hr fun z H' pr => let ⟨R4, tr4⟩ := pr.tr R3; p6 o3 H' F3 (Ex.refl F3) R4 z tr4
  · rw [if_neg ht] at p2
    exact p2.elim
theorem se_mth0 {name : Str} {Ty id : String} {g : D → List D → Option T1} (hm : MtS T X id g) (pa : PlainAttrs Ty) (slot : PySem.Slot Ty name id) (hty : typeOf (.builtin id) = pure (.type "method_descriptor")) (ha : SE T X c W ob ma)
    (hbase : attributeBase ob name X.env (eval ob X.env) = eval ob X.env := by rfl) (hline : (apos.endLine == cpos.line) = true := by rfl) : SE T X c W (.Call (.Attribute ob name apos) [] [] cpos) (mthM Ty g ma []) := by
  refine ⟨fun st o σ H F Q R q => tW_of (pe_bm0 pa slot hty mtr_mW pe_tW hbase hline) ?_⟩
  refine ha.run st o σ H F _ R ((PostR.bnd q).imp fun t o1 s1 H1 F1 e1 R1 p1 v tr => ?_)
  obtain ⟨F2, e2, R2, tr2⟩ := R1.fz tr
  have p1 := PostR.ext e2 p1
  rw [← rv_fz] at p1
  obtain ⟨d0, sd0, p2⟩ := rv_see R2 tr2 p1
  by_cases ht : tyD Ty d0 = true
  · rw [if_pos ht] at p2
    refine ⟨tyV_of R2.sub sd0 ht, ?_⟩
    have p3 : PostR X.K T c W σ F2 (QE X.K T c σ Q) (M.bnd (rv (fz t)) (fun d => lf (g d [])) s1) := p2
    obtain ⟨d, sd, p4⟩ := rv_see R2 tr2 p3
    obtain ⟨r, hr, p6⟩ := p4.lf
    exact fun pins s σ' v' us I rx rs => hm pins s σ' F2 H1 v [] v' us d [] r Q I rx rs R2.sub sd True.intro hr fun z H' pr => let ⟨R4, tr4⟩ := pr.tr R2; p6 o1 H' F2 (Ex.refl F2) R4 z tr4
  · rw [if_neg ht] at p2
    exact p2.elim
end

/-! ### methods that change a list or a dict of a slot -/
/-- l holds d: the call turns it into d' and gives t -/
def MuS (T : Tb) (X : Cx) (id : String) (g : D → List D → Option (D × D)) : Prop :=
  ∀ (pins : List (Addr × Obj)) (s : Shared) (σ : L2.St) (F H : Hp) (l : Addr) (u : HO) (xs : List V) (us : List Value) (d d' r : D) (ds : List D) (Q : VK), Inv X pins σ H s → Vals xs us → Ex F H → H l = some u → Ob X.K T F d u → RpL X.K T F ds xs → g d ds = some (d', r) →
    (∀ z u', Ob X.K T F d' u' → Rp X.K T F r z → Q z (upd H l u')) → wpAny (model X.prog X.w) X.A (call (.builtin id) (.ref l :: us)) (EP X pins σ Q) X.xe s
theorem MuS.of {T : Tb} {X : Cx} {id : String} {g : D → List D → Option (D × D)} (h : ∀ (F H : Hp) (l : Addr) (u : HO) (xs : List V) (d d' rr : D) (ds : List D) (Q : VK), Ex F H → H l = some u → Ob X.K T F d u → RpL X.K T F ds xs → g d ds = some (d', rr) →
    (∀ z u', Ob X.K T F d' u' → Rp X.K T F rr z → Q z (upd H l u')) → ∃ r, MtR X id r ∧ r (.ref l) xs H Q) : MuS T X id g :=
  fun pins s σ F H l u xs us d d' rr ds Q I rs e hl ho rp hg k => by
    obtain ⟨r, hr, hq⟩ := h F H l u xs d d' rr ds Q e hl ho rp hg k
    exact hr pins s σ H (.ref l) xs (.ref l) us Q I rfl rs hq
def mutM (i : Nat) (Ty : String) (g : D → List D → Option (D × D)) (ms : List (M T1)) : M T1 := M.bnd (pk i) fun t => M.bnd (rv t) fun d0 => if tyD Ty d0 = true then M.bnd (argsM ms) fun ts => M.bnd (lf (vlsO ts)) fun ds => fun st => match st[i]? with
  | some (Slot.own r d) => match g d ds with
    | some (d', x) => .ok (.vl x) (st.set i (Slot.own r d'))
    | none => .no
  | _ => .no else stk
section
variable {T : Tb} {X : Cx} {c : Fc} {W : WX} {pos p apos cpos : Pos} {ob e : Expr} {es : List Expr} {ma : M T1} {ms : List (M T1)}
theorem se_mut {i : Nat} {name : Str} {Ty id : String} {g : D → List D → Option (D × D)} (hm : MuS T X id g) (pa : PlainAttrs Ty) (slot : PySem.Slot Ty name id) (hty : typeOf (.builtin id) = pure (.type "method_descriptor")) (ho : PE X ob (tVar i)) (h : SA T X c W (e :: es) (argsM ms))
    (hbase : attributeBase ob name X.env (eval ob X.env) = eval ob X.env := by rfl)
    (hfew : ((backTo cpos (starEach (e :: es) X.env)).all (fun x => !x.1) && (backToKw cpos (keywordEach [] X.env)).all (fun x => x.1.isSome)
      && decide ((e :: es).length + ([] : List Keyword).length + (if ([] : List Keyword).isEmpty then 0 else 1) < 30)) = true := by rfl)
    (hline : (apos.endLine == cpos.line) = true := by rfl) (hs : starEach (e :: es) X.env = (false, eval e X.env) :: starEach es X.env := by rfl) (hplain : (backTo cpos (starEach es X.env)).any (·.1) = false := by rfl) :
    SE T X c W (.Call (.Attribute ob name apos) (e :: es) [] cpos) (mutM i Ty g ms) := by
  refine ⟨fun st o σ H F Q R q => tW_of (pe_bm pa slot hty mtr_mW ho pa_tW hbase hfew hline hs hplain) ?_⟩
  have q1 := PostR.bnd q
  have pkv : ∃ v, σ[i]? = some (some v) ∧ PostR X.K T c W σ F (QE X.K T c σ Q) (M.bnd (rv (fz (.pk i))) (fun d0 => if tyD Ty d0 = true then M.bnd (argsM ms) fun ts => M.bnd (lf (vlsO ts)) fun ds => fun st => match st[i]? with
      | some (Slot.own r d) => match g d ds with
        | some (d', x) => .ok (.vl x) (st.set i (Slot.own r d'))
        | none => .no
      | _ => .no else stk) st) := by
    unfold pk at q1
    cases es : st[i]? with
    | none => rw [es] at q1; exact q1.elim
    | some x =>
      rw [es] at q1
      cases x with
      | un => exact q1.elim
      | fix => exact q1.elim
      | val d =>
        obtain ⟨v, h1, h2⟩ := R.val i d es
        exact ⟨v, h1, q1 o H F (Ex.refl F) R⟩
      | own r d =>
        obtain ⟨h1, _⟩ := R.own i r d es
        exact ⟨_, h1, q1 o H F (Ex.refl F) R⟩
  obtain ⟨v, hv, p1⟩ := pkv
  refine ⟨v, hv, ?_⟩
  obtain ⟨d0, sd0, p2⟩ := rv_see R (t := .pk i) hv p1
  by_cases ht : tyD Ty d0 = true
  · rw [if_pos ht] at p2
    refine ⟨tyV_of R.sub sd0 ht, ?_⟩
    refine h.run st o σ H F _ R ((PostR.bnd p2).imp fun ts o3 s3 H3 F3 e3 R3 p3 vs tvs => ?_)
    obtain ⟨ds, hds, p4⟩ := (PostR.bnd p3).lf
    have rp := vlsO_rp tvs hds
    have p5 := p4 o3 H3 F3 (Ex.refl F3) R3
    simp only at p5
    cases es : s3[i]? with
    | none => rw [es] at p5; exact p5.elim
    | some x =>
      cases x with
      | un => rw [es] at p5; exact p5.elim
      | fix => rw [es] at p5; exact p5.elim
      | val d => rw [es] at p5; exact p5.elim
      | own r d =>
        rw [es] at p5
        simp only at p5
        cases hg : g d ds with
        | none => rw [hg] at p5; exact p5.elim
        | some dx =>
          obtain ⟨d', x⟩ := dx
          rw [hg] at p5
          obtain ⟨k1, k2, ⟨u, k3, k4⟩, k5⟩ := R3.own i r d es
          have tp : v = .ref (o3 i) := by
            -- the slot's value
            rw [k1] at hv
            exact (Option.some.inj (Option.some.inj hv)).symm
          subst tp
          exact fun pins s σ' v' us I rx rs => by
            obtain rfl : v' = .ref (o3 i) := rx
            exact hm pins s σ' F3 H3 (o3 i) u vs us d d' x ds Q I rs R3.sub k3 k4 rp hg fun z u' ho' rz => p5 o3 _ F3 (Ex.refl F3) (R3.mut es ho') z rz
  · rw [if_neg ht] at p2
    exact p2.elim
end
end Fw
end

section
set_option maxRecDepth 100000
set_option maxHeartbeats 2000000
namespace Fw
open PySem PySem.Spec PyProof.Rows L2

/-! ### calls of all shapes -/
theorem PostR.eqn {K : PySem.W.Frag} {T : Tb} {c : Fc} {W : WX} {σ : L2.St} {F : Hp} {α : Type} {Q : α → (Nat → Addr) → Sl → Hp → Hp → Prop} {r : Res α} (h : PostR K T c W σ F Q r) : PostR K T c W σ F (fun a o' st' H' F' => Q a o' st' H' F' ∧ r = .ok a st') r := by
  cases r with
  | ok a st' => exact fun o' H' F' e R => ⟨h o' H' F' e R, rfl⟩
  | exc x st' => exact h
  | no => exact h
theorem argsM_len : ∀ {ms : List (M T1)} {st st' : Sl} {ts : List T1}, argsM ms st = .ok ts st' → ts.length = ms.length
  | [], st, st', ts, h => by cases h; rfl
  | m :: ms, st, st', ts, h => by
    have h : M.bnd m (fun t => M.bnd (argsM ms) fun ts => M.ret (fz t :: ts)) st = .ok ts st' := h
    unfold M.bnd at h
    cases h1 : m st with
    | ok t s1 =>
      rw [h1] at h
      simp only at h
      cases h2 : argsM ms s1 with
      | ok us s2 =>
        rw [h2] at h
        cases h
        simp [argsM_len h2]
      | exc e s => rw [h2] at h; cases h
      | no => rw [h2] at h; cases h
    | exc e s => rw [h1] at h; cases h
    | no => rw [h1] at h; cases h
theorem TRL.len {K : PySem.W.Frag} {T : Tb} {c : Fc} {o : Nat → Addr} {st : Sl} {σ : L2.St} {H F : Hp} : ∀ {vs : List V} {ts : List T1}, TRL K T c o st σ H F vs ts → vs.length = ts.length
  | [], [], _ => rfl
  | v :: vs, t :: ts, h => by simp [TRL.len h.2.2]
  | [], _ :: _, h => h.elim
  | _ :: _, [], h => h.elim
theorem TRL.get {K : PySem.W.Frag} {T : Tb} {c : Fc} {o : Nat → Addr} {st : Sl} {σ : L2.St} {H F : Hp} : ∀ {vs : List V} {ts : List T1} {i : Nat}, TRL K T c o st σ H F vs ts → (vs[i]? = none ∧ ts[i]? = none) ∨ ∃ v t, vs[i]? = some v ∧ ts[i]? = some t ∧ TR K T c o st σ H F v (fz t) ∧ fz t = t
  | [], [], i, _ => .inl ⟨by simp, by simp⟩
  | v :: vs, t :: ts, 0, h => .inr ⟨v, t, rfl, rfl, h.1, h.2.1⟩
  | v :: vs, t :: ts, i + 1, h => by simpa using TRL.get (i := i) h.2.2
  | [], _ :: _, _, h => h.elim
  | _ :: _, [], _, h => h.elim
/-- the parts at the places pi -/
def picks {α : Type} (pi : List Nat) (l : List α) : List α := pi.filterMap (l[·]?)
theorem TRL.picks {K : PySem.W.Frag} {T : Tb} {c : Fc} {o : Nat → Addr} {st : Sl} {σ : L2.St} {H F : Hp} {vs : List V} {ts : List T1} (h : TRL K T c o st σ H F vs ts) : ∀ {pi : List Nat}, TRL K T c o st σ H F (picks pi vs) (Fw.picks pi ts)
  | [] => True.intro
  | i :: pi => by
    unfold Fw.picks
    rcases h.get (i := i) with ⟨h1, h2⟩ | ⟨v, t, h1, h2, h3, h4⟩
    · rw [List.filterMap_cons_none h1, List.filterMap_cons_none h2]
      exact h.picks (pi := pi)
    · rw [List.filterMap_cons_some h1, List.filterMap_cons_some h2]
      exact ⟨h3, h4, h.picks (pi := pi)⟩
theorem vals_at : ∀ {vs : List V} {us : List Value} {i : Nat}, Vals vs us → (vs[i]? = none ∧ us[i]? = none) ∨ ∃ v u, vs[i]? = some v ∧ us[i]? = some u ∧ RelV v u
  | [], _, i, .nil => .inl ⟨by simp, by simp⟩
  | v :: vs, u :: us, 0, .cons r rs => .inr ⟨v, u, rfl, rfl, r⟩
  | v :: vs, u :: us, i + 1, .cons r rs => by simpa using vals_at (i := i) rs
theorem vals_picks {vs : List V} {us : List Value} (h : Vals vs us) : ∀ {pi : List Nat}, Vals (picks pi vs) (Fw.picks pi us)
  | [] => .nil
  | i :: pi => by
    unfold Fw.picks
    rcases vals_at (i := i) h with ⟨h1, h2⟩ | ⟨v, t, h1, h2, h3⟩
    · rw [List.filterMap_cons_none h1, List.filterMap_cons_none h2]
      exact vals_picks h (pi := pi)
    · rw [List.filterMap_cons_some h1, List.filterMap_cons_some h2]
      exact .cons h3 (vals_picks h (pi := pi))

def KP (X : Cx) (pins : List (Addr × Obj)) (σ : L2.St) (n : Nat) (ks : List Str) (Q : List V → Hp → Prop) : Args → Shared → Prop := fun a s1 => ∃ vs us ws H1, a = ⟨us, ks.zip ws⟩ ∧ us.length = n ∧ ws.length = ks.length ∧ Inv X pins σ H1 s1 ∧ Vals vs (us ++ ws) ∧ Q vs H1
def tWK (X : Cx) (es : List Expr) (kws : List Keyword) (n : Nat) (ks : List Str) (σ : L2.St) (H : Hp) (Q : List V → Hp → Prop) : Prop := ∀ (pos : Pos) (pins : List (Addr × Obj)) (s : Shared) (f : Value), Inv X pins σ H s →
  wpAny (model X.prog X.w) X.A (evalArgs f true (backTo pos (starEach es X.env)) (backToKw pos (keywordEach kws X.env))) (KP X pins σ n ks Q) X.xe s
def tWY (X : Cx) (kws : List Keyword) : TA := fun σ H Q => ∀ (pos : Pos) (pins : List (Addr × Obj)) (s : Shared), Inv X pins σ H s → wpAny (model X.prog X.w) X.A (evalAll ((backToKw pos (keywordEach kws X.env)).map (·.2))) (AP X pins σ Q) X.xe s
theorem pk_tW {X : Cx} {kws : List Keyword} : PK X kws (tWY X kws) := ⟨fun pos pins s σ H Q I h => h pos pins s I⟩
theorem tWY_of {X : Cx} {kws : List Keyword} {t : TA} {σ : L2.St} {H : Hp} {Q : List V → Hp → Prop} (p : PK X kws t) (h : t σ H Q) : tWY X kws σ H Q := fun pos pins s I => p.run pos pins s σ H Q I h
structure SY (T : Tb) (X : Cx) (c : Fc) (W : WX) (kws : List Keyword) (m : M (List T1)) : Prop where
  run : ∀ (st : Sl) (o : Nat → Addr) (σ : L2.St) (H F : Hp) (Q : List V → Hp → Prop), Rel X.K T c o st σ H F → PostR X.K T c W σ F (fun ts o' st' H' F' => ∀ vs, TRL X.K T c o' st' σ H' F' vs ts → Q vs H') (m st) → tWY X kws σ H Q
structure SK (T : Tb) (X : Cx) (c : Fc) (W : WX) (es : List Expr) (kws : List Keyword) (n : Nat) (ks : List Str) (ms : List (M T1)) : Prop where
  run : ∀ (st : Sl) (o : Nat → Addr) (σ : L2.St) (H F : Hp) (Q : List V → Hp → Prop), Rel X.K T c o st σ H F → PostR X.K T c W σ F (fun ts o' st' H' F' => ∀ vs, TRL X.K T c o' st' σ H' F' vs ts → Q vs H') (argsM ms st) → tWK X es kws n ks σ H Q
  pl : ∀ pos : Pos, ((backTo pos (starEach es X.env)).any (·.1) || (backToKw pos (keywordEach kws X.env)).any (·.1.isNone)) = false
section
variable {T : Tb} {X : Cx} {c : Fc} {W : WX} {pos p apos cpos kpos : Pos} {e ob : Expr} {es : List Expr} {kws : List Keyword} {m ma : M T1} {ms mk : List (M T1)} {n : Nat} {ks : List Str} {nm : Option Str}
theorem sy_nil : SY T X c W [] (argsM []) := ⟨fun st o σ H F Q R p => tWY_of pk_nil (p o H F (Ex.refl F) R [] True.intro)⟩
theorem sy_cons (h : SE T X c W e m) (hs : SY T X c W kws (argsM ms)) : SY T X c W (⟨nm, e, kpos⟩ :: kws) (argsM (m :: ms)) := by
  refine ⟨fun st o σ H F Q R p => tWY_of (pk_cons pe_tW pk_tW) ?_⟩
  refine h.run st o σ H F _ R ((PostR.bnd (m := m) p).imp fun x o1 s1 H1 F1 e1 R1 p1 v tr => ?_)
  obtain ⟨F2, e2, R2, tr2⟩ := R1.fz tr
  refine hs.run s1 o1 σ H1 F2 _ R2 ((PostR.bnd (PostR.ext e2 p1)).imp fun ts o3 s3 H3 F3 e3 R3 p3 vs tvs => ?_)
  refine p3 o3 H3 F3 (Ex.refl F3) R3 (v :: vs) ⟨?_, by cases x <;> rfl, tvs⟩
  have h1 := tr2.ext (o' := o3) (st' := s3) (H' := H3) e3
  cases x <;> exact h1
theorem sk_nil : SK T X c W [] [] 0 [] [] := by
  refine ⟨fun st o σ H F Q R p => ?_, fun pos => rfl⟩
  intro pos pins s f I
  exact evalArgs_nil3 ⟨[], [], [], H, rfl, rfl, rfl, I, .nil, p o H F (Ex.refl F) R [] True.intro⟩
theorem sk_pos (h : SA T X c W (e :: es) (argsM ms)) (hn : ms.length = n := by rfl) (he : starEach (e :: es) X.env = (false, eval e X.env) :: starEach es X.env := by rfl) (hpl : ∀ pos : Pos, (backTo pos (starEach es X.env)).any (·.1) = false := by intro _; rfl) : SK T X c W (e :: es) [] n [] ms := by
  refine ⟨fun st o σ H F Q R q => ?_, fun pos => ?_⟩
  · intro pos pins s f I
    have h1 := h.run st o σ H F (fun vs H1 => vs.length = n ∧ Q vs H1) R (q.eqn.imp fun ts o1 s1 H1 F1 e1 R1 p1 vs tvs => ⟨by rw [tvs.len, argsM_len p1.2, hn], p1.1 vs tvs⟩)
    have h2 := h1 pos pins s I
    rw [he] at h2 ⊢
    exact PySem.Calls.evalArgs_plain (thn h2 fun us s1 ⟨vs, H1, I1, r, l, q1⟩ => ⟨vs, us, [], H1, rfl, by rw [← r.length, l], rfl, I1, by rw [List.append_nil]; exact r, q1⟩)
  · rw [he]
    show ((false || (backTo pos (starEach es X.env)).any (·.1)) || false) = false
    rw [hpl pos]
    rfl
theorem sk_kw (h : SY T X c W kws (argsM mk)) (hn : mk.length = ks.length := by rfl) (hall : ∀ pos : Pos, (backToKw pos (keywordEach kws X.env)).all (·.1.isSome) = true := by intro _; rfl) (hks : ∀ pos : Pos, (backToKw pos (keywordEach kws X.env)).filterMap (·.1) = ks := by intro _; rfl)
    (hpl : ∀ pos : Pos, ((backTo pos (starEach [] X.env)).any (·.1) || (backToKw pos (keywordEach kws X.env)).any (·.1.isNone)) = false := by intro _; rfl) : SK T X c W [] kws 0 ks mk := by
  refine ⟨fun st o σ H F Q R q => ?_, hpl⟩
  intro pos pins s f I
  have h1 := h.run st o σ H F (fun vs H1 => vs.length = ks.length ∧ Q vs H1) R (q.eqn.imp fun ts o1 s1 H1 F1 e1 R1 p1 vs tvs => ⟨by rw [tvs.len, argsM_len p1.2, hn], p1.1 vs tvs⟩)
  refine evalArgs_kw2_nil (hall pos) (thn (h1 pos pins s I) fun ws s1 ⟨vs, H1, I1, r, l, q1⟩ => ?_)
  rw [hks pos]
  exact ⟨vs, [], ws, H1, rfl, rfl, by rw [← r.length, l], I1, r, q1⟩
theorem TRL.split {K : PySem.W.Frag} {o : Nat → Addr} {st : Sl} {σ : L2.St} {H F : Hp} {vs ws : List V} {ts us : List T1} (h : TRL K T c o st σ H F vs ts) (h' : TRL K T c o st σ H F ws us) : TRL K T c o st σ H F (vs ++ ws) (ts ++ us) := TRL.app h h'
theorem argsM_app {α : Type} {k : List T1 → M α} : ∀ {ms mk : List (M T1)} {st : Sl}, M.bnd (argsM (ms ++ mk)) k st = M.bnd (argsM ms) (fun ts => M.bnd (argsM mk) fun us => k (ts ++ us)) st
  | [], mk, st => rfl
  | m :: ms, mk, st => by
    show M.bnd (M.bnd m fun t => M.bnd (argsM (ms ++ mk)) fun ts => M.ret (fz t :: ts)) k st = M.bnd (M.bnd m fun t => M.bnd (argsM ms) fun ts => M.ret (fz t :: ts)) (fun ts => M.bnd (argsM mk) fun us => k (ts ++ us)) st
    have ih := fun (s : Sl) (t : T1) => argsM_app (k := fun ts => k (fz t :: ts)) (ms := ms) (mk := mk) (st := s)
    unfold M.bnd M.ret at *
    cases m st with
    | ok t s1 =>
      have := ih s1 t
      simp only at this ⊢
      cases h1 : argsM (ms ++ mk) s1 with
      | ok ts s2 =>
        rw [h1] at this
        simp only at this ⊢
        cases h2 : argsM ms s1 with
        | ok us s3 => rw [h2] at this; simpa using this
        | exc e s => rw [h2] at this; simpa using this
        | no => rw [h2] at this; simpa using this
      | exc e s =>
        rw [h1] at this
        simp only at this ⊢
        cases h2 : argsM ms s1 with
        | ok us s3 => rw [h2] at this; simpa using this
        | exc e s => rw [h2] at this; simpa using this
        | no => rw [h2] at this; simpa using this
      | no =>
        rw [h1] at this
        simp only at this ⊢
        cases h2 : argsM ms s1 with
        | ok us s3 => rw [h2] at this; simpa using this
        | exc e s => rw [h2] at this; simpa using this
        | no => rw [h2] at this
    | exc e s => rfl
    | no => rfl
theorem sk_both (h : SA T X c W (e :: es) (argsM ms)) (hk : SY T X c W kws (argsM mk)) (hn : ms.length = n := by rfl) (hnk : mk.length = ks.length := by rfl) (he : starEach (e :: es) X.env = (false, eval e X.env) :: starEach es X.env := by rfl)
    (hall : ∀ pos : Pos, (backToKw pos (keywordEach kws X.env)).all (·.1.isSome) = true := by intro _; rfl) (hks : ∀ pos : Pos, (backToKw pos (keywordEach kws X.env)).filterMap (·.1) = ks := by intro _; rfl)
    (hpl : ∀ pos : Pos, ((backTo pos (starEach (e :: es) X.env)).any (·.1) || (backToKw pos (keywordEach kws X.env)).any (·.1.isNone)) = false := by intro _; rfl) : SK T X c W (e :: es) kws n ks (ms ++ mk) := by
  refine ⟨fun st o σ H F Q R q => ?_, hpl⟩
  intro pos pins s f I
  have q1 : PostR X.K T c W σ F (fun ts o' st' H' F' => ∀ vs, TRL X.K T c o' st' σ H' F' vs ts → Q vs H') (M.bnd (argsM ms) (fun ts => M.bnd (argsM mk) fun us => M.ret (ts ++ us)) st) := by
    rw [← argsM_app]
    have : M.bnd (argsM (ms ++ mk)) M.ret st = argsM (ms ++ mk) st := by unfold M.bnd M.ret; cases argsM (ms ++ mk) st <;> rfl
    rw [this]
    exact q
  have h1 := h.run st o σ H F (fun vs H1 => vs.length = n ∧ tWY X kws σ H1 fun zs H2 => zs.length = ks.length ∧ Q (vs ++ zs) H2) R ((PostR.bnd q1).eqn.imp fun ts o1 s1 H1 F1 e1 R1 p1 vs tvs => ?_)
  · refine evalArgs_kw2 (hall pos) (thn (h1 pos pins s I) fun us s1 ⟨vs, H1, I1, r, l, q2⟩ => thn (q2 pos pins s1 I1) fun ws s2 ⟨zs, H2, I2, r2, l2, q3⟩ => ?_) he
    rw [hks pos]
    exact ⟨vs ++ zs, us, ws, H2, rfl, by rw [← r.length, l], by rw [← r2.length, l2], I2, r.append r2, q3⟩
  · refine ⟨by rw [tvs.len, argsM_len p1.2, hn], hk.run s1 o1 σ H1 F1 _ R1 ((PostR.bnd p1.1).eqn.imp fun us o2 s2 H2 F2 e2 R2 p2 zs tzs => ⟨by rw [tzs.len, argsM_len p2.2, hnk], p2.1 o2 H2 F2 (Ex.refl F2) R2 _ (TRL.app (tvs.ext e2) tzs)⟩)⟩
end

/-- a def, and how a call of n values and the keywords ks binds it -/
structure CalB (gd : Bool) (P : Program) (w : World) (K : PySem.W.Frag) (mg : Str → Option Value) (base : Heap) (T : Tb) (k : Nat) (f : Addr) (bs : List Bool) (g : List D → FR) (n : Nat) (ks : List Str) (pi : List Nat) (dfl : List D) : Prop where
  ex : ∃ (fd : FuncData) (ps : List Str) (dvs : List V) (dus : List Value), FnG gd P w K mg base (L2.CX P w) k f fd ps (spF K T bs g) ∧ Vals dvs dus ∧ (∀ F, RpL K T F dfl dvs) ∧
    ∀ (s : Shared) (us ws : List Value), K.In s.heap → us.length = n → ws.length = ks.length → BindsTo s fd ⟨us, ks.zip ws⟩ (ps.zip (picks pi (us ++ ws ++ dus)))
abbrev Cal (gd : Bool) (X : Cx) (T : Tb) (k : Nat) (f : Addr) (bs : List Bool) (g : List D → FR) (n : Nat) (ks : List Str) (pi : List Nat) (dfl : List D) : Prop := CalB gd X.prog X.w X.K X.mg X.base T k f bs g n ks pi dfl
structure FnKB (gd : Bool) (P : Program) (w : World) (K : PySem.W.Frag) (mg : Str → Option Value) (base : Heap) (T : Tb) (k : Nat) (x : Str) (bs : List Bool) (g : List D → FR) (n : Nat) (ks : List Str) (pi : List Nat) (dfl : List D) : Prop where
  ex : ∃ f : Addr, mg x = some (.ref f) ∧ PySem.W.keepIn K (.ref f) = true ∧ CalB gd P w K mg base T k f bs g n ks pi dfl
abbrev FnK (gd : Bool) (X : Cx) (T : Tb) (k : Nat) (x : Str) (bs : List Bool) (g : List D → FR) (n : Nat) (ks : List Str) (pi : List Nat) (dfl : List D) : Prop := FnKB gd X.prog X.w X.K X.mg X.base T k x bs g n ks pi dfl
def callP (bs : List Bool) (g : List D → FR) (pi : List Nat) (dfl : List D) (ms : List (M T1)) : M T1 := M.bnd (argsM ms) fun ts => callT bs g (picks pi (ts ++ dfl.map T1.vl))
section
variable {T : Tb} {X : Cx} {c : Fc} {W : WX} {pos p apos cpos kpos : Pos} {e ob : Expr} {es : List Expr} {kws : List Keyword} {m ma : M T1} {ms mk : List (M T1)} {gd : Bool} {n k : Nat} {ks : List Str} {nm : Option Str} {f : Addr} {bs : List Bool} {g : List D → FR} {pi : List Nat} {dfl : List D} {x : Str}
/-- the callee runs on what the arguments gave -/
theorem CalB.run {pins : List (Addr × Obj)} {σ : L2.St} {H : Hp} {s : Shared} {Q : VK} {o : Nat → Addr} {st : Sl} {F : Hp} {us ws : List Value} {vs : List V} {ts : List T1} (C : CalB gd X.prog X.w X.K X.mg X.base T k f bs g n ks pi dfl) (hgd : gd = true → X.A.guards = some []) (hr : Room k X.A) (tk : Takes X W) (I : Inv X pins σ H s) (l1 : us.length = n) (l2 : ws.length = ks.length)
    (r : Vals vs (us ++ ws)) (h : ∀ dvs, (∀ F, RpL X.K T F dfl dvs) → spF X.K T bs g (picks pi (vs ++ dvs)) H Q (WE W σ)) : wpAny (model X.prog X.w) X.A (call (.ref f) us (ks.zip ws)) (EP X pins σ Q) X.xe s := by
  obtain ⟨fd, ps, dvs, dus, F, hd, rd, hb⟩ := C.ex
  exact run_core F hgd hr tk I (fun _ => hb s us ws I.kIn l1 l2) (vals_picks (r.append hd)) (h dvs rd)
theorem se_callP (C : FnK gd X T k x bs g n ks pi dfl) (hgd : gd = true → X.A.guards = some []) (hr : Room k X.A) (tk : Takes X W) (hg : Gl X x) (h : SK T X c W es kws n ks ms) (hdb : (x == ("__debug__" : Str)) = false := by decide) :
    SE T X c W (.Call (.Name x p) es kws pos) (callP bs g pi dfl ms) := by
  obtain ⟨f, hm, hk, C⟩ := C.ex
  refine ⟨fun st o σ H F1 Q R q => ?_⟩
  intro pins s I
  refine wpAny_Call_Name_kw (ld_glob I hg hm ?_ hdb)
  have h1 := h.run st o σ H F1 (fun vs H1 => ∀ dvs, (∀ F, RpL X.K T F dfl dvs) → spF X.K T bs g (picks pi (vs ++ dvs)) H1 Q (WE W σ)) R ((PostR.bnd q).imp fun ts o1 s1 H1 F2 e1 R1 p1 vs tvs dvs rd => call_core R1 (tvs.app (TRL.vls (rd F2))).picks p1)
  refine PySem.W.callWith_of (h.pl pos) (PySem.W.keeps_K hk) (thn (h1 pos pins s (.ref f) I) fun a s1 ⟨vs, us, ws, H1, ea, l1, l2, I1, r, q⟩ => ⟨I1.kIn, ?_⟩)
  subst ea
  exact C.run (o := o) (st := st) (F := F1) (ts := []) hgd hr tk I1 l1 l2 r q

/-! own methods -/
structure MtKB (gd : Bool) (P : Program) (w : World) (K : PySem.W.Frag) (mg : Str → Option Value) (base : Heap) (T : Tb) (k : Nat) (cc : Nat) (m : Str) (bs : List Bool) (g : List D → FR) (n : Nat) (ks : List Str) (pi : List Nat) (dfl : List D) : Prop where
  cls : Cls K (T.cl cc)
  no : m ∉ T.an cc
  ex : ∃ f : Addr, Meth K (T.cl cc) m f ∧ CalB gd P w K mg base T k f bs g (n + 1) ks pi dfl
abbrev MtK (gd : Bool) (X : Cx) (T : Tb) (k : Nat) (cc : Nat) (m : Str) (bs : List Bool) (g : List D → FR) (n : Nat) (ks : List Str) (pi : List Nat) (dfl : List D) : Prop := MtKB gd X.prog X.w X.K X.mg X.base T k cc m bs g n ks pi dfl
def isIns (cc : Nat) : D → Bool
  | .ins c _ => c == cc
  | _ => false
def methP (cc : Nat) (bs : List Bool) (g : List D → FR) (pi : List Nat) (dfl : List D) (a : M T1) (ms : List (M T1)) : M T1 := M.bnd a fun t => M.bnd (rv t) fun d => if isIns cc d = true then M.bnd (argsM ms) fun ts => callT bs g (picks pi (fz t :: ts ++ dfl.map T1.vl)) else stk
theorem isIns_see {F H : Hp} {d : D} {x : V} {cc : Nat} (e : Ex F H) (h : See X.K T F H d x) (t : isIns cc d = true) : ∃ a dx fs, x = .ref a ∧ H a = some (.ins (T.cl cc) dx fs) ∧ fs.map (·.1) = (T.an cc).take fs.length := by
  cases d with
  | ins c ds =>
    obtain rfl : c = cc := beq_iff_eq.mp t
    obtain ⟨a, dx, fs, h1, h2, h3, _⟩ := h.ins e
    exact ⟨a, dx, fs, h1, h2, h3⟩
  | _ => cases t
theorem lookup_out {m : Str} : ∀ {fs : List (Str × V)} {ns : List Str}, fs.map (·.1) = ns.take fs.length → m ∉ ns → fs.lookup m = none
  | [], ns, _, _ => rfl
  | (g, w) :: fs, [], h, _ => by simp at h
  | (g, w) :: fs, n :: ns, h, hn => by
    simp at h
    obtain ⟨rfl, h⟩ := h
    have n1 : (m == g) = false := beq_eq_false_iff_ne.mpr fun z => hn (by rw [z]; exact List.mem_cons_self)
    simp only [List.lookup, n1]
    exact lookup_out h fun z => hn (List.mem_cons_of_mem _ z)
theorem se_meth {cc : Nat} {m : Str} (C : MtK gd X T k cc m bs g n ks pi dfl) (hgd : gd = true → X.A.guards = some []) (hr : Room k X.A) (tk : Takes X W) (ha : SE T X c W ob ma) (h : SK T X c W es kws n ks ms) {pl : Sem Bool}
    (ht : eval (.Call (.Attribute ob m apos) es kws pos) X.env = (do
      let ov ← eval ob X.env
      standAt apos.atName
      let (f, first) ← holding [ov] (getMethod ov m pl)
      callWith pos f first (backTo pos (starEach es X.env)) (backToKw pos (keywordEach kws X.env))) := by rfl) :
    SE T X c W (.Call (.Attribute ob m apos) es kws pos) (methP cc bs g pi dfl ma ms) := by
  obtain ⟨f, hm, Ca⟩ := C.ex
  refine ⟨fun st o σ H F1 Q R q => ?_⟩
  intro pins s I
  have h0 := ha.run st o σ H F1 (fun v H1 => ∃ a dx fs, v = .ref a ∧ H1 a = some (.ins (T.cl cc) dx fs) ∧ fs.lookup m = none ∧ tWK X es kws n ks σ H1 fun vs H2 => ∀ dvs, (∀ F, RpL X.K T F dfl dvs) → spF X.K T bs g (picks pi (.ref a :: vs ++ dvs)) H2 Q (WE W σ)) R
    ((PostR.bnd q).imp fun t o1 s1 H1 F2 e1 R1 p1 v tr => ?_)
  · refine PySem.W.methodCall_KW (pl := pl) (thn (h0 pins s I) fun u s1 ⟨v, H1, I1, rx, a, dx, fs, ev, ea, hl, q⟩ => ?_) ht
    subst ev
    obtain rfl : u = Value.ref a := rx
    refine getmeth_ok I1 ea C.cls hm hl ?_
    refine PySem.W.callWith_of (h.pl pos) (PySem.W.keeps_K hm.kp) (thn (q pos pins s1 (.ref f) I1) fun a' s2 ⟨vs, us, ws, H2, ea', l1, l2, I2, r, q2⟩ => ⟨I2.kIn, ?_⟩)
    subst ea'
    exact Ca.run (o := o) (st := st) (F := F1) (ts := []) (us := .ref a :: us) (vs := .ref a :: vs) hgd hr tk I2 (by simp [l1]) l2 (.cons rfl r) q2
  · obtain ⟨F3, e3, R3, tr3⟩ := R1.fz tr
    have p1 := PostR.ext e3 p1
    rw [← rv_fz] at p1
    obtain ⟨d0, sd0, p2⟩ := rv_see R3 tr3 p1
    by_cases ht : isIns cc d0 = true
    · rw [if_pos ht] at p2
      obtain ⟨a, dx, fs, rfl, h1, h2⟩ := isIns_see R3.sub sd0 ht
      refine ⟨a, dx, fs, rfl, h1, lookup_out h2 C.no, h.run s1 o1 σ H1 F3 _ R3 ((PostR.bnd p2).imp fun ts o4 s4 H4 F4 e4 R4 p4 vs tvs dvs rd => ?_)⟩
      refine call_core R4 (TRL.picks (vs := .ref a :: vs ++ dvs) (ts := fz t :: ts ++ dfl.map T1.vl) (TRL.app (vs := .ref a :: vs) (ts := fz t :: ts) ⟨?_, by cases t <;> rfl, tvs⟩ (TRL.vls (rd F4)))) p4
      have h5 := tr3.ext (o' := o4) (st' := s4) (H' := H4) e4
      cases t <;> exact h5
    · rw [if_neg ht] at p2
      exact p2.elim

/-! classmethods -/
structure CmKB (gd : Bool) (P : Program) (w : World) (K : PySem.W.Frag) (mg : Str → Option Value) (base : Heap) (T : Tb) (k : Nat) (cc : Nat) (m : Str) (bs : List Bool) (g : List D → FR) (n : Nat) (ks : List Str) (pi : List Nat) (dfl : List D) : Prop where
  ex : ∃ (mc : Value) (q f : Addr), ClX.CRead K (T.cl cc) mc ∧ ClX.CMet K (T.cl cc) mc m q f ∧ CalB gd P w K mg base T k f bs g (n + 1) ks pi dfl
abbrev CmK (gd : Bool) (X : Cx) (T : Tb) (k : Nat) (cc : Nat) (m : Str) (bs : List Bool) (g : List D → FR) (n : Nat) (ks : List Str) (pi : List Nat) (dfl : List D) : Prop := CmKB gd X.prog X.w X.K X.mg X.base T k cc m bs g n ks pi dfl
def isCls (cc : Nat) : D → Bool
  | .cls c => c == cc
  | _ => false
def cmetP (cc : Nat) (bs : List Bool) (g : List D → FR) (pi : List Nat) (dfl : List D) (a : M T1) (ms : List (M T1)) : M T1 := M.bnd a fun t => M.bnd (rv t) fun d => if isCls cc d = true then M.bnd (argsM ms) fun ts => callT bs g (picks pi (T1.vl (.cls cc) :: ts ++ dfl.map T1.vl)) else stk
theorem isCls_see {F H : Hp} {d : D} {x : V} {cc : Nat} (h : See X.K T F H d x) (t : isCls cc d = true) : x = .ref (T.cl cc) := by
  cases d with
  | cls c =>
    obtain rfl : c = cc := beq_iff_eq.mp t
    exact h.cls
  | _ => cases t
theorem se_cmet {cc : Nat} {m : Str} (C : CmK gd X T k cc m bs g n ks pi dfl) (hgd : gd = true → X.A.guards = some []) (hr : Room k X.A) (tk : Takes X W) (ha : SE T X c W ob ma) (h : SK T X c W es kws n ks ms) {pl : Sem Bool}
    (ht : eval (.Call (.Attribute ob m apos) es kws pos) X.env = (do
      let ov ← eval ob X.env
      standAt apos.atName
      let (f, first) ← holding [ov] (getMethod ov m pl)
      callWith pos f first (backTo pos (starEach es X.env)) (backToKw pos (keywordEach kws X.env))) := by rfl) :
    SE T X c W (.Call (.Attribute ob m apos) es kws pos) (cmetP cc bs g pi dfl ma ms) := by
  obtain ⟨mc, qa, f, cr, cm, Ca⟩ := C.ex
  refine ⟨fun st o σ H F1 Q R q => ?_⟩
  intro pins s I
  have h0 := ha.run st o σ H F1 (fun v H1 => v = .ref (T.cl cc) ∧ tWK X es kws n ks σ H1 fun vs H2 => ∀ dvs, (∀ F, RpL X.K T F dfl dvs) → spF X.K T bs g (picks pi (.ref (T.cl cc) :: vs ++ dvs)) H2 Q (WE W σ)) R
    ((PostR.bnd q).imp fun t o1 s1 H1 F2 e1 R1 p1 v tr => ?_)
  · refine PySem.W.methodCall_KW (pl := pl) (thn (h0 pins s I) fun u s1 ⟨v, H1, I1, rx, ev, q⟩ => ?_) ht
    subst ev
    obtain rfl : u = Value.ref (T.cl cc) := rx
    refine ClX.getmethcm_ok I1 cr cm fun s2 I2 => ?_
    refine PySem.W.callWith_of (P := PySem.W.MethP X.K s1.heap.objs.size f (.ref (T.cl cc))) (h.pl pos) (PySem.W.keeps_M cm.fi) (thn (q pos _ s2 (.ref s1.heap.objs.size) I2) fun a' s3 ⟨vs, us, ws, H2, ea', l1, l2, I3, r, q2⟩ => ⟨⟨ClX.pin_at I3, I3.kIn⟩, ?_⟩)
    subst ea'
    obtain ⟨fd, ps, dvs, dus, Fn, hd, rd, hb⟩ := Ca.ex
    have z : wpAny (model X.prog X.w) X.A (call (.ref s1.heap.objs.size) us (ks.zip ws)) (EP X ((s1.heap.objs.size, PySem.W.methodObj (.ref f) (.ref (T.cl cc))) :: pins) σ Q) X.xe s3 := by
      refine wpAny_call (PySem.W.method_call (ClX.pin_at I3) (codeAny_mono (Fn.run X.A X.stack s3 H2 ⟨.ref (T.cl cc) :: us, ks.zip ws⟩ (picks pi (.ref (T.cl cc) :: us ++ ws ++ dus)) (picks pi (.ref (T.cl cc) :: vs ++ dvs)) Q (WE W σ) hgd hr I3.env0 (hb s3 (.ref (T.cl cc) :: us) ws I3.kIn (by simp [l1]) l2)
        (vals_picks (by have r3 : Vals (V.ref (T.cl cc) :: vs ++ dvs) (Value.ref (T.cl cc) :: (us ++ ws) ++ dus) := Vals.append (.cons rfl r) hd
                        simpa using r3)) (q2 dvs rd)) fun r s' hq => ?_))
      cases r with
      | error e => exact passAt tk σ _ H2 s3 e s' I3 hq
      | ok fl =>
        cases fl with
        | ret u => exact I3.after hq
        | next => exact False.elim hq
        | brk => exact False.elim hq
        | cont => exact False.elim hq
    exact thn z fun _ _ y => ClX.unpinE y
  · obtain ⟨F3, e3, R3, tr3⟩ := R1.fz tr
    have p1 := PostR.ext e3 p1
    rw [← rv_fz] at p1
    obtain ⟨d0, sd0, p2⟩ := rv_see R3 tr3 p1
    by_cases ht : isCls cc d0 = true
    · rw [if_pos ht] at p2
      have ev := isCls_see sd0 ht
      subst ev
      refine ⟨rfl, h.run s1 o1 σ H1 F3 _ R3 ((PostR.bnd p2).imp fun ts o4 s4 H4 F4 e4 R4 p4 vs tvs dvs rd => ?_)⟩
      exact call_core R4 (TRL.picks (vs := .ref (T.cl cc) :: vs ++ dvs) (ts := T1.vl (.cls cc) :: ts ++ dfl.map T1.vl) (TRL.app (vs := .ref (T.cl cc) :: vs) (ts := T1.vl (.cls cc) :: ts) ⟨by show Rp _ _ _ _ _; unfold Rp; rfl, rfl, tvs⟩ (TRL.vls (rd F4)))) p4
    · rw [if_neg ht] at p2
      exact p2.elim
end
end Fw
end

section
set_option maxRecDepth 100000
set_option maxHeartbeats 2000000
namespace Fw
open PySem PySem.Spec PyProof.Rows L2

/-! ### constructors -/
structure MkKB (gd : Bool) (P : Program) (w : World) (K : PySem.W.Frag) (mg : Str → Option Value) (base : Heap) (T : Tb) (k : Nat) (cc : Nat) (g : List D → FR) (n : Nat) (ks : List Str) (pi : List Nat) (dfl : List D) : Prop where
  ex : ∃ f : Addr, Mk K (T.cl cc) f ∧ CalB gd P w K mg base T k f (true :: pi.map fun _ => false) g (n + 1) ks (0 :: pi.map (· + 1)) dfl
abbrev MkK (gd : Bool) (X : Cx) (T : Tb) (k : Nat) (cc : Nat) (g : List D → FR) (n : Nat) (ks : List Str) (pi : List Nat) (dfl : List D) : Prop := MkKB gd X.prog X.w X.K X.mg X.base T k cc g n ks pi dfl
def makT (cc : Nat) (g : List D → FR) (pi : List Nat) (dfl : List D) (ts : List T1) : M T1 := fun st => match resO (pi.map fun _ => false) (picks pi (ts ++ dfl.map T1.vl)) st with
  | none => .no
  | some ds => match g (.ins cc [] :: ds) with
    | .ok false .non [o] => .ok (.fr o) st
    | .exc e _ => .exc e st
    | _ => .no
def makP (cc : Nat) (g : List D → FR) (pi : List Nat) (dfl : List D) (ms : List (M T1)) : M T1 := M.bnd (argsM ms) (makT cc g pi dfl)
theorem picks_succ {α : Type} {x : α} {l : List α} : ∀ {pi : List Nat}, picks (pi.map (· + 1)) (x :: l) = picks pi l
  | [] => rfl
  | i :: pi => by
    have := picks_succ (x := x) (l := l) (pi := pi)
    unfold picks at *
    simp only [List.map_cons, List.filterMap_cons]
    simp only [List.getElem?_cons_succ] at *
    rw [this]
theorem picks_zero {α : Type} {x : α} {l : List α} {pi : List Nat} : picks (0 :: pi.map (· + 1)) (x :: l) = x :: picks pi l := by
  have := picks_succ (x := x) (l := l) (pi := pi)
  unfold picks at *
  simp only [List.filterMap_cons, List.getElem?_cons_zero]
  rw [this]
theorem pks_false : ∀ {pi : List Nat} {ts : List T1}, pks (pi.map fun _ => false) ts = []
  | [], ts => by cases ts <;> rfl
  | i :: pi, [] => rfl
  | i :: pi, t :: ts => pks_false (pi := pi) (ts := ts)
theorem refIn_false {pi : List Nat} {vs : List V} {i : Nat} {a : Addr} : ¬ RefIn (pi.map fun _ => false) vs i a := fun h => by
  have h1 := h.1
  rw [List.getElem?_map] at h1
  cases e : pi[i]? with
  | none => rw [e] at h1; cases h1
  | some x => rw [e] at h1; cases h1
theorem outP_false {P : Addr → D → Prop} : ∀ {pi : List Nat} {vs : List V}, OutP P (pi.map fun _ => false) vs []
  | [], vs => rfl
  | i :: pi, vs => outP_false (pi := pi) (vs := vs.tail)
section
variable {T : Tb} {X : Cx} {c : Fc} {W : WX} {pos p apos cpos kpos : Pos} {e ob : Expr} {es : List Expr} {kws : List Keyword} {m ma : M T1} {ms mk : List (M T1)} {gd : Bool} {n k : Nat} {ks : List Str} {nm : Option Str} {f : Addr} {bs : List Bool} {g : List D → FR} {pi : List Nat} {dfl : List D} {x : Str}
/-- what the def __init__ is asked -/
theorem mak_core {cc : Nat} {o : Nat → Addr} {st : Sl} {σ : L2.St} {H F : Hp} {ts : List T1} {vs dvs : List V} {Q : VK} (R : Rel X.K T c o st σ H F) (tr : TRL X.K T c o st σ H F vs ts) (rd : ∀ F, RpL X.K T F dfl dvs)
    (p : PostR X.K T c W σ F (QE X.K T c σ Q) (makT cc g pi dfl ts st)) (x dx : Addr) (hx : H x = none) (hdx : H dx = none) (hne : dx ≠ x) :
    spF X.K T (true :: pi.map fun _ => false) g (.ref x :: picks pi (vs ++ dvs)) (upd (upd H dx (.own x)) x (.ins (T.cl cc) dx [])) (fun v H3 => v = .non ∧ Q (.ref x) H3) (WE W σ) := by
  unfold makT at p
  have trp : TRL X.K T c o st σ H F (picks pi (vs ++ dvs)) (picks pi (ts ++ dfl.map T1.vl)) := (tr.app (TRL.vls (rd F))).picks
  cases er : resO (pi.map fun _ => false) (picks pi (ts ++ dfl.map T1.vl)) st with
  | none => rw [er] at p; exact p.elim
  | some ds =>
    rw [er] at p
    simp only at p
    obtain ⟨A, _, _, _⟩ := resO_ok R trp er
    have eH : Ex H (upd (upd H dx (.own x)) x (.ins (T.cl cc) dx [])) := (Ex.new hdx).trans (Ex.new (by rw [upd_ne (Ne.symm hne)]; exact hx))
    have hFx : F x = none := R.nof hx
    refine ⟨F, .ins cc [] :: ds, R.sub.trans eH, ⟨by simp [A.l1], by simp [A.l2], fun i b v d h1 h2 h3 => ?_⟩, fun i j a z1 z2 => ?_, ?_⟩
    · cases i with
      | zero =>
        simp at h1 h2 h3
        subst h1 h2 h3
        exact (if_pos rfl).mpr ⟨x, _, rfl, hFx, upd_same, dx, [], rfl, rfl, RpL.nil⟩
      | succ i =>
        have h1 : (pi.map fun _ => false)[i]? = some b := by simpa using h1
        have := A.at_ i b v d h1 (by simpa using h2) (by simpa using h3)
        have hb : b = false := by
          rw [List.getElem?_map] at h1
          cases e : pi[i]? with
          | none => rw [e] at h1; cases h1
          | some y => rw [e] at h1; cases h1; rfl
        subst hb
        simpa using this
    · cases i with
      | zero =>
        cases j with
        | zero => rfl
        | succ j => exact absurd (⟨by simpa using z2.1, by simpa using z2.2⟩ : RefIn (pi.map fun _ => false) (picks pi (vs ++ dvs)) j a) refIn_false
      | succ i => exact absurd (⟨by simpa using z1.1, by simpa using z1.2⟩ : RefIn (pi.map fun _ => false) (picks pi (vs ++ dvs)) i a) refIn_false
    · have back : ∀ {F' H' : Hp}, Grow F (upd (upd H dx (.own x)) x (.ins (T.cl cc) dx [])) F' H' (RefIn (true :: pi.map fun _ => false) (.ref x :: picks pi (vs ++ dvs))) → Rel X.K T c o st σ H' F' := fun {F' H'} gr => by
        have gr2 : Grow F H F' H' (RefIn (pi.map fun _ => false) (picks pi (vs ++ dvs))) := ⟨gr.exF, gr.sub, fun a u ha _ => gr.keep a u (eH a u ha) fun i z => by
            cases i with
            | zero =>
              have z2 : (some (V.ref x) : Option V) = some (.ref a) := z.2
              cases z2
              rw [hx] at ha
              cases ha
            | succ i => exact refIn_false (⟨by simpa using z.1, by simpa using z.2⟩ : RefIn (pi.map fun _ => false) (picks pi (vs ++ dvs)) i a), fun a u ha => gr.dom a u (eH a u ha), fun b u hb => by
              rcases gr.new b u hb with z | z
              · exact .inl (eH.free z)
              · exact .inr z⟩
        have := R.called trp er (by rw [pks_false]; exact List.nodup_nil) gr2 (outP_false (vs := picks pi (vs ++ dvs)))
        rw [pks_false] at this
        simpa [putB] using this
      cases hg : g (.ins cc [] :: ds) with
      | no => rw [hg] at p; exact p.elim
      | exc ex outs =>
        rw [hg] at p
        exact fun cl dd F' H' gr _ xr => p cl dd o H' F' gr.exF (back gr) xr
      | ok fr d outs =>
        rw [hg] at p
        cases fr with
        | true => exact p.elim
        | false =>
          cases d with
          | non =>
            match outs, p with
            | [], p => exact p.elim
            | _ :: _ :: _, p => exact p.elim
            | [dd], p =>
              intro v F' H' gr ho rt
              unfold RetR at rt
              rw [if_neg (by decide)] at rt
              unfold Rp at rt
              obtain ⟨a, d1, outs', k1, k2, ⟨k3, u, k4, k5⟩, _⟩ := ho
              cases k1
              cases k2
              refine ⟨rt, p o H' F' gr.exF (back gr) (.ref x) ⟨x, u, rfl, R.no0 hx, k3, k4, k5, R.not hx, fun i r d' z => R.neO hx z⟩⟩
          | _ => exact p.elim
/-- the instance is made and its __init__ runs -/
theorem MkK.run {pins : List (Addr × Obj)} {σ : L2.St} {H : Hp} {s : Shared} {Q : VK} {cc : Nat} {us ws : List Value} {vs : List V} {f : Addr} (M : Mk X.K (T.cl cc) f) (C : Cal gd X T k f (true :: pi.map fun _ => false) g (n + 1) ks (0 :: pi.map (· + 1)) dfl) (hgd : gd = true → X.A.guards = some []) (hr : Room (k + 1) X.A) (tk : Takes X W)
    (I : Inv X pins σ H s) (l1 : us.length = n) (l2 : ws.length = ks.length) (r : Vals vs (us ++ ws))
    (h : ∀ dvs, (∀ F, RpL X.K T F dfl dvs) → ∀ x dx, H x = none → H dx = none → dx ≠ x → spF X.K T (true :: pi.map fun _ => false) g (.ref x :: picks pi (vs ++ dvs)) (upd (upd H dx (.own x)) x (.ins (T.cl cc) dx [])) (fun v H3 => v = .non ∧ Q (.ref x) H3) (WE W σ)) :
    wpAny (model X.prog X.w) X.A (call (.ref (T.cl cc)) us (ks.zip ws)) (EP X pins σ Q) X.xe s := by
  obtain ⟨fd, ps, dvs, dus, F, hd, rd, hb⟩ := C.ex
  have hq := h dvs rd (s.heap.objs.size + 1) s.heap.objs.size (I.hok.fresh (Nat.le_succ _)) (I.hok.fresh (Nat.le_refl _)) (Nat.ne_of_lt (Nat.lt_succ_self _))
  have I2 := Inv.made (C := T.cl cc) I
  have hgd' : gd = true → (X.A.under (.builtin "type.__call__" ⟨.ref (T.cl cc) :: us, ks.zip ws⟩)).guards = some [] := fun z => by
    rw [← hgd z]
    first | rfl | simp [Around.under, Code.guards, Code.isGuard, guardIds, pushGuards]
  have b2 := hb _ (Value.ref (s.heap.objs.size + 1) :: us) ws I2.kIn (by simp [l1]) l2
  have e1 : Value.ref (s.heap.objs.size + 1) :: us ++ ws ++ dus = Value.ref (s.heap.objs.size + 1) :: (us ++ ws ++ dus) := rfl
  rw [e1, picks_zero] at b2
  have r2 : Vals (V.ref (s.heap.objs.size + 1) :: picks pi (vs ++ dvs)) (Value.ref (s.heap.objs.size + 1) :: picks pi (us ++ ws ++ dus)) := .cons rfl (vals_picks (r.append hd))
  refine wpAny_call (make_map (f := f) I.kIn M.makes M.init (beq_iff_eq.mp M.fn) (codeAny_mono (F.run _ X.stack _ _ ⟨Value.ref (s.heap.objs.size + 1) :: us, ks.zip ws⟩ _ _ _ (WE W σ) hgd' (hr.make (T.cl cc) us (ks.zip ws))
    (I2.env0.make (T.cl cc) us (ks.zip ws)) b2 r2 hq) fun r s' hq' => ?_))
  cases r with
  | error e => exact passAt tk σ _ _ _ e s' I2 hq'
  | ok fl =>
    cases fl with
    | ret u =>
      obtain ⟨v, H', I3, rv, ev, q3⟩ := I2.after hq'
      subst ev
      exact ⟨rv, ⟨V.ref (s.heap.objs.size + 1), H', I3, rfl, q3⟩⟩
    | next => exact False.elim hq'
    | brk => exact False.elim hq'
    | cont => exact False.elim hq'
theorem se_make {cc : Nat} (C : MkK gd X T k cc g n ks pi dfl) (hgd : gd = true → X.A.guards = some []) (hr : Room (k + 1) X.A) (tk : Takes X W) (hg : Gl X x) (hm : X.mg x = some (.ref (T.cl cc))) (h : SK T X c W es kws n ks ms) (hdb : (x == ("__debug__" : Str)) = false := by decide) :
    SE T X c W (.Call (.Name x p) es kws pos) (makP cc g pi dfl ms) := by
  obtain ⟨f, M, Ca⟩ := C.ex
  refine ⟨fun st o σ H F1 Q R q => ?_⟩
  intro pins s I
  refine wpAny_Call_Name_kw (ld_glob I hg hm ?_ hdb)
  have h1 := h.run st o σ H F1 (fun vs H1 => ∀ dvs, (∀ F, RpL X.K T F dfl dvs) → ∀ x dx, H1 x = none → H1 dx = none → dx ≠ x → spF X.K T (true :: pi.map fun _ => false) g (.ref x :: picks pi (vs ++ dvs)) (upd (upd H1 dx (.own x)) x (.ins (T.cl cc) dx [])) (fun v H3 => v = .non ∧ Q (.ref x) H3) (WE W σ)) R
    ((PostR.bnd q).imp fun ts o1 s1 H1 F2 e1 R1 p1 vs tvs dvs rd x dx hx hdx hne => mak_core R1 tvs rd p1 x dx hx hdx hne)
  refine PySem.W.callWith_of (h.pl pos) (PySem.W.keeps_K M.kp) (thn (h1 pos pins s _ I) fun a s1 ⟨vs, us, ws, H1, ea, l1, l2, I1, r, q⟩ => ⟨I1.kIn, ?_⟩)
  subst ea
  exact MkK.run M Ca hgd hr tk I1 l1 l2 r q
/-- cls(..), cls a local -/
def makL (i : Nat) (cc : Nat) (g : List D → FR) (pi : List Nat) (dfl : List D) (ms : List (M T1)) : M T1 := fun st => match st[i]? with
  | some (Slot.val d) => if isCls cc d = true then makP cc g pi dfl ms st else .no
  | _ => .no
theorem se_makeL {cc i : Nat} (C : MkK gd X T k cc g n ks pi dfl) (hgd : gd = true → X.A.guards = some []) (hr : Room (k + 1) X.A) (tk : Takes X W) (hN : X.N[i]? = some x) (hv : Vis X.env.scope x) (h : SK T X c W es kws n ks ms) (hdb : (x == ("__debug__" : Str)) = false := by decide) (hcd : (x == ("__classdict__" : Str)) = false := by decide) :
    SE T X c W (.Call (.Name x p) es kws pos) (makL i cc g pi dfl ms) := by
  obtain ⟨f, M, Ca⟩ := C.ex
  refine ⟨fun st o σ H F1 Q R q => ?_⟩
  intro pins s I
  unfold makL at q
  cases es1 : st[i]? with
  | none => rw [es1] at q; exact q.elim
  | some y =>
    cases y with
    | un => rw [es1] at q; exact q.elim
    | fix => rw [es1] at q; exact q.elim
    | own r d => rw [es1] at q; exact q.elim
    | val d =>
      rw [es1] at q
      simp only at q
      by_cases ht : isCls cc d = true
      · rw [if_pos ht] at q
        obtain ⟨v, hs, rv⟩ := R.val i d es1
        have ev := isCls_see (T := T) (X := X) (F := F1) (H := H) (.inl rv) ht
        subst ev
        have h1 := h.run st o σ H F1 (fun vs H1 => ∀ dvs, (∀ F, RpL X.K T F dfl dvs) → ∀ x dx, H1 x = none → H1 dx = none → dx ≠ x → spF X.K T (true :: pi.map fun _ => false) g (.ref x :: picks pi (vs ++ dvs)) (upd (upd H1 dx (.own x)) x (.ins (T.cl cc) dx [])) (fun v H3 => v = .non ∧ Q (.ref x) H3) (WE W σ)) R
          ((PostR.bnd q).imp fun ts o1 s1 H1 F2 e1 R1 p1 vs tvs dvs rd x dx hx hdx hne => mak_core R1 tvs rd p1 x dx hx hdx hne)
        refine wpAny_Call_Name_kw (thn ((pe_var (pos := p) hN hv hdb hcd).run pins s σ H (fun v H1 => v = .ref (T.cl cc) ∧ H1 = H) I ⟨_, hs, rfl, rfl⟩) fun u s1 ⟨v, H1, I1, r1, q1⟩ => ?_)
        obtain ⟨rfl, rfl⟩ := q1
        obtain rfl : u = Value.ref (T.cl cc) := r1
        refine PySem.W.callWith_of (h.pl pos) (PySem.W.keeps_K M.kp) (thn (h1 pos pins s1 _ I1) fun a s2 ⟨vs, us, ws, H2, ea, l1, l2, I2, r, q⟩ => ⟨I2.kIn, ?_⟩)
        subst ea
        exact MkK.run M Ca hgd hr tk I2 l1 l2 r q
      · rw [if_neg ht] at q
        exact q.elim
end

/-! ### stores into the object of a slot -/
def vlO : T1 → Option D
  | .vl d => some d
  | .fr d => some d
  | .pk _ => none
theorem vlO_rp {K : PySem.W.Frag} {T : Tb} {c : Fc} {o : Nat → Addr} {st : Sl} {σ : L2.St} {H F : Hp} {v : V} {t : T1} {d : D} (h : TR K T c o st σ H F v (fz t)) (e : vlO t = some d) : Rp K T F d v := by
  cases t with
  | vl d => cases e; exact h
  | fr d => cases e; exact h
  | pk i => cases e
def dputL (k : L2.Key) (d : D) : List L2.Key → List D → List D
  | k0 :: ks, d0 :: ds => (if k0 = k then d else d0) :: dputL k d ks ds
  | _, _ => []
def dput (ks : List L2.Key) (ds : List D) (k : L2.Key) (d : D) : D := if (ks.any fun q => decide (q = k)) = true then .dic ks (dputL k d ks ds) else .dic (ks ++ [k]) (ds ++ [d])
def setD : D → D → D → Option D
  | .lst ds, .int i, d => (L2.ixN ds.length i).map fun j => .lst (ds.set j d)
  | .dic ks ds, .int i, d => if ks.length ≤ 100000 then some (dput ks ds (.inl i) d) else none
  | .dic ks ds, .str x, d => if ks.length ≤ 100000 then some (dput ks ds (.inr x) d) else none
  | _, _, _ => none
/-- name[ix] = e -/
def sixM (i : Nat) (mi me : M T1) : M Flw := M.bnd me fun t => M.bnd (lf (vlO t)) fun d => M.bnd (pk i) fun _ => M.bnd (ops1 mi) fun y => fun st => match st[i]? with
  | some (Slot.own r d0) => match setD d0 y d with
    | some d1 => .ok .nx (st.set i (Slot.own r d1))
    | none => .no
  | _ => .no
theorem putK_any {k : L2.Key} : ∀ {kvs : List (L2.Key × V)}, (kvs.any fun kv => decide (kv.1 = k)) = ((kvs.map (·.1)).any fun q => decide (q = k))
  | [] => rfl
  | p :: r => by simp [putK_any (kvs := r)]
theorem dputL_rp {K : PySem.W.Frag} {T : Tb} {F : Hp} {k : L2.Key} {d : D} {v : V} (hd : Rp K T F d v) : ∀ {kvs : List (L2.Key × V)} {ds : List D}, RpL K T F ds (kvs.map (·.2)) → (kvs.map fun kv => if kv.1 = k then (kv.1, v) else kv).map (·.1) = kvs.map (·.1) ∧ RpL K T F (dputL k d (kvs.map (·.1)) ds) ((kvs.map fun kv => if kv.1 = k then (kv.1, v) else kv).map (·.2))
  | [], ds, r => by cases ds <;> exact ⟨rfl, RpL.nil⟩
  | p :: kvs, [], r => by unfold RpL at r; cases r
  | p :: kvs, d0 :: ds, r => by
    unfold RpL at r
    obtain ⟨w, vs', e1, r1, r2⟩ := r
    cases e1
    obtain ⟨h1, h2⟩ := dputL_rp hd (kvs := kvs) r2
    by_cases hk : p.1 = k
    · refine ⟨by simp only [List.map_cons, if_pos hk]; rw [h1], ?_⟩
      simp only [List.map_cons, dputL, if_pos hk]
      exact RpL.cons hd h2
    · refine ⟨by simp only [List.map_cons, if_neg hk]; rw [h1], ?_⟩
      simp only [List.map_cons, dputL, if_neg hk]
      exact RpL.cons r1 h2
theorem dput_ob {K : PySem.W.Frag} {T : Tb} {F : Hp} {k : L2.Key} {d : D} {v : V} {kvs : List (L2.Key × V)} {ds : List D} (hd : Rp K T F d v) (r : RpL K T F ds (kvs.map (·.2))) : Ob K T F (dput (kvs.map (·.1)) ds k d) (.dK (putK kvs k v)) := by
  unfold dput putK
  rw [putK_any]
  by_cases h : ((kvs.map (·.1)).any fun q => decide (q = k)) = true
  · rw [if_pos h, if_pos h]
    obtain ⟨h1, h2⟩ := dputL_rp (k := k) hd r
    exact ⟨_, rfl, h1, h2⟩
  · rw [if_neg h, if_neg h]
    exact ⟨_, rfl, by simp, by simpa using r.snoc hd⟩
section
variable {T : Tb} {X : Cx} {c : Fc} {W : WX} {pos p apos cpos pos' : Pos} {e ob ix : Expr} {mi me : M T1} {i : Nat} {f : Str}
def stW (X : Cx) : TSet := fun o i v H Q => ∀ (pins : List (Addr × Obj)) (s : Shared) (σ : L2.St) (ov iv u : Value), Inv X pins σ H s → RelV o ov → RelV i iv → RelV v u → wpAny (model X.prog X.w) X.A (setItem ov iv u) (fun _ s' => ∃ H', Inv X pins σ H' s' ∧ Q H') X.xe s
theorem pset_stW : PSet X (stW X) := fun pins s σ H o i v ov iv u Q I ro ri rv h => h pins s σ ov iv u I ro ri rv
theorem stW_of {t : TSet} (h : PSet X t) {o i v : V} {H : Hp} {Q : Hp → Prop} (q : t o i v H Q) : stW X o i v H Q := fun pins s σ ov iv u I ro ri rv => h pins s σ H o i v ov iv u Q I ro ri rv q
theorem ss_six (hu : X.A.units + 1 < cLine) (ho : PE X ob (tVar i)) (hi : SE T X c W ix mi) (he : SE T X c W e me)
    (ha : ∀ v, assign (.Subscript ob ix pos') X.env v = (do
      let ov ← holding [v] (eval ob X.env)
      let iv ← holding [v, ov] (eval ix X.env)
      standAt pos'
      holding [v, ov, iv] (setItem ov iv v)
      release [v, ov, iv] []) := by intro _; rfl)
    (hs : swapsWithSole [.Subscript ob ix pos'] e pos.line X.env = pure false := by rfl) (hw : swappedStores [.Subscript ob ix pos'] e X.env = pure none := by rfl)
    (h1 : (assignEach [.Subscript ob ix pos'] X.env).map (·.2) = [assign (.Subscript ob ix pos') X.env] := by rfl) : SS T X c W (.Assign [.Subscript ob ix pos'] e pos) (sixM i mi me) := by
  refine ⟨fun st o σ H F D R q => tWS_of (ps_asg pe_tW (pg_sub ho pe_tW (pset_stW (X := X)) ha) hs hw h1) ?_⟩
  refine he.run st o σ H F _ R ((PS1.bnd q).imp fun t o1 s1 H1 F1 e1 R1 p1 v tr => ?_)
  obtain ⟨F2, e2, R2, tr2⟩ := R1.fz tr
  obtain ⟨d, hd, p2⟩ := (PS1.ext e2 p1).lf
  have rp := vlO_rp tr2 hd
  have p3 := PS1.bnd (σ := σ) p2
  have pkv : ∃ w, σ[i]? = some (some w) ∧ PS1 X.K T c W F2 D (M.bnd (ops1 mi) (fun y => fun st => match st[i]? with
      | some (Slot.own r d0) => match setD d0 y d with
        | some d1 => Res.ok Flw.nx (st.set i (Slot.own r d1))
        | none => .no
      | _ => .no) s1) := by
    unfold pk at p3
    cases es : s1[i]? with
    | none => rw [es] at p3; exact p3.elim
    | some x =>
      rw [es] at p3
      cases x with
      | un => exact p3.elim
      | fix => exact p3.elim
      | val d =>
        obtain ⟨v, h1, h2⟩ := R2.val i d es
        exact ⟨v, h1, p3 o1 H1 F2 (Ex.refl F2) R2⟩
      | own r d =>
        obtain ⟨h1, _⟩ := R2.own i r d es
        exact ⟨_, h1, p3 o1 H1 F2 (Ex.refl F2) R2⟩
  obtain ⟨w, hw, p4⟩ := pkv
  refine ⟨w, hw, ?_⟩
  have p5 : PostR X.K T c W σ F2 (fun y _ s1 _ F1 => PS1 X.K T c W F1 D ((fun st => match st[i]? with
      | some (Slot.own r d0) => match setD d0 y d with
        | some d1 => Res.ok Flw.nx (st.set i (Slot.own r d1))
        | none => .no
      | _ => .no) s1)) (M.bnd mi rv s1) := PS1.bnd (m := ops1 mi) p4
  refine hi.run s1 o1 σ H1 F2 _ R2 ((PostR.bnd p5).imp fun t3 o3 s3 H3 F3 e3 R3 p6 y tr3 => ?_)
  obtain ⟨F4, e4, R4, tr4⟩ := R3.fz tr3
  have p7 := PostR.ext e4 p6
  have p8 : PostR X.K T c W σ F4 (fun y _ s1 _ F1 => PS1 X.K T c W F1 D ((fun st => match st[i]? with
      | some (Slot.own r d0) => match setD d0 y d with
        | some d1 => Res.ok Flw.nx (st.set i (Slot.own r d1))
        | none => .no
      | _ => .no) s1)) (M.bnd (rv (fz t3)) (fun d => M.ret d) s3) := by
    rw [rv_fz]
    have : M.bnd (rv t3) (fun d => M.ret d) s3 = rv t3 s3 := by unfold M.bnd M.ret; cases rv t3 s3 <;> rfl
    rw [this]
    exact p7
  obtain ⟨dy, sy, p9⟩ := rv_see R4 tr4 p8
  have p10 := p9 o3 H3 F4 (Ex.refl F4) R4
  simp only at p10
  cases es : s3[i]? with
  | none => rw [es] at p10; exact p10.elim
  | some x =>
    cases x with
    | un => rw [es] at p10; exact p10.elim
    | fix => rw [es] at p10; exact p10.elim
    | val d => rw [es] at p10; exact p10.elim
    | own r d0 =>
      rw [es] at p10
      simp only at p10
      cases hg : setD d0 dy d with
      | none => rw [hg] at p10; exact p10.elim
      | some d1 =>
        rw [hg] at p10
        obtain ⟨k1, k2, ⟨u, k3, k4⟩, k5⟩ := R4.own i r d0 es
        have ew : w = .ref (o3 i) := by
          rw [k1] at hw
          exact (Option.some.inj (Option.some.inj hw)).symm
        subst ew
        have rpd : Rp X.K T F4 d v := rp.mono (e3.trans e4)
        have fin : ∀ u', Ob X.K T F4 d1 u' → D.nx σ (upd H3 (o3 i) u') := fun u' ho => p10 o3 σ _ F4 (Ex.refl F4) (R4.mut es ho)
        cases d0 with
        | lst ds =>
          cases dy with
          | int j =>
            cases sy.int
            obtain ⟨vs, rfl, r1⟩ := k4
            obtain ⟨q, hq, rfl⟩ := Option.map_eq_some_iff.mp hg
            exact stW_of set_list ⟨o3 i, vs, j, q, rfl, rfl, k3, by rw [r1.len]; exact hq, fin _ ⟨_, rfl, r1.set q rpd⟩⟩
          | _ => cases hg
        | dic ks ds =>
          have key : ∀ k : L2.Key, y = kV k → (if ks.length ≤ 100000 then some (dput ks ds k d) else none) = some d1 → stW X (.ref (o3 i)) y v H3 fun H3 => D.nx σ H3 := fun k ey hk => by
            by_cases hl : ks.length ≤ 100000
            · rw [if_pos hl] at hk
              cases hk
              obtain ⟨kvs, rfl, r1, r2⟩ := k4
              subst r1
              refine stW_of (set_dict hu) ⟨o3 i, _, rfl, by rw [ey]; exact DPut.k k3 (by rw [List.length_map] at hl; rw [sizeLine_eq]; omega), fin _ (dput_ob rpd r2)⟩
            · rw [if_neg hl] at hk
              cases hk
          cases dy with
          | int j => exact key (.inl j) sy.int hg
          | str z => exact key (.inr z) sy.str hg
          | _ => cases hg
        | _ => cases hg
end
end Fw
end

section
set_option maxRecDepth 100000
set_option maxHeartbeats 2000000
namespace Fw
open PySem PySem.Spec PyProof.Rows L2

/-! ### self.f = e -/
def setF (j : Nat) (ds : List D) (d : D) : Option (List D) := if ds.length < 1000 then if j < ds.length then some (ds.set j d) else if j = ds.length then some (ds ++ [d]) else none else none
def fldD (ix : Nat → Option Nat) (d : D) : D → Option D
  | .ins c ds => (ix c).bind fun j => (setF j ds d).map fun ds' => .ins c ds'
  | _ => none
def fldM (i : Nat) (ix : Nat → Option Nat) (me : M T1) : M Flw := M.bnd me fun t => M.bnd (lf (vlO t)) fun d => fun st => match st[i]? with
  | some (Slot.own r d0) => match fldD ix d d0 with
    | some d1 => .ok .nx (st.set i (Slot.own r d1))
    | none => .no
  | _ => .no
theorem putF_set {f : Str} {y : V} : ∀ {fs : List (Str × V)} {ns : List Str} {j : Nat}, fs.map (·.1) = ns.take fs.length → ns.Nodup → ns[j]? = some f → j < fs.length → (putF f y fs).map (·.1) = fs.map (·.1) ∧ (putF f y fs).map (·.2) = (fs.map (·.2)).set j y
  | [], ns, j, _, _, _, h => by simp at h
  | (g, w) :: fs, [], j, h, _, _, _ => by simp at h
  | (g, w) :: fs, n :: ns, 0, h, hn, h1, h2 => by
    simp at h h1
    obtain ⟨rfl, _⟩ := h
    subst h1
    simp [putF]
  | (g, w) :: fs, n :: ns, j + 1, h, hn, h1, h2 => by
    simp at h
    obtain ⟨rfl, h⟩ := h
    obtain ⟨n1, n2⟩ := List.nodup_cons.mp hn
    have h1 : ns[j]? = some f := by simpa using h1
    have ne : g ≠ f := fun z => n1 (by rw [z]; exact List.mem_of_getElem? h1)
    obtain ⟨a, b⟩ := putF_set (y := y) (j := j) (by simpa using h) n2 h1 (by simpa using h2)
    refine ⟨?_, ?_⟩
    · simp only [putF, if_neg ne, List.map_cons, a]
    · simp only [putF, if_neg ne, List.map_cons, b, List.set_cons_succ]
theorem putF_app {f : Str} {y : V} : ∀ {fs : List (Str × V)} {ns : List Str}, fs.map (·.1) = ns.take fs.length → ns.Nodup → ns[fs.length]? = some f → putF f y fs = fs ++ [(f, y)]
  | [], ns, _, _, _ => rfl
  | (g, w) :: fs, [], h, _, _ => by simp at h
  | (g, w) :: fs, n :: ns, h, hn, h1 => by
    simp at h
    obtain ⟨rfl, h⟩ := h
    obtain ⟨n1, n2⟩ := List.nodup_cons.mp hn
    have h1 : ns[fs.length]? = some f := by simpa using h1
    have ne : g ≠ f := fun z => n1 (by rw [z]; exact List.mem_of_getElem? h1)
    have := putF_app (y := y) (by simpa using h) n2 h1
    simp only [putF, if_neg ne, this, List.cons_append]
theorem take_snoc {α : Type} {ns : List α} {n : Nat} {f : α} (h : ns[n]? = some f) : ns.take (n + 1) = ns.take n ++ [f] := by
  rw [List.take_add_one, h]
  rfl
section
variable {T : Tb} {X : Cx} {c : Fc} {W : WX} {pos p apos cpos pos' : Pos} {e ob : Expr} {me : M T1} {i : Nat} {f : Str}
theorem ss_fld {ix : Nat → Option Nat} (A : AtF X T f ix) (ho : PE X ob (tVar i)) (he : SE T X c W e me) (hs : swapsWith e (some (.Attribute ob f pos')) pos.line X.env = pure false := by rfl) : SS T X c W (.Assign [.Attribute ob f pos'] e pos) (fldM i ix me) := by
  refine ⟨fun st o σ H F D R q => tWS_of (ps_fld ho pe_tW hs) ?_⟩
  refine he.run st o σ H F _ R ((PS1.bnd q).imp fun t o1 s1 H1 F1 e1 R1 p1 v tr => ?_)
  obtain ⟨F2, e2, R2, tr2⟩ := R1.fz tr
  obtain ⟨d, hd, p2⟩ := (PS1.ext e2 p1).lf
  have rp := vlO_rp tr2 hd
  cases es : s1[i]? with
  | none => rw [es] at p2; exact p2.elim
  | some x =>
    cases x with
    | un => rw [es] at p2; exact p2.elim
    | fix => rw [es] at p2; exact p2.elim
    | val d => rw [es] at p2; exact p2.elim
    | own r d0 =>
      rw [es] at p2
      simp only at p2
      cases hg : fldD ix d d0 with
      | none => rw [hg] at p2; exact p2.elim
      | some d1 =>
        rw [hg] at p2
        obtain ⟨k1, k2, ⟨u, k3, k4⟩, k5⟩ := R2.own i r d0 es
        refine ⟨_, k1, ?_⟩
        cases d0 with
        | ins cc ds =>
          simp only [fldD] at hg
          obtain ⟨j, hj, hg⟩ := Option.bind_eq_some_iff.mp hg
          obtain ⟨ds', hds, rfl⟩ := Option.map_eq_some_iff.mp hg
          obtain ⟨a1, a2, a3, a4⟩ := A.at_ cc j hj
          obtain ⟨dx, fs, rfl, r1, r2⟩ := k4
          have hl : fs.length = ds.length := by have := r2.len; simpa using this
          unfold setF at hds
          by_cases h0 : ds.length < 1000
          · rw [if_pos h0] at hds
            refine ⟨o1 i, T.cl cc, dx, fs, rfl, k3, a1, a2, by rw [hl]; exact h0, ?_⟩
            refine p2 o1 σ _ F2 (Ex.refl F2) (R2.mut es ⟨dx, putF f v fs, rfl, ?_⟩)
            by_cases h1 : j < ds.length
            · rw [if_pos h1] at hds
              cases hds
              obtain ⟨b1, b2⟩ := putF_set (y := v) r1 a3 a4 (by rw [hl]; exact h1)
              have hll : (putF f v fs).length = fs.length := by
                have := congrArg List.length b1
                simpa using this
              exact ⟨by rw [b1, hll]; exact r1, by rw [b2]; exact r2.set j rp⟩
            · rw [if_neg h1] at hds
              by_cases h2 : j = ds.length
              · rw [if_pos h2] at hds
                cases hds
                subst h2
                rw [putF_app (y := v) r1 a3 (by rw [hl]; exact a4)]
                refine ⟨?_, by simpa using r2.snoc rp⟩
                rw [List.length_append, List.length_singleton, take_snoc (f := f) (by rw [hl]; exact a4), List.map_append, r1]
                rfl
              · rw [if_neg h2] at hds
                cases hds
          · rw [if_neg h0] at hds
            cases hds
        | _ => cases hg
end

/-! ### isinstance -/
/-- what isinstance asks of an own class -/
structure IsC (K : PySem.W.Frag) (C : Addr) : Prop where
  cl : Cls K C
  ha : PySem.W.findIn K (.ref C) "__class__" = some (some (.builtin "object.__class__"))
  hn : PySem.W.specialIn K (.builtin "object.__class__") "__get__" = some (some (.builtin "getset_descriptor.__get__"))
  ht : PySem.W.takesIn K (.builtin "object.__class__") = some true
  hm : PySem.W.mroIn K C (.type "object") = some true
def tyV' (T : Tb) : D → Option Value
  | .non => some (.type "NoneType")
  | .bl _ => some (.type "bool")
  | .int _ => some (.type "int")
  | .str _ => some (.type "str")
  | .lst _ => some (.type "list")
  | .tup _ => some (.type "tuple")
  | .dic _ _ => some (.type "dict")
  | .ins c _ => some (.ref (T.cl c))
  | .cls _ => none
  | .scr _ => none
/-- f answers isinstance(d, cu) -/
structure IsD (X : Cx) (T : Tb) (cus : List Value) (f : D → Option Bool) : Prop where
  at_ : ∀ d b, f d = some b → (∀ c ds, d = .ins c ds → IsC X.K (T.cl c)) ∧ ∃ t, tyV' T d = some t ∧ PySem.W.kitAny X.K t cus = some b
theorem ty_see {K : PySem.W.Frag} {T : Tb} {F H : Hp} {d : D} {x : V} {t : Value} (e : Ex F H) (h : See K T F H d x) (ht : tyV' T d = some t) (hc : ∀ c ds, d = .ins c ds → IsC K (T.cl c)) : TyX K H x t := by
  cases d with
  | non => cases h.non; cases ht; exact .base .non
  | bl b => cases h.bl; cases ht; exact .base (.bl _)
  | int b => cases h.int; cases ht; exact .base (.int _)
  | str b => cases h.str; cases ht; exact .base (.str _)
  | lst ds =>
    obtain ⟨a, vs, rfl, h1, _⟩ := h.lst e
    cases ht
    rcases h1 with (h1 | ⟨o, h1⟩) | ⟨o, its, n, h1, h2, _⟩
    · exact .base (.lst h1)
    · exact .base (.frz h1)
    · exact .kList h1 h2
  | tup ds =>
    obtain ⟨a, vs, rfl, h1, _⟩ := h.tup e
    cases ht
    rcases h1 with (h1 | ⟨o, h1⟩) | ⟨o, its, n, h1, h2, _⟩
    · exact .base (.tup h1)
    · exact .fTuple h1
    · exact .kTuple h1 h2
  | dic ks ds =>
    obtain ⟨a, kvs, rfl, h1, _⟩ := h.dic e
    cases ht
    exact .base (.dK h1)
  | ins c ds =>
    obtain ⟨a, dx, fs, rfl, h1, _⟩ := h.ins e
    cases ht
    have k := hc c ds rfl
    exact .base (.ins h1 k.cl k.ha k.hn k.ht k.hm)
  | cls c => cases ht
  | scr c => cases ht
def isiM (f : D → Option Bool) (a : M T1) : M T1 := M.bnd (ops1 a) fun d => M.bnd (lf (f d)) fun b => M.ret (T1.vl (.bl b))
theorem kitAny1 {K : PySem.W.Frag} {t c : Value} {b : Bool} (h : PySem.W.kitAny K t [c] = some b) : PySem.W.kitOne K t c = some b := by
  unfold PySem.W.kitAny at h
  cases e : PySem.W.kitOne K t c with
  | none => rw [e] at h; cases h
  | some k =>
    rw [e] at h
    cases k with
    | true => exact h
    | false => exact h
section
variable {T : Tb} {X : Cx} {c : Fc} {W : WX} {pos p apos cpos pos' p2 : Pos} {a cx : Expr} {cs : List Expr} {ma : M T1} {cv : V} {cu : Value} {f : D → Option Bool}
theorem se_isi1 (h : IsD X T [cu] f) (ha : SE T X c W a ma) (hc : PE X cx (tC cv)) (hcv : ClsV cv cu) (hg : Gl X "isinstance") (hm : X.mg "isinstance" = none)
    (he : starEach [a, cx] X.env = (false, eval a X.env) :: starEach [cx] X.env := by rfl) (he2 : starEach [cx] X.env = (false, eval cx X.env) :: starEach [] X.env := by rfl) (hpl : (backTo pos (starEach [cx] X.env)).any (·.1) = false := by rfl) :
    SE T X c W (.Call (.Name "isinstance" p) [a, cx] [] pos) (isiM f ma) := by
  refine ⟨fun st o σ H F Q R q => tW_of (pe_callB (call_isi (X := X)) hg hm (by with_unfolding_all rfl) (pa_cons pe_tW (pa_cons hc pa_nil he2) he) (by decide) (by decide) he hpl) ?_⟩
  refine one (k := fun d => M.bnd (lf (f d)) fun b => M.ret (T1.vl (.bl b))) ha R q fun dx x o1 s1 H1 F1 e1 R1 sx p1 => ?_
  obtain ⟨b, hb, p2⟩ := (PostR.bnd p1).lf
  have p3 := p2 o1 H1 F1 (Ex.refl F1) R1
  obtain ⟨k1, t, k2, k3⟩ := h.at_ dx b hb
  show rIsi X.K [x, cv] H1 Q
  exact ⟨x, cv, t, cu, b, rfl, hcv, ty_see R1.sub sx k2 k1, kitAny1 k3, p3 o1 H1 F1 (Ex.refl F1) R1 _ (by show Rp _ _ _ _ _; unfold Rp; rfl)⟩
end

/-! ### raise X() -/
/-- an own exception class without own __init__ -/
structure EcF (X : Cx) (C : Addr) : Prop where
  ex : ∃ (bmB : List Value) (B newId initId : String), ExcBaseFacts B newId initId bmB ∧ PySem.W.excIn X.K C bmB newId = true
  kp : PySem.W.keepIn X.K (.ref C) = true
  rs : Raises X (.ref C)
def rs0 (cc : Nat) : M Flw := fun st => .exc ⟨cc, []⟩ st
section
variable {T : Tb} {X : Cx} {c : Fc} {W : WX} {pos p apos cpos pos' p2 : Pos} {x : Str}
theorem pmk_own0 {C : Addr} (F : EcF X C) (gC : X.mg x = some (.ref C)) (hg : Gl X x) (hdb : (x == ("__debug__" : Str)) = false := by decide) : PMk X (.Call (.Name x p) [] [] pos) (fun _ H Q => Q (.ref C) none H) := by
  intro pins s σ H Q I h
  obtain ⟨⟨bmB, B, newId, initId, F1, q⟩, kC, r⟩ := F
  refine wpAny_Call_Name_kw (ld_glob I hg gC ?_ hdb)
  refine PySem.W.callWith_K0 I.kIn kC ?_
  obtain ⟨bm, N, nm, qn, bs, hdct, sn, sub, ab, col, dd, k0, k1, k2, k3, k5, mN, hC, hN, hni, T⟩ := exc_obj I.kIn q
  refine wpAny_call_exc_subT F1 T hC hN hni (fun h' e hm => ?_) (by show 0 ≤ sizeLine; rw [sizeLine_eq]; omega)
  exact mk_of I hm r h (I.hok.gone hm.new)
theorem ss_raise0 {cc : Nat} (F : EcF X (T.cl cc)) (gC : X.mg x = some (.ref (T.cl cc))) (hg : Gl X x) (hc : X.calm = true) (tk : Takes X W) (hdb : (x == ("__debug__" : Str)) = false := by decide) : SS T X c W (.Raise (some (.Call (.Name x p) [] [] pos)) none pos') (rs0 cc) :=
  ⟨fun st o σ H F1 D R q => tWS_of (ps_raise hc tk (pmk_own0 F gC hg hdb)) (q (.ref (T.cl cc)) none o σ H F1 (Ex.refl F1) R ⟨rfl, .inl ⟨rfl, rfl⟩⟩)⟩
end

/-! ### try: .. except X as n: .. -/
def Fc.at (c : Fc) (i : Nat) (a : Addr) (F1 : Hp) : Fc := { c with F0 := F1, fx := fun j => if j = i then some (.ref a) else c.fx j }
theorem Rel.fixed {K : PySem.W.Frag} {T : Tb} {c : Fc} {o : Nat → Addr} {st : Sl} {σ : L2.St} {H F : Hp} (R : Rel K T c o st σ H F) {i : Nat} {a : Addr} (hi : i < st.length) : Rel K T (c.at i a F) o (st.set i Slot.fix) (σ.set i (some (.ref a))) H F := by
  have hl' : i < σ.length := by rw [← R.len]; exact hi
  have oth : ∀ (j : Nat) (x : Slot), x ≠ Slot.fix → (st.set i Slot.fix)[j]? = some x → j ≠ i ∧ st[j]? = some x := fun j x n h => by
    by_cases hj : j = i
    · subst hj
      rw [List.getElem?_set_self hi] at h
      cases h
      exact absurd rfl n
    · rw [List.getElem?_set_ne (Ne.symm hj)] at h
      exact ⟨hj, h⟩
  refine ⟨Ex.refl F, R.sub, R.dom, R.keep, fun b u h => .inr ⟨u, h⟩, fun j d h => ?_, fun j r d h => ?_, fun j k r r' d d' h h' z => ?_, by simp [R.len], fun b w hb => ?_, fun j h => ?_⟩
  · obtain ⟨n, h⟩ := oth j _ (by simp) h
    rw [List.getElem?_set_ne (Ne.symm n)]
    exact R.val j d h
  · obtain ⟨n, h⟩ := oth j _ (by simp) h
    rw [List.getElem?_set_ne (Ne.symm n)]
    exact R.own j r d h
  · exact R.dis j k r r' d d' (oth j _ (by simp) h).2 (oth k _ (by simp) h').2 z
  · obtain ⟨k1, k2, k3, k4⟩ := R.tpk b w hb
    exact ⟨k1, k2, k3, fun j r d h => k4 j r d (oth j _ (by simp) h).2⟩
  · by_cases hj : j = i
    · subst hj
      rw [List.getElem?_set_self hl']
      unfold Fc.at
      simp
    · rw [List.getElem?_set_ne (Ne.symm hj)] at h ⊢
      unfold Fc.at
      simp only [if_neg hj]
      exact R.fix j h
theorem Rel.unfix {K : PySem.W.Frag} {T : Tb} {c : Fc} {o : Nat → Addr} {st : Sl} {σ : L2.St} {H F : Hp} {i : Nat} {a : Addr} {F1 : Hp} (R : Rel K T (c.at i a F1) o st σ H F) (h0 : Ex c.F0 F1) (hn : ∀ b u, F1 b = some u → c.H0 b = none ∨ ∃ u', c.F0 b = some u') : Rel K T c o (st.set i Slot.un) (σ.set i none) H F := by
  have oth : ∀ (j : Nat) (x : Slot), x ≠ Slot.un → (st.set i Slot.un)[j]? = some x → j ≠ i ∧ st[j]? = some x := fun j x n h => by
    by_cases hj : j = i
    · subst hj
      have hl : j < st.length := by simpa using (List.getElem?_eq_some_iff.mp h).1
      rw [List.getElem?_set_self hl] at h
      cases h
      exact absurd rfl n
    · rw [List.getElem?_set_ne (Ne.symm hj)] at h
      exact ⟨hj, h⟩
  refine ⟨h0.trans R.ex0, R.sub, R.dom, R.keep, fun b u h => (R.new b u h).elim .inl fun ⟨u', z⟩ => hn b u' z, fun j d h => ?_, fun j r d h => ?_, fun j k r r' d d' h h' z => ?_, by simp [R.len], fun b w hb => ?_, fun j h => ?_⟩
  · obtain ⟨n, h⟩ := oth j _ (by simp) h
    rw [List.getElem?_set_ne (Ne.symm n)]
    exact R.val j d h
  · obtain ⟨n, h⟩ := oth j _ (by simp) h
    rw [List.getElem?_set_ne (Ne.symm n)]
    exact R.own j r d h
  · exact R.dis j k r r' d d' (oth j _ (by simp) h).2 (oth k _ (by simp) h').2 z
  · obtain ⟨k1, k2, k3, k4⟩ := R.tpk b w hb
    exact ⟨k1, k2, k3, fun j r d h => k4 j r d (oth j _ (by simp) h).2⟩
  · obtain ⟨n, h⟩ := oth j _ (by simp) h
    rw [List.getElem?_set_ne (Ne.symm n)]
    have := R.fix j h
    unfold Fc.at at this
    simp only [if_neg n] at this
    exact this
def WF : WX := fun _ _ _ _ => False
/-- what stands for the fields of an error -/
def XRd (K : PySem.W.Frag) (T : Tb) (F : Hp) (e : Exn) (dd : Option Addr) : Prop := (e.fs = [] ∧ dd = none) ∨ (e.fs ≠ [] ∧ ∃ d fs, dd = some d ∧ F d = some (.xd fs) ∧ fs.map (·.1) = T.an e.c ∧ RpL K T F e.fs (fs.map (·.2)))
def offS (i : Nat) : Res Flw → Res Flw
  | .ok (.rt (.pk _)) _ => .no
  | .ok f st => .ok f (st.set i Slot.un)
  | _ => .no
/-- catch: which classes the clause takes; the suite by the error -/
def tryM (i : Nat) (catch_ : Nat → Option Bool) (mb : M Flw) (ms : Exn → M Flw) : M Flw := fun st => match mb st with
  | .exc e st' => match catch_ e.c with
    | none => .no
    | some false => .exc e st'
    | some true => if i < st'.length then offS i (ms e (st'.set i Slot.fix)) else .no
  | r => r
section
variable {T : Tb} {X : Cx} {c : Fc} {W : WX} {pos p apos cpos pos' np : Pos} {x n : Str} {cv : Value} {i : Nat} {body suite : List Stmt} {b₀ : Stmt} {mb : M Flw} {ms : Exn → M Flw} {ct : Nat → Option Bool}
theorem ss_try_as (hs : X.stack = X.env :: X.outer) (hf : X.env.frame = some X.env.locals) (hN : X.N.Nodup) (hi : X.N[i]? = some n) (hln : X.env.kindOf n = some .local) (hc : Names X x cv) (tk : Takes X W)
    (hct : ∀ c b, ct c = some b → PySem.W.exmOne X.K (.ref (T.cl c)) cv = some b)
    (hb : ∀ (W' : WX) (pn : List (Addr × Obj)) (xe : Value → Shared → Prop), Takes (X.tr pn xe) W' → PassesOwn (model X.prog X.w) X.A X.env xe → SB T (X.tr pn xe) c W' body mb)
    (hsu : ∀ (e : Exn) (a : Addr) (oe : Obj) (dd : Option Addr) (pn : List (Addr × Obj)) (F1 : Hp), Zc (.ref (T.cl e.c)) dd oe → (∃ vs, oe.data = .fields vs) → XRd X.K T F1 e dd → SB T (X.suite a ((a, oe) :: pn)) (c.at i a F1) WF (b₀ :: suite) (ms e)) :
    SS T X c W (.Try body [.ExceptHandler (some (.Name x np)) (some n) (b₀ :: suite) pos'] [] [] pos) (tryM i ct mb ms) := by
  refine ⟨fun st o σ H F D R q => ?_⟩
  refine tWS_of (ps_try_as (tb := fun W' => fun D σ H => ∀ pn xe, Takes (X.tr pn xe) W' → PassesOwn (model X.prog X.w) X.A X.env xe → tWB (X.tr pn xe) body D σ H)
    (ts := fun a cls d => fun D σ H => ∀ oe pn, Zc cls d oe → (∃ vs, oe.data = .fields vs) → tWB (X.suite a ((a, oe) :: pn)) (b₀ :: suite) D σ H) hs hf hN hi hln hc tk
    (fun W' pn xe t po => ⟨fun pins s σ H D I h => h pn xe t po pins s I⟩) (fun a oe cls d pn hz hd => ⟨fun pins s σ H D I h => h oe pn hz hd pins s I⟩)) ?_
  intro pn xe t po
  refine (hb _ pn xe t po).run st o σ H F D R ?_
  unfold tryM at q
  cases hm : mb st with
  | no => rw [hm] at q; exact q
  | ok f st' =>
    rw [hm] at q
    cases f <;> exact q
  | exc e st' =>
    rw [hm] at q
    simp only at q
    intro cl dd o' σ' H' F' ex R' xr
    obtain ⟨e1, xr⟩ := xr
    subst e1
    cases hcc : ct e.c with
    | none => rw [hcc] at q; exact q.elim
    | some b =>
      rw [hcc] at q
      refine ⟨b, hct _ _ hcc, fun hbt a ha oe pn hz hd => ?_, fun hbf => ?_⟩
      · subst hbt
        simp only at q
        by_cases hl : i < st'.length
        · rw [if_pos hl] at q
          refine (hsu e a oe dd pn F' hz hd xr).run (st'.set i Slot.fix) o' _ H' F' _ (R'.fixed hl) ?_
          cases hr : ms e (st'.set i Slot.fix) with
          | no => rw [hr] at q; exact q.elim
          | exc e2 s2 => rw [hr] at q; exact q.elim
          | ok f s2 =>
            rw [hr] at q
            cases f with
            | nx => exact fun o2 σ2 H2 F2 ex2 R2 => q o2 _ H2 F2 (ex.trans ex2) (R2.unfix R'.ex0 R'.new)
            | bk => exact fun o2 σ2 H2 F2 ex2 R2 => q o2 _ H2 F2 (ex.trans ex2) (R2.unfix R'.ex0 R'.new)
            | ct => exact fun o2 σ2 H2 F2 ex2 R2 => q o2 _ H2 F2 (ex.trans ex2) (R2.unfix R'.ex0 R'.new)
            | rt t =>
              cases t with
              | pk j => exact q.elim
              | vl d => exact fun v o2 σ2 H2 F2 ex2 R2 tr => q v o2 (σ2.set i none) H2 F2 (ex.trans ex2) (R2.unfix R'.ex0 R'.new) tr
              | fr d =>
                refine fun v o2 σ2 H2 F2 ex2 R2 tr => q v o2 (σ2.set i none) H2 F2 (ex.trans ex2) (R2.unfix R'.ex0 R'.new) ?_
                obtain ⟨aa, u, h1, h2, h3, h4, h5, h6, h7⟩ := tr
                refine ⟨aa, u, h1, h2, h3, h4, h5, h6, fun j r d' h => ?_⟩
                by_cases hj : j = i
                · subst hj
                  have hl2 : j < s2.length := by simpa using (List.getElem?_eq_some_iff.mp h).1
                  rw [List.getElem?_set_self hl2] at h
                  cases h
                · rw [List.getElem?_set_ne (Ne.symm hj)] at h
                  exact h7 j r d' h
        · rw [if_neg hl] at q
          exact q.elim
      · subst hbf
        exact q (.ref (T.cl e.c)) dd o' σ' H' F' ex R' ⟨rfl, xr⟩
end
end Fw
end

section
set_option maxRecDepth 100000
set_option maxHeartbeats 2000000
namespace Fw
open PySem PySem.Spec PyProof.Rows L2

/-! ### operations -/
def addD : D → D → Option T1
  | .int i, .int j => some (.vl (.int (i + j)))
  | .str x, .str y => if x.length + y.length ≤ 1000000 then some (.vl (.str (x ++ y))) else none
  | .lst a, .lst b => if a.length + b.length ≤ 1000000 then some (.fr (.lst (a ++ b))) else none
  | .tup a, .tup b => if a.length + b.length ≤ 1000000 then some (if a.isEmpty = true then .vl (.tup b) else if b.isEmpty = true then .vl (.tup a) else .fr (.tup (a ++ b))) else none
  | _, _ => none
def subI : D → D → Option T1
  | .int i, .int j => some (.vl (.int (i - j)))
  | _, _ => none
def mulD : D → D → Option T1
  | .int i, .int j => if (Builtin.Int.intBits i : Int) + (Builtin.Int.intBits j : Int) ≤ 134217728 then some (.vl (.int (i * j))) else none
  | .str x, .int j => if 2 ≤ j ∧ j ≤ 100000 ∧ 1 ≤ x.length ∧ x.length * j.toNat ≤ 1000000 then some (.vl (.str ⟨(List.replicate j.toNat x.cps).foldl (· ++ ·) #[]⟩)) else none
  | .lst a, .int j => if -(2 ^ 63) ≤ j ∧ j < 2 ^ 63 ∧ a.length * j.toNat ≤ 1000000 then some (.fr (.lst (List.replicate j.toNat a).flatten)) else none
  | _, _ => none
def fdvD : D → D → Option T1
  | .int i, .int j => if 0 < j ∧ j.natAbs.log2 < 9000 then some (.vl (.int (i / j))) else none
  | _, _ => none
def modD : D → D → Option T1
  | .int i, .int j => if 0 < j then some (.vl (.int (i % j))) else none
  | _, _ => none
def powD : D → D → Option T1
  | .int i, .int j => if 0 ≤ j ∧ j ≤ 1000000 ∧ i.natAbs < 2 ^ 64 then some (.vl (.int (i ^ j.toNat))) else none
  | _, _ => none
def negD : D → Option T1
  | .int i => some (.vl (.int (-i)))
  | _ => none
def cmpI (f : Int → Int → Bool) : D → D → Option Bool
  | .int i, .int j => some (f i j)
  | _, _ => none
theorem see_tup {K : PySem.W.Frag} {T : Tb} {F H : Hp} {ds : List D} {v : V} (h : See K T F H (.tup ds) v) : Rp K T F (.tup ds) v := by
  rcases h with h | ⟨_, _, _, _, _, h⟩
  · exact h
  · cases h
theorem RpL.rep {K : PySem.W.Frag} {T : Tb} {F : Hp} {ds : List D} {vs : List V} (h : RpL K T F ds vs) : ∀ n : Nat, RpL K T F (List.replicate n ds).flatten (List.replicate n vs).flatten
  | 0 => RpL.nil
  | n + 1 => by
    rw [List.replicate_succ, List.replicate_succ, List.flatten_cons, List.flatten_cons]
    exact h.app (h.rep n)
section
variable {T : Tb} {X : Cx} {c : Fc} {W : WX} {pos p apos cpos : Pos} {a : Expr} {ma : M T1}
theorem prI {F H : Hp} {i : Int} {Q : VK} (k : ∀ z H', PR X.K T F H (.vl (.int i)) z H' → Q z H') : Q (.int i) H := k _ _ (PR.sc (by unfold Rp; rfl))
theorem prB {F H : Hp} {i : Bool} {Q : VK} (k : ∀ z H', PR X.K T F H (.vl (.bl i)) z H' → Q z H') : Q (.bl i) H := k _ _ (PR.sc (by unfold Rp; rfl))
theorem prS {F H : Hp} {i : Str} {Q : VK} (k : ∀ z H', PR X.K T F H (.vl (.str i)) z H' → Q z H') : Q (.str i) H := k _ _ (PR.sc (by unfold Rp; rfl))
theorem ops_add : OpS T X (binaryOp .Add) addD := OpS.of fun F H x y dx dy t Q e sx sy hg k => by
  cases dx with
  | int i =>
    cases dy with
    | int j =>
      cases sx.int; cases sy.int; cases hg
      exact ⟨_, op_add, i, j, rfl, rfl, prI k⟩
    | _ => cases hg
  | str u =>
    cases dy with
    | str v =>
      cases sx.str; cases sy.str
      have hg : (if u.length + v.length ≤ 1000000 then some (T1.vl (.str (u ++ v))) else none) = some t := hg
      by_cases hl : u.length + v.length ≤ 1000000
      · rw [if_pos hl] at hg
        cases hg
        exact ⟨_, op_add_str, u, v, rfl, rfl, by rw [sizeLine_eq]; omega, prS k⟩
      · rw [if_neg hl] at hg; cases hg
    | _ => cases hg
  | lst u =>
    cases dy with
    | lst v =>
      have hg : (if u.length + v.length ≤ 1000000 then some (T1.fr (.lst (u ++ v))) else none) = some t := hg
      by_cases hl : u.length + v.length ≤ 1000000
      · rw [if_pos hl] at hg
        cases hg
        obtain ⟨p, vs, rfl, h1, h2⟩ := sx.lstM e
        obtain ⟨q, ws, rfl, h3, h4⟩ := sy.lstM e
        exact ⟨_, op_cat, p, q, vs, ws, rfl, rfl, h1, h3, by rw [h2.len, h4.len, sizeLine_eq]; omega, fun n hn => k _ _ ⟨Ex.new hn, n, _, rfl, hn, upd_same, _, rfl, h2.app h4⟩⟩
      · rw [if_neg hl] at hg; cases hg
    | _ => cases hg
  | tup u =>
    cases dy with
    | tup v =>
      have hg : (if u.length + v.length ≤ 1000000 then some (if u.isEmpty = true then T1.vl (.tup v) else if v.isEmpty = true then .vl (.tup u) else .fr (.tup (u ++ v))) else none) = some t := hg
      by_cases hl : u.length + v.length ≤ 1000000
      · rw [if_pos hl] at hg
        cases hg
        obtain ⟨p, vs, rfl, h1, h2⟩ := sx.tup e
        obtain ⟨q, ws, rfl, h3, h4⟩ := sy.tup e
        have iff1 : vs = [] ↔ u.isEmpty = true := by have := h2.len; cases vs <;> cases u <;> simp_all
        have iff2 : ws = [] ↔ v.isEmpty = true := by have := h4.len; cases ws <;> cases v <;> simp_all
        refine ⟨_, op_catA, p, q, vs, ws, rfl, rfl, h1, h3, by rw [h2.len, h4.len, sizeLine_eq]; omega, fun z => ?_, fun z z2 => ?_, fun z z2 n hn => ?_⟩
        · rw [if_pos (iff1.mp z)] at k
          exact k _ _ (PR.sc (see_tup sy))
        · rw [if_neg (fun w => z (iff1.mpr w)), if_pos (iff2.mp z2)] at k
          exact k _ _ (PR.sc (see_tup sx))
        · rw [if_neg (fun w => z (iff1.mpr w)), if_neg (fun w => z2 (iff2.mpr w))] at k
          exact k _ _ ⟨Ex.new hn, n, _, rfl, hn, upd_same, _, rfl, h2.app h4⟩
      · rw [if_neg hl] at hg; cases hg
    | _ => cases hg
  | _ => cases hg
theorem ops_sub : OpS T X (binaryOp .Sub) subI := OpS.of fun F H x y dx dy t Q e sx sy hg k => by
  cases dx with
  | int i =>
    cases dy with
    | int j =>
      cases sx.int; cases sy.int; cases hg
      exact ⟨_, op_sub, i, j, rfl, rfl, prI k⟩
    | _ => cases hg
  | _ => cases hg
theorem rep_size {α : Type} (a : Array α) : ∀ (n : Nat) (acc : Array α), ((List.replicate n a).foldl (· ++ ·) acc).size = acc.size + n * a.size
  | 0, acc => by simp
  | n + 1, acc => by
    rw [List.replicate_succ, List.foldl_cons, rep_size a n, Array.size_append, Nat.succ_mul]
    omega
theorem op_mul_str : OpR X (binaryOp .Mult) (fun x y H Q => ∃ u j, x = .str u ∧ y = .int j ∧ (2 ≤ j ∧ j ≤ 100000 ∧ 1 ≤ u.length ∧ u.length * j.toNat ≤ 1000000) ∧ Q (.str ⟨(List.replicate j.toNat u.cps).foldl (· ++ ·) #[]⟩) H) := by
  intro pins s σ H x y v w Q I rx ry h
  obtain ⟨u, j, rfl, rfl, ⟨h1, h2, h3, h4⟩, q⟩ := h
  obtain ⟨t, rfl⟩ := rx
  obtain ⟨t', rfl⟩ := ry
  have e1 : (j == 1 || u.length == 0) = false := by
    rw [Bool.or_eq_false_iff]
    exact ⟨beq_eq_false_iff_ne.mpr (by omega), beq_eq_false_iff_ne.mpr (by omega)⟩
  have hj : (j.toNat : Int) = j := Int.toNat_of_nonneg (by omega)
  refine PySem.P.mul_str ?_ (fun _ _ => ?_) (fun _ _ => ?_) ?_
  · rw [decide_eq_false (by omega), decide_eq_false (by omega)]; rfl
  · have : (u.length : Int) ≤ 1000000 := by
      have : u.length * 1 ≤ u.length * j.toNat := Nat.mul_le_mul_left _ (by omega)
      omega
    have h5 : (2 ^ 63 - 1 : Int) / j ≥ 1000000 := by
      apply Int.le_ediv_of_mul_le (by omega)
      have : (1000000 : Int) * j ≤ 1000000 * 100000 := by omega
      omega
    omega
  · unfold Builtin.Str.tooLong
    exact decide_eq_false (by rw [sizeLine_eq]; omega)
  · rw [if_neg (by omega), e1]
    simp only [Bool.false_eq_true, if_false]
    refine ⟨?_, .str _, H, I.tok _, ⟨_, rfl⟩, q⟩
    show ((List.replicate j.toNat u.cps).foldl (· ++ ·) #[]).size ≤ sizeLine
    rw [rep_size, sizeLine_eq]
    have h5 : u.cps.size = u.length := rfl
    have h6 : j.toNat * u.cps.size = u.length * j.toNat := by rw [h5, Nat.mul_comm]
    rw [h6]
    show 0 + _ ≤ _
    omega
theorem ops_mul : OpS T X (binaryOp .Mult) mulD := OpS.of fun F H x y dx dy t Q e sx sy hg k => by
  cases dx with
  | int i =>
    cases dy with
    | int j =>
      cases sx.int; cases sy.int
      have hg : (if (Builtin.Int.intBits i : Int) + (Builtin.Int.intBits j : Int) ≤ 134217728 then some (T1.vl (.int (i * j))) else none) = some t := hg
      by_cases hl : (Builtin.Int.intBits i : Int) + (Builtin.Int.intBits j : Int) ≤ 134217728
      · rw [if_pos hl] at hg
        cases hg
        exact ⟨_, op_mulX, i, j, rfl, rfl, hl, prI k⟩
      · rw [if_neg hl] at hg; cases hg
    | _ => cases hg
  | str u =>
    cases dy with
    | int j =>
      cases sx.str; cases sy.int
      have hg : (if 2 ≤ j ∧ j ≤ 100000 ∧ 1 ≤ u.length ∧ u.length * j.toNat ≤ 1000000 then some (T1.vl (.str ⟨(List.replicate j.toNat u.cps).foldl (· ++ ·) #[]⟩)) else none) = some t := hg
      by_cases hl : 2 ≤ j ∧ j ≤ 100000 ∧ 1 ≤ u.length ∧ u.length * j.toNat ≤ 1000000
      · rw [if_pos hl] at hg
        cases hg
        exact ⟨_, op_mul_str, u, j, rfl, rfl, hl, prS k⟩
      · rw [if_neg hl] at hg; cases hg
    | _ => cases hg
  | lst u =>
    cases dy with
    | int j =>
      cases sy.int
      have hg : (if -(2 ^ 63) ≤ j ∧ j < 2 ^ 63 ∧ u.length * j.toNat ≤ 1000000 then some (T1.fr (.lst (List.replicate j.toNat u).flatten)) else none) = some t := hg
      by_cases hl : -(2 ^ 63) ≤ j ∧ j < 2 ^ 63 ∧ u.length * j.toNat ≤ 1000000
      · rw [if_pos hl] at hg
        cases hg
        obtain ⟨p, vs, rfl, h1, h2⟩ := sx.lstM e
        exact ⟨_, op_rep, p, j, vs, rfl, rfl, h1, hl.1, hl.2.1, by rw [h2.len, sizeLine_eq]; omega, fun n hn => k _ _ ⟨Ex.new hn, n, _, rfl, hn, upd_same, _, rfl, h2.rep _⟩⟩
      · rw [if_neg hl] at hg; cases hg
    | _ => cases hg
  | _ => cases hg
theorem ops_fdv : OpS T X (binaryOp .FloorDiv) fdvD := OpS.of fun F H x y dx dy t Q e sx sy hg k => by
  cases dx with
  | int i =>
    cases dy with
    | int j =>
      cases sx.int; cases sy.int
      have hg : (if 0 < j ∧ j.natAbs.log2 < 9000 then some (T1.vl (.int (i / j))) else none) = some t := hg
      by_cases hl : 0 < j ∧ j.natAbs.log2 < 9000
      · rw [if_pos hl] at hg
        cases hg
        exact ⟨_, op_fdivW, i, j, rfl, rfl, hl, prI k⟩
      · rw [if_neg hl] at hg; cases hg
    | _ => cases hg
  | _ => cases hg
theorem ops_mod : OpS T X (binaryOp .Mod) modD := OpS.of fun F H x y dx dy t Q e sx sy hg k => by
  cases dx with
  | int i =>
    cases dy with
    | int j =>
      cases sx.int; cases sy.int
      have hg : (if 0 < j then some (T1.vl (.int (i % j))) else none) = some t := hg
      by_cases hl : 0 < j
      · rw [if_pos hl] at hg
        cases hg
        exact ⟨_, op_mod, i, j, rfl, rfl, hl, prI k⟩
      · rw [if_neg hl] at hg; cases hg
    | _ => cases hg
  | _ => cases hg
theorem ops_pow : OpS T X (binaryOp .Pow) powD := OpS.of fun F H x y dx dy t Q e sx sy hg k => by
  cases dx with
  | int i =>
    cases dy with
    | int j =>
      cases sx.int; cases sy.int
      have hg : (if 0 ≤ j ∧ j ≤ 1000000 ∧ i.natAbs < 2 ^ 64 then some (T1.vl (.int (i ^ j.toNat))) else none) = some t := hg
      by_cases hl : 0 ≤ j ∧ j ≤ 1000000 ∧ i.natAbs < 2 ^ 64
      · rw [if_pos hl] at hg
        cases hg
        exact ⟨_, op_pow, i, j, rfl, rfl, hl, prI k⟩
      · rw [if_neg hl] at hg; cases hg
    | _ => cases hg
  | _ => cases hg
theorem cms_int {op : CmpOp} {f : Int → Int → Bool} (h : OpR X (compareOp op) (rI0 fun i j => .bl (f i j))) : CmS T X (compareOp op) (cmpI f) := OpS.of fun F H x y dx dy t Q e sx sy hg k => by
  cases dx with
  | int i =>
    cases dy with
    | int j =>
      cases sx.int; cases sy.int; cases hg
      exact ⟨_, h, i, j, rfl, rfl, prB k⟩
    | _ => cases hg
  | _ => cases hg
theorem cms_lt : CmS T X (compareOp .Lt) (cmpI fun i j => decide (i < j)) := cms_int op_lt
theorem cms_le : CmS T X (compareOp .LtE) (cmpI fun i j => decide (i ≤ j)) := cms_int op_le
theorem cms_gt : CmS T X (compareOp .Gt) (cmpI fun i j => decide (j < i)) := cms_int op_gt
theorem cms_ge : CmS T X (compareOp .GtE) (cmpI fun i j => decide (j ≤ i)) := cms_int op_ge
end
end Fw
end

section
set_option maxRecDepth 100000
set_option maxHeartbeats 2000000
namespace Fw
open PySem PySem.Spec PyProof.Rows L2

/-! ### == and != of data -/
mutual
def pd : D → Option PyData
  | .non => some .none
  | .bl b => some (.bool b)
  | .int i => some (.int i)
  | .str x => some (.str x)
  | .lst ds => (pdL ds).map .list
  | .tup ds => (pdL ds).map .tuple
  | .dic _ _ => none
  | .ins _ _ => none
  | .cls _ => none
  | .scr _ => none
def pdL : List D → Option (List PyData)
  | [] => some []
  | d :: ds => (pd d).bind fun p => (pdL ds).map (p :: ·)
end
mutual
theorem dp_of {K : PySem.W.Frag} {T : Tb} {H : Hp} : ∀ {d : D} {v : V} {p : PyData}, Rp K T H d v → pd d = some p → Dp K H v p
  | .non, v, p, h, e => by unfold Rp at h; subst h; unfold pd at e; cases e; exact .non
  | .bl b, v, p, h, e => by unfold Rp at h; subst h; unfold pd at e; cases e; exact .bl b
  | .int b, v, p, h, e => by unfold Rp at h; subst h; unfold pd at e; cases e; exact .int b
  | .str b, v, p, h, e => by unfold Rp at h; subst h; unfold pd at e; cases e; exact .str b
  | .lst ds, v, p, h, e => by
    unfold Rp at h
    obtain ⟨a, vs, rfl, h1, h2⟩ := h
    unfold pd at e
    obtain ⟨ps, hp, rfl⟩ := Option.map_eq_some_iff.mp e
    exact .lst (SqL.of h1) (dp_ofL h2 hp)
  | .tup ds, v, p, h, e => by
    unfold Rp at h
    obtain ⟨a, vs, rfl, h1, h2⟩ := h
    unfold pd at e
    obtain ⟨ps, hp, rfl⟩ := Option.map_eq_some_iff.mp e
    exact .tup h1 (dp_ofL h2 hp)
  | .dic _ _, v, p, h, e => by unfold pd at e; cases e
  | .ins _ _, v, p, h, e => by unfold pd at e; cases e
  | .cls _, v, p, h, e => by unfold pd at e; cases e
  | .scr _, v, p, h, e => by unfold pd at e; cases e
theorem dp_ofL {K : PySem.W.Frag} {T : Tb} {H : Hp} : ∀ {ds : List D} {vs : List V} {ps : List PyData}, RpL K T H ds vs → pdL ds = some ps → DpAll K H vs ps
  | [], vs, ps, h, e => by unfold RpL at h; subst h; unfold pdL at e; cases e; exact .nil
  | d :: ds, vs, ps, h, e => by
    unfold RpL at h
    obtain ⟨v, vs', rfl, h1, h2⟩ := h
    unfold pdL at e
    obtain ⟨p, hp, e⟩ := Option.bind_eq_some_iff.mp e
    obtain ⟨ps', hps, rfl⟩ := Option.map_eq_some_iff.mp e
    exact .cons (dp_of h1 hp) (dp_ofL h2 hps)
end
/-- data of no great depth, told apart as data -/
def eqvD (d e : D) : Option Bool := match pd d, pd e with
  | some p, some q => if SeqAt.shaped p = true ∧ SeqAt.shaped q = true then some (PyData.eqv p q) else none
  | _, _ => none
def nevD (d e : D) : Option Bool := (eqvD d e).map (!·)
/-- scalars -/
def eqS : D → D → Option Bool
  | .int i, .int j => some (i == j)
  | .str i, .str j => some (i == j)
  | .bl i, .bl j => some (i == j)
  | .non, .non => some true
  | .non, .int _ => some false
  | .non, .str _ => some false
  | .non, .bl _ => some false
  | .int _, .non => some false
  | .str _, .non => some false
  | .bl _, .non => some false
  | .int _, .str _ => some false
  | .str _, .int _ => some false
  | .bl _, .str _ => some false
  | .str _, .bl _ => some false
  | _, _ => none
def neS (d e : D) : Option Bool := (eqS d e).map (!·)
def eqD (d e : D) : Option Bool := (eqS d e).or (eqvD d e)
def neD (d e : D) : Option Bool := (neS d e).or (nevD d e)
/-! in -/
def flatB : D → Option V
  | .non => some .non
  | .bl b => some (.bl b)
  | .int i => some (.int i)
  | .str x => some (.str x)
  | _ => none
def flatL : List D → Option (List V)
  | [] => some []
  | d :: ds => (flatB d).bind fun v => (flatL ds).map (v :: ·)
theorem flat_rp {K : PySem.W.Frag} {T : Tb} {F : Hp} {d : D} {v w : V} (h : Rp K T F d v) (e : flatB d = some w) : v = w ∧ flatV w = true := by
  cases d <;> first | (cases e; unfold Rp at h; subst h; exact ⟨rfl, rfl⟩) | cases e
theorem flat_rpL {K : PySem.W.Frag} {T : Tb} {F : Hp} : ∀ {ds : List D} {vs ws : List V}, RpL K T F ds vs → flatL ds = some ws → vs = ws ∧ ws.all flatV = true
  | [], vs, ws, h, e => by unfold RpL at h; subst h; cases e; exact ⟨rfl, rfl⟩
  | d :: ds, vs, ws, h, e => by
    unfold RpL at h
    obtain ⟨v, vs', rfl, h1, h2⟩ := h
    unfold flatL at e
    obtain ⟨w, hw, e⟩ := Option.bind_eq_some_iff.mp e
    obtain ⟨ws', hws, rfl⟩ := Option.map_eq_some_iff.mp e
    obtain ⟨rfl, b⟩ := flat_rp h1 hw
    obtain ⟨rfl, b2⟩ := flat_rpL h2 hws
    exact ⟨rfl, by rw [List.all_cons, b, b2]; rfl⟩
def inSeq (d : D) (ds : List D) : Option Bool := (flatB d).bind fun v => (flatL ds).map fun vs => inV v vs
def inD : D → D → Option Bool
  | d, .lst ds => inSeq d ds
  | d, .tup ds => inSeq d ds
  | .str x, .str y => if x.cps.size = 1 then some (decide (x.cps.getD 0 0 ∈ y.cps.toList)) else none
  | _, _ => none
def ninD (d e : D) : Option Bool := (inD d e).map (!·)
section
variable {T : Tb} {X : Cx} {c : Fc} {W : WX} {pos p apos cpos : Pos} {a b e3 : Expr} {ma mb mc : M T1} {op op' : CmpOp} {f f' : D → D → Option Bool}
theorem CmS.of {op : CmpOp} {f : D → D → Option Bool} (h : ∀ (F H : Hp) (x y : V) (dx dy : D) (k : Bool) (Q : VK), Ex F H → See X.K T F H dx x → See X.K T F H dy y → f dx dy = some k → Q (.bl k) H → ∃ r : R2, OpR X (compareOp op) r ∧ r x y H Q) : CmS T X (compareOp op) f :=
  OpS.of fun F H x y dx dy t Q e sx sy hg k => by
    obtain ⟨b, hb, rfl⟩ := Option.map_eq_some_iff.mp hg
    exact h F H x y dx dy b Q e sx sy hb (prB k)
theorem CmS.or {op : CmpOp} {f g : D → D → Option Bool} (h1 : CmS T X (compareOp op) f) (h2 : CmS T X (compareOp op) g) : CmS T X (compareOp op) (fun x y => (f x y).or (g x y)) :=
  fun pins s σ F H x y v u dx dy t Q I rx ry e sx sy hg k => by
    cases e1 : f dx dy with
    | some b =>
      simp only [e1, Option.some_or] at hg
      exact h1 pins s σ F H x y v u dx dy t Q I rx ry e sx sy (by simp only [e1]; exact hg) k
    | none =>
      simp only [e1, Option.none_or] at hg
      exact h2 pins s σ F H x y v u dx dy t Q I rx ry e sx sy hg k
theorem eqS_scal {F H : Hp} {x y : V} {dx dy : D} {k : Bool} (sx : See X.K T F H dx x) (sy : See X.K T F H dy y) (h : eqS dx dy = some k) : scal x y = true ∧ decide (x = y) = k := by
  cases dx with
  | int i =>
    cases sx.int
    cases dy with
    | int j => cases sy.int; cases h; exact ⟨rfl, dec_int⟩
    | non => cases sy.non; cases h; exact ⟨rfl, by simp⟩
    | str j => cases sy.str; cases h; exact ⟨rfl, by simp⟩
    | _ => cases h
  | str i =>
    cases sx.str
    cases dy with
    | str j => cases sy.str; cases h; exact ⟨rfl, dec_str⟩
    | non => cases sy.non; cases h; exact ⟨rfl, by simp⟩
    | int j => cases sy.int; cases h; exact ⟨rfl, by simp⟩
    | bl j => cases sy.bl; cases h; exact ⟨rfl, by simp⟩
    | _ => cases h
  | bl i =>
    cases sx.bl
    cases dy with
    | bl j => cases sy.bl; cases h; exact ⟨rfl, dec_bl⟩
    | non => cases sy.non; cases h; exact ⟨rfl, by simp⟩
    | str j => cases sy.str; cases h; exact ⟨rfl, by simp⟩
    | _ => cases h
  | non =>
    cases sx.non
    cases dy with
    | non => cases sy.non; cases h; exact ⟨rfl, by simp⟩
    | int j => cases sy.int; cases h; exact ⟨rfl, by simp⟩
    | str j => cases sy.str; cases h; exact ⟨rfl, by simp⟩
    | bl j => cases sy.bl; cases h; exact ⟨rfl, by simp⟩
    | _ => cases h
  | _ => cases dy <;> cases h
theorem cms_eqS : CmS T X (compareOp .Eq) eqS := CmS.of fun F H x y dx dy k Q e sx sy h q => by
  obtain ⟨h1, h2⟩ := eqS_scal sx sy h
  exact ⟨rEq, op_eq, h1, by rw [h2]; exact q⟩
theorem cms_neS : CmS T X (compareOp .NotEq) neS := CmS.of fun F H x y dx dy k Q e sx sy h q => by
  obtain ⟨b, hb, rfl⟩ := Option.map_eq_some_iff.mp h
  obtain ⟨h1, h2⟩ := eqS_scal sx sy hb
  exact ⟨rNe, op_ne, h1, by rw [h2]; exact q⟩
theorem eqvD_inv {d e : D} {k : Bool} (h : eqvD d e = some k) : ∃ p q, pd d = some p ∧ pd e = some q ∧ SeqAt.shaped p = true ∧ SeqAt.shaped q = true ∧ PyData.eqv p q = k := by
  unfold eqvD at h
  split at h
  · rename_i p q e1 e2
    split at h
    · rename_i hs
      cases h
      exact ⟨p, q, e1, e2, hs.1, hs.2, rfl⟩
    · cases h
  · cases h
theorem cms_eqv (hu : X.A.units + 64 < cLine) : CmS T X (compareOp .Eq) eqvD := CmS.of fun F H x y dx dy k Q e sx sy h q => by
  obtain ⟨p1, p2, h1, h2, h3, h4, rfl⟩ := eqvD_inv h
  exact ⟨_, op_eqD hu, p1, p2, dp_of (sx.rp e) h1, dp_of (sy.rp e) h2, h3, h4, q⟩
theorem cms_nev (hu : X.A.units + 64 < cLine) : CmS T X (compareOp .NotEq) nevD := CmS.of fun F H x y dx dy k Q e sx sy h q => by
  obtain ⟨b, hb, rfl⟩ := Option.map_eq_some_iff.mp h
  obtain ⟨p1, p2, h1, h2, h3, h4, rfl⟩ := eqvD_inv hb
  exact ⟨_, op_neD hu, p1, p2, dp_of (sx.rp e) h1, dp_of (sy.rp e) h2, h3, h4, q⟩
theorem cms_eq (hu : X.A.units + 64 < cLine) : CmS T X (compareOp .Eq) eqD := cms_eqS.or (cms_eqv hu)
theorem cms_ne (hu : X.A.units + 64 < cLine) : CmS T X (compareOp .NotEq) neD := cms_neS.or (cms_nev hu)
theorem inSeq_rule {neg : Bool} {F H : Hp} {x : V} {p : Addr} {xs : List V} {d : D} {ds : List D} {k : Bool} {Q : VK} (e : Ex F H) (sx : See X.K T F H d x) (h : SqL X.K H p xs ∨ SqT X.K H p xs) (r : RpL X.K T F ds xs) (hk : inSeq d ds = some k) (q : Q (.bl (if neg then !k else k)) H) : rIn X.K neg x (.ref p) H Q := by
  unfold inSeq at hk
  obtain ⟨w, hw, hk⟩ := Option.bind_eq_some_iff.mp hk
  obtain ⟨ws, hws, rfl⟩ := Option.map_eq_some_iff.mp hk
  obtain ⟨rfl, f1⟩ := flat_rp (sx.rp e) hw
  obtain ⟨rfl, f2⟩ := flat_rpL r hws
  exact ⟨p, _, rfl, h, f1, f2, q⟩
theorem cms_in : CmS T X (compareOp .In) inD := CmS.of fun F H x y dx dy k Q e sx sy h q => by
  cases dy with
  | lst ds =>
    obtain ⟨p, vs, rfl, h1, h2⟩ := sy.lst e
    exact ⟨_, op_in_seq, inSeq_rule e sx (.inl h1) h2 (by cases dx <;> exact h) q⟩
  | tup ds =>
    obtain ⟨p, vs, rfl, h1, h2⟩ := sy.tup e
    exact ⟨_, op_in_seq, inSeq_rule e sx (.inr h1) h2 (by cases dx <;> exact h) q⟩
  | str y =>
    cases dx with
    | str x =>
      cases sx.str; cases sy.str
      have h : (if x.cps.size = 1 then some (decide (x.cps.getD 0 0 ∈ y.cps.toList)) else none) = some k := h
      by_cases hz : x.cps.size = 1
      · rw [if_pos hz] at h
        cases h
        refine ⟨_, op_in_sign, x.cps.getD 0 0, y, ?_, rfl, q⟩
        obtain ⟨⟨l⟩⟩ := x
        match l, hz with
        | [c], _ => rfl
      · rw [if_neg hz] at h; cases h
    | _ => cases h
  | _ => cases dx <;> cases h
theorem cms_nin : CmS T X (compareOp .NotIn) ninD := CmS.of fun F H x y dx dy k Q e sx sy h q => by
  obtain ⟨k0, h0, rfl⟩ := Option.map_eq_some_iff.mp h
  cases dy with
  | lst ds =>
    obtain ⟨p, vs, rfl, h1, h2⟩ := sy.lst e
    exact ⟨_, op_notIn_seq, inSeq_rule e sx (.inl h1) h2 (by cases dx <;> exact h0) q⟩
  | tup ds =>
    obtain ⟨p, vs, rfl, h1, h2⟩ := sy.tup e
    exact ⟨_, op_notIn_seq, inSeq_rule e sx (.inr h1) h2 (by cases dx <;> exact h0) q⟩
  | str y =>
    cases dx with
    | str x =>
      cases sx.str; cases sy.str
      have h0 : (if x.cps.size = 1 then some (decide (x.cps.getD 0 0 ∈ y.cps.toList)) else none) = some k0 := h0
      by_cases hz : x.cps.size = 1
      · rw [if_pos hz] at h0
        cases h0
        refine ⟨_, op_notIn_sign, x.cps.getD 0 0, y, ?_, rfl, q⟩
        obtain ⟨⟨l⟩⟩ := x
        match l, hz with
        | [c], _ => rfl
      · rw [if_neg hz] at h0; cases h0
    | _ => cases h0
  | _ => cases dx <;> cases h0
/-! a op b op c -/
def chnM (f f' : D → D → Option Bool) (a b c : M T1) : M Bool := M.bnd a fun x => M.bnd b fun y => M.bnd (rv x) fun dx => M.bnd (rv y) fun dy => M.bnd (lf (f dx dy)) fun k => if k = true then M.bnd c fun z => M.bnd (rv y) fun dy' => M.bnd (rv z) fun dz => lf (f' dy' dz) else M.ret false
theorem chn_core (h1 : CmS T X (compareOp op) f) (h2 : CmS T X (compareOp op') f') (ha : SE T X c W a ma) (hb : SE T X c W b mb) (hc : SE T X c W e3 mc) {st : Sl} {o : Nat → Addr} {σ : L2.St} {H F : Hp} {Q : Bool → Hp → Prop} (R : Rel X.K T c o st σ H F)
    (p : PostR X.K T c W σ F (fun k _ _ H' _ => Q k H') (chnM f f' ma mb mc st)) : tChain (rW X (compareOp op)) (rW X (compareOp op')) (tW X a) (tW X b) (tW X e3) σ H (fun x H' => ∃ k, x = .bl k ∧ Q k H') := by
  refine ha.run st o σ H F _ R ((PostR.bnd p).imp fun x o1 s1 H1 F1 e1 R1 p1 v tr => ?_)
  obtain ⟨F2, e2, R2, tr2⟩ := R1.fz tr
  refine hb.run s1 o1 σ H1 F2 _ R2 ((PostR.bnd (PostR.ext e2 p1)).imp fun y o3 s3 H3 F3 e3' R3 p3 w tw => ?_)
  obtain ⟨F4, e4, R4, tw4⟩ := R3.fz tw
  have p4 := PostR.ext e4 p3
  rw [← rv_fz] at p4
  obtain ⟨dx, sx, p5⟩ := rv_see R4 (tr2.ext (e3'.trans e4)) p4
  rw [← rv_fz] at p5
  obtain ⟨dy, sy, p6⟩ := rv_see R4 tw4 p5
  obtain ⟨k, hk, p7⟩ := (PostR.bnd p6).lf
  have p8 := p7 o3 H3 F4 (Ex.refl F4) R4
  refine OpS.rW h1 R4.sub sx sy (t := .vl (.bl k)) (by simp only [hk, Option.map_some]) fun z H' pr => ?_
  obtain ⟨R5, tr5⟩ := pr.tr R4
  have tr5 : Rp X.K T F4 (.bl k) z := tr5
  unfold Rp at tr5
  refine ⟨k, tr5, ?_⟩
  cases k with
  | false =>
    rw [if_neg (by decide)] at p8
    rw [if_neg (by decide)]
    exact ⟨false, rfl, p8 o3 H' F4 (Ex.refl F4) R5⟩
  | true =>
    rw [if_pos rfl] at p8
    rw [if_pos rfl]
    refine hc.run s3 o3 σ H' F4 _ R5 ((PostR.bnd p8).imp fun u o6 s6 H6 F6 e6 R6 p9 w6 t6 => ?_)
    obtain ⟨F7, e7, R7, t7⟩ := R6.fz t6
    have p10 := PostR.ext e7 p9
    obtain ⟨dy', sy', p11⟩ := rv_see R7 (tw4.ext (e6.trans e7)) p10
    rw [← rv_fz] at p11
    obtain ⟨dz, sz, p12⟩ := rv_see R7 t7 p11
    obtain ⟨k2, hk2, p13⟩ := p12.lf
    refine OpS.rW h2 R7.sub sy' sz (t := .vl (.bl k2)) (by simp only [hk2, Option.map_some]) fun z2 H8 pr2 => ?_
    obtain ⟨R9, tr9⟩ := pr2.tr R7
    have tr9 : Rp X.K T F7 (.bl k2) z2 := tr9
    unfold Rp at tr9
    exact ⟨k2, tr9, p13 o6 H8 F7 (Ex.refl F7) R9⟩
theorem st_chn (h1 : CmS T X (compareOp op) f) (h2 : CmS T X (compareOp op') f') (ha : SE T X c W a ma) (hb : SE T X c W b mb) (hc : SE T X c W e3 mc) (hm : lastMarks [op, op'] [b, e3] = false := by with_unfolding_all rfl) : ST T X c W (.Compare a [op, op'] [b, e3] pos) (chnM f f' ma mb mc) :=
  ⟨fun st o σ H F Q R p => tWT_of (pt_chain opr_rW opr_rW pe_tW pe_tW pe_tW hm) (chn_core h1 h2 ha hb hc R p)⟩
theorem se_chn (h1 : CmS T X (compareOp op) f) (h2 : CmS T X (compareOp op') f') (ha : SE T X c W a ma) (hb : SE T X c W b mb) (hc : SE T X c W e3 mc) (hm : lastMarks [op, op'] [b, e3] = false := by with_unfolding_all rfl) : SE T X c W (.Compare a [op, op'] [b, e3] pos) (asV (chnM f f' ma mb mc)) := by
  refine ⟨fun st o σ H F Q R p => tW_of (pe_chain opr_rW opr_rW pe_tW pe_tW pe_tW hm) ?_⟩
  have q := chn_core h1 h2 ha hb hc R (asV_post p)
  have e : (fun (x : V) (H' : Hp) => ∃ k, x = .bl k ∧ Q (.bl k) H') = Q ∨ True := .inr True.intro
  refine (show tChain (rW X (compareOp op)) (rW X (compareOp op')) (tW X a) (tW X b) (tW X e3) σ H Q from ?_)
  have mono : ∀ {Q1 Q2 : VK}, (∀ x H', Q1 x H' → Q2 x H') → tChain (rW X (compareOp op)) (rW X (compareOp op')) (tW X a) (tW X b) (tW X e3) σ H Q1 → tChain (rW X (compareOp op)) (rW X (compareOp op')) (tW X a) (tW X b) (tW X e3) σ H Q2 := fun {Q1 Q2} h z =>
    tW.mono z fun x H1 z => tW.mono z fun y H2 z => fun pins s σ' v u I rx ry => wpAny_mono (z pins s σ' v u I rx ry) (fun w s' ⟨z1, H3, I3, r3, k, e, q3⟩ => ⟨z1, H3, I3, r3, k, e, by
      cases k with
      | true => rw [if_pos rfl] at q3 ⊢; exact tW.mono q3 fun w' H4 z => fun pins s σ'' v u I rx ry => wpAny_mono (z pins s σ'' v u I rx ry) (fun w s' ⟨z1, H3, I3, r3, q⟩ => ⟨z1, H3, I3, r3, h _ _ q⟩) fun _ _ x => x
      | false => rw [if_neg (by decide)] at q3 ⊢; exact h _ _ q3⟩) fun _ _ x => x
  exact mono (fun x H' ⟨k, ex, q⟩ => by rw [ex]; exact q) q
/-! unary minus -/
theorem se_neg (ha : SE T X c W a ma) : SE T X c W (.UnaryOp .USub a pos) (un negD ma) := by
  refine ⟨fun st o σ H F Q R p => tW_of (pe_un un_neg pe_tW) ?_⟩
  refine one (k := fun d => lf (negD d)) ha R p fun dx x o1 s1 H1 F1 e1 R1 sx p1 => ?_
  obtain ⟨t, ht, p2⟩ := p1.lf
  cases dx with
  | int i =>
    cases sx.int; cases ht
    exact ⟨i, rfl, p2 o1 H1 F1 (Ex.refl F1) R1 _ (by show Rp _ _ _ _ _; unfold Rp; rfl)⟩
  | _ => cases ht
/-! xs[::-1] -/
def revD : D → Option T1
  | .lst ds => some (.fr (.lst ds.reverse))
  | _ => none
theorem se_rev {k : Nat} {p1 p2 p3 : Pos} (ha : SE T X c W a ma) : SE T X c W (.Subscript a (.Slice none none (some (.UnaryOp .USub (.Constant (.int 1) k p1) p2)) p3) pos) (un revD ma) := by
  refine ⟨fun st o σ H F Q R p => tW_of (pe_revL pe_tW) ?_⟩
  refine one (k := fun d => lf (revD d)) ha R p fun dx x o1 s1 H1 F1 e1 R1 sx p1 => ?_
  obtain ⟨t, ht, p2⟩ := p1.lf
  cases dx with
  | lst ds =>
    cases ht
    obtain ⟨q, vs, rfl, h1, h2⟩ := sx.lst R1.sub
    refine ⟨q, vs, rfl, h1, fun n hn => ?_⟩
    obtain ⟨R2, tr⟩ := PR.tr R1 (t := .fr (.lst ds.reverse)) (v := .ref n) (H' := upd H1 n (.lst vs.reverse)) ⟨Ex.new hn, n, _, rfl, hn, upd_same, _, rfl, h2.rev⟩
    exact p2 o1 _ F1 (Ex.refl F1) R2 _ tr
  | _ => cases ht
/-! f-strings -/
def fmtD : D → Option Str
  | .str y => if y.length ≤ 1000000 then some y else none
  | .int i => if i.natAbs.log2 < 1920 then some (PySem.Str.ofString (toString i)) else none
  | _ => none
/-- a part of an f-string -/
structure SF (T : Tb) (X : Cx) (c : Fc) (W : WX) (py : Expr) (m : M Str) : Prop where
  run : ∀ (st : Sl) (o : Nat → Addr) (σ : L2.St) (H F : Hp) (Q : VK), Rel X.K T c o st σ H F → PostR X.K T c W σ F (fun x _ _ H' _ => Q (.str x) H') (m st) → tW X py σ H Q
def fmtM (a : M T1) : M Str := M.bnd (ops1 a) fun d => lf (fmtD d)
theorem sf_fmt (ha : SE T X c W a ma) : SF T X c W (.FormattedValue a (-1) none pos) (fmtM ma) := by
  refine ⟨fun st o σ H F Q R p => tW_of (pe_fmt pe_tW) ?_⟩
  refine one (k := fun d => lf (fmtD d)) ha R p fun dx x o1 s1 H1 F1 e1 R1 sx p1 => ?_
  obtain ⟨t, ht, p2⟩ := p1.lf
  have p3 := p2 o1 H1 F1 (Ex.refl F1) R1
  cases dx with
  | str y =>
    cases sx.str
    have ht : (if y.length ≤ 1000000 then some y else none) = some t := ht
    by_cases hz : y.length ≤ 1000000
    · rw [if_pos hz] at ht; cases ht
      exact .inl ⟨_, rfl, by rw [sizeLine_eq]; omega, p3⟩
    · rw [if_neg hz] at ht; cases ht
  | int i =>
    cases sx.int
    have ht : (if i.natAbs.log2 < 1920 then some (PySem.Str.ofString (toString i)) else none) = some t := ht
    by_cases hz : i.natAbs.log2 < 1920
    · rw [if_pos hz] at ht; cases ht
      exact .inr ⟨i, rfl, hz, p3⟩
    · rw [if_neg hz] at ht; cases ht
  | _ => cases ht
def litM (x : Str) : M Str := M.ret x
theorem sf_lit {x : Str} {j : Nat} : SF T X c W (.Constant (.str x) j pos) (litM x) := ⟨fun st o σ H F Q R p => tW_of pe_str (p o H F (Ex.refl F) R)⟩
def catM : List (M Str) → Str → M Str
  | [], acc => M.ret acc
  | m :: ms, acc => M.bnd m fun y => if (acc ++ y).length ≤ 1000000 then catM ms (acc ++ y) else stk
def fstM (ms : List (M Str)) : M T1 := M.bnd (catM ms Str.empty) fun x => M.ret (T1.vl (.str x))
inductive SFs (T : Tb) (X : Cx) (c : Fc) (W : WX) : List Expr → List (M Str) → Prop where
  | nil : SFs T X c W [] []
  | cons {e : Expr} {m : M Str} {es : List Expr} {ms : List (M Str)} (h : SF T X c W e m) (r : SFs T X c W es ms) : SFs T X c W (e :: es) (m :: ms)
theorem SFs.pj {es : List Expr} {ms : List (M Str)} (h : SFs T X c W es ms) : PJ X es (es.map (tW X)) := by
  induction h with
  | nil => exact .nil
  | cons h r ih => exact .cons pe_tW ih
theorem fst_core {es : List Expr} {ms : List (M Str)} (h : SFs T X c W es ms) : ∀ {acc : Str} {st : Sl} {o : Nat → Addr} {σ : L2.St} {H F : Hp} {Q : Str → Hp → Prop}, Rel X.K T c o st σ H F → PostR X.K T c W σ F (fun x _ _ H' _ => Q x H') (catM ms acc st) → tJs (es.map (tW X)) acc σ H Q := by
  induction h with
  | nil => exact fun {acc st o σ H F Q} R p => p o H F (Ex.refl F) R
  | @cons e m es ms h r ih =>
    intro acc st o σ H F Q R p
    refine h.run st o σ H F _ R ((PostR.bnd (m := m) p).imp fun y o1 s1 H1 F1 e1 R1 p1 => ?_)
    by_cases hz : (acc ++ y).length ≤ 1000000
    · rw [if_pos hz] at p1
      exact ⟨y, rfl, by rw [sizeLine_eq]; omega, ih R1 p1⟩
    · rw [if_neg hz] at p1
      exact p1.elim
theorem se_fst {v1 v2 : Expr} {rest : List Expr} {ms : List (M Str)} (h : SFs T X c W (v1 :: v2 :: rest) ms) : SE T X c W (.JoinedStr (v1 :: v2 :: rest) pos) (fstM ms) := by
  refine ⟨fun st o σ H F Q R p => tW_of (pe_joined h.pj) ?_⟩
  exact fst_core h R ((PostR.bnd p).imp fun x o1 s1 H1 F1 e1 R1 p1 => p1 o1 H1 F1 (Ex.refl F1) R1 _ (by show Rp _ _ _ _ _; unfold Rp; rfl))
end
end Fw
end

section
set_option maxRecDepth 100000
set_option maxHeartbeats 2000000
namespace Fw
open PySem PySem.Spec PyProof.Rows L2

/-! ### built-in functions -/
def intF : List D → Option T1
  | [.int i] => some (.vl (.int i))
  | [.bl b] => some (.vl (.int (if b then 1 else 0)))
  | [.str x] => if x.length ≤ 640 then (PySem.intText? x).map fun n => .vl (.int n) else none
  | _ => none
def strF : List D → Option T1
  | [.int i] => if i.natAbs.log2 < 1920 then some (.vl (.str (PySem.Str.ofString (toString i)))) else none
  | [.str x] => some (.vl (.str x))
  | _ => none
def absF : List D → Option T1
  | [.int i] => some (.vl (.int (if i < 0 then -i else i)))
  | _ => none
def lenF : List D → Option T1
  | [.str x] => if x.length ≤ 1000000 then some (.vl (.int x.length)) else none
  | [.lst ds] => some (.vl (.int ds.length))
  | [.tup ds] => some (.vl (.int ds.length))
  | _ => none
def boolF : List D → Option T1
  | [.int i] => some (.vl (.bl (i != 0)))
  | [.bl b] => some (.vl (.bl b))
  | _ => none
def listF : List D → Option T1
  | [.lst ds] => some (.fr (.lst ds))
  | [.tup ds] => some (.fr (.lst ds))
  | _ => none
def tupleF : List D → Option T1
  | [.lst ds] => some (.fr (.tup ds))
  | [.tup ds] => some (.vl (.tup ds))
  | _ => none
def blsD : List D → Option (List Bool)
  | [] => some []
  | .bl b :: ds => (blsD ds).map (b :: ·)
  | _ :: _ => none
def allF : List D → Option T1
  | [.lst ds] => (blsD ds).map fun bs => .vl (.bl (bs.all id))
  | _ => none
def anyF : List D → Option T1
  | [.lst ds] => (blsD ds).map fun bs => .vl (.bl (bs.any id))
  | _ => none
theorem bls_rp {K : PySem.W.Frag} {T : Tb} {F : Hp} : ∀ {ds : List D} {vs : List V} {bs : List Bool}, RpL K T F ds vs → blsD ds = some bs → vs = bs.map V.bl
  | [], vs, bs, h, e => by unfold RpL at h; subst h; cases e; rfl
  | d :: ds, vs, bs, h, e => by
    unfold RpL at h
    obtain ⟨v, vs', rfl, h1, h2⟩ := h
    cases d with
    | bl b =>
      unfold blsD at e
      obtain ⟨bs', hb, rfl⟩ := Option.map_eq_some_iff.mp e
      unfold Rp at h1
      rw [h1, bls_rp h2 hb]
      rfl
    | _ => cases e
theorem SeeL.one {K : PySem.W.Frag} {T : Tb} {F H : Hp} {d : D} {xs : List V} (h : SeeL K T F H [d] xs) : ∃ x, xs = [x] ∧ See K T F H d x := by
  match xs, h with
  | [x], h => exact ⟨x, rfl, h.1⟩
  | [], h => exact h.elim
  | _ :: _ :: _, h => exact h.2.elim
theorem SeeL.two {K : PySem.W.Frag} {T : Tb} {F H : Hp} {d e : D} {xs : List V} (h : SeeL K T F H [d, e] xs) : ∃ x y, xs = [x, y] ∧ See K T F H d x ∧ See K T F H e y := by
  match xs, h with
  | [x, y], h => exact ⟨x, y, rfl, h.1, h.2.1⟩
  | [], h => exact h.elim
  | [_], h => exact h.2.elim
  | _ :: _ :: _ :: _, h => exact h.2.2.elim
section
variable {T : Tb} {X : Cx} {c : Fc} {W : WX} {pos p apos cpos : Pos}
/-- of one argument -/
theorem CallS.one {f : Value} {g : List D → Option T1} (hg : ∀ ds t, g ds = some t → ∃ d, ds = [d]) (h : ∀ (F H : Hp) (x : V) (d : D) (t : T1) (Q : VK), Ex F H → See X.K T F H d x → g [d] = some t → (∀ z H', PR X.K T F H t z H' → Q z H') → ∃ r, CallR X f r ∧ r [x] H Q) : CallS T X f g :=
  CallS.of fun F H xs ds t Q e sx hgt k => by
    obtain ⟨d, rfl⟩ := hg ds t hgt
    obtain ⟨x, rfl, s1⟩ := sx.one
    exact h F H x d t Q e s1 hgt k
theorem cs_int : CallS T X (.type "int") intF := CallS.one (fun ds t h => by
    match ds, h with
    | [d], _ => exact ⟨d, rfl⟩
    | d :: _ :: _, h => cases d <;> cases h) fun F H x d t Q e sx hg k => by
  cases d with
  | int i => cases sx.int; cases hg; exact ⟨_, call_int1, .inl ⟨i, rfl, prI k⟩⟩
  | bl i => cases sx.bl; cases hg; exact ⟨_, call_int1, .inr ⟨i, rfl, prI k⟩⟩
  | str y =>
    cases sx.str
    have hg : (if y.length ≤ 640 then (PySem.intText? y).map fun n => T1.vl (.int n) else none) = some t := hg
    by_cases hz : y.length ≤ 640
    · rw [if_pos hz] at hg
      obtain ⟨n, hn, rfl⟩ := Option.map_eq_some_iff.mp hg
      exact ⟨_, call_int_str, y, n, rfl, hn, hz, prI k⟩
    · rw [if_neg hz] at hg; cases hg
  | _ => cases hg
theorem cs_str : CallS T X (.type "str") strF := CallS.one (fun ds t h => by
    match ds, h with
    | [d], _ => exact ⟨d, rfl⟩
    | d :: _ :: _, h => cases d <;> cases h) fun F H x d t Q e sx hg k => by
  cases d with
  | int i =>
    cases sx.int
    have hg : (if i.natAbs.log2 < 1920 then some (T1.vl (.str (PySem.Str.ofString (toString i)))) else none) = some t := hg
    by_cases hz : i.natAbs.log2 < 1920
    · rw [if_pos hz] at hg; cases hg
      exact ⟨_, call_str_int, i, rfl, hz, prS k⟩
    · rw [if_neg hz] at hg; cases hg
  | str i => cases sx.str; cases hg; exact ⟨_, SkE.call_str_str, i, rfl, prS k⟩
  | _ => cases hg
theorem cs_abs : CallS T X (.builtin "abs") absF := CallS.one (fun ds t h => by
    match ds, h with
    | [d], _ => exact ⟨d, rfl⟩
    | d :: _ :: _, h => cases d <;> cases h) fun F H x d t Q e sx hg k => by
  cases d with
  | int i => cases sx.int; cases hg; exact ⟨_, call_abs, i, rfl, prI k⟩
  | _ => cases hg
theorem cs_bool : CallS T X (.type "bool") boolF := CallS.one (fun ds t h => by
    match ds, h with
    | [d], _ => exact ⟨d, rfl⟩
    | d :: _ :: _, h => cases d <;> cases h) fun F H x d t Q e sx hg k => by
  cases d with
  | int i => cases sx.int; cases hg; exact ⟨_, call_bool1, .inl ⟨i, rfl, prB k⟩⟩
  | bl i => cases sx.bl; cases hg; exact ⟨_, call_bool1, .inr ⟨i, rfl, prB k⟩⟩
  | _ => cases hg
theorem cs_len : CallS T X (.builtin "len") lenF := CallS.one (fun ds t h => by
    match ds, h with
    | [d], _ => exact ⟨d, rfl⟩
    | d :: _ :: _, h => cases d <;> cases h) fun F H x d t Q e sx hg k => by
  cases d with
  | str y =>
    cases sx.str
    have hg : (if y.length ≤ 1000000 then some (T1.vl (.int y.length)) else none) = some t := hg
    by_cases hz : y.length ≤ 1000000
    · rw [if_pos hz] at hg; cases hg
      exact ⟨_, call_len, .str y, y.length, rfl, ⟨by rw [sizeLine_eq]; omega, rfl⟩, prI k⟩
    · rw [if_neg hz] at hg; cases hg
  | lst ds =>
    cases hg
    obtain ⟨a, vs, rfl, h1, h2⟩ := sx.lst e
    exact ⟨_, call_len, .ref a, ds.length, rfl, .inl ⟨vs, h1, h2.len.symm⟩, prI k⟩
  | tup ds =>
    cases hg
    obtain ⟨a, vs, rfl, h1, h2⟩ := sx.tup e
    exact ⟨_, call_len, .ref a, ds.length, rfl, .inr ⟨vs, h1, h2.len.symm⟩, prI k⟩
  | _ => cases hg
theorem cs_list : CallS T X (.type "list") listF := CallS.one (fun ds t h => by
    match ds, h with
    | [d], _ => exact ⟨d, rfl⟩
    | d :: _ :: _, h => cases d <;> cases h) fun F H x d t Q e sx hg k => by
  cases d with
  | lst ds =>
    cases hg
    obtain ⟨a, vs, rfl, h1, h2⟩ := sx.lst e
    exact ⟨_, call_list_of, a, vs, rfl, .inl h1, fun l hl => k _ _ ⟨Ex.new hl, l, _, rfl, hl, upd_same, _, rfl, h2⟩⟩
  | tup ds =>
    cases hg
    obtain ⟨a, vs, rfl, h1, h2⟩ := sx.tup e
    exact ⟨_, call_list_of, a, vs, rfl, .inr h1, fun l hl => k _ _ ⟨Ex.new hl, l, _, rfl, hl, upd_same, _, rfl, h2⟩⟩
  | _ => cases hg
theorem cs_tuple : CallS T X (.type "tuple") tupleF := CallS.one (fun ds t h => by
    match ds, h with
    | [d], _ => exact ⟨d, rfl⟩
    | d :: _ :: _, h => cases d <;> cases h) fun F H x d t Q e sx hg k => by
  cases d with
  | lst ds =>
    cases hg
    obtain ⟨a, vs, rfl, h1, h2⟩ := sx.lst e
    exact ⟨_, call_tuple_of, a, vs, rfl, .inl ⟨h1, fun l hl => k _ _ ⟨Ex.new hl, l, _, rfl, hl, upd_same, _, rfl, h2⟩⟩⟩
  | tup ds =>
    cases hg
    obtain ⟨a, vs, rfl, h1, h2⟩ := sx.tup e
    exact ⟨_, call_tuple_of, a, vs, rfl, .inr ⟨h1, k _ _ (PR.sc (see_tup sx))⟩⟩
  | _ => cases hg
theorem cs_all (hc : X.calm = true) : CallS T X (.builtin "all") allF := CallS.one (fun ds t h => by
    match ds, h with
    | [d], _ => exact ⟨d, rfl⟩
    | d :: _ :: _, h => cases d <;> cases h) fun F H x d t Q e sx hg k => by
  cases d with
  | lst ds =>
    obtain ⟨bs, hb, rfl⟩ := Option.map_eq_some_iff.mp hg
    obtain ⟨a, vs, rfl, h1, h2⟩ := sx.lst e
    have := bls_rp h2 hb
    subst this
    exact ⟨_, cr_all hc, a, bs, rfl, h1, prB k⟩
  | _ => cases hg
theorem cs_any (hc : X.calm = true) : CallS T X (.builtin "any") anyF := CallS.one (fun ds t h => by
    match ds, h with
    | [d], _ => exact ⟨d, rfl⟩
    | d :: _ :: _, h => cases d <;> cases h) fun F H x d t Q e sx hg k => by
  cases d with
  | lst ds =>
    obtain ⟨bs, hb, rfl⟩ := Option.map_eq_some_iff.mp hg
    obtain ⟨a, vs, rfl, h1, h2⟩ := sx.lst e
    have := bls_rp h2 hb
    subst this
    exact ⟨_, cr_any hc, a, bs, rfl, h1, prB k⟩
  | _ => cases hg
/-! methods -/
def partD : D → List D → Option T1
  | .str a, [.str b] => if b.length ≠ 0 ∧ a.length ≤ 1000000 then some (.fr (.tup [.str (Txt.partition a b).1, .str (Txt.partition a b).2.1, .str (Txt.partition a b).2.2])) else none
  | _, _ => none
def splitD : D → List D → Option T1
  | .str a, [.str b] => if b.length ≠ 0 ∧ a.length ≤ 1000000 then some (.fr (.lst ((Txt.split a b).map D.str))) else none
  | _, _ => none
theorem ms_partition : MtS T X "str.partition" partD := MtS.of fun F H x xs d ds t Q e sx sds hg k => by
  cases d with
  | str a =>
    match ds, hg with
    | [.str b], hg =>
      cases sx.str
      obtain ⟨y, rfl, sy⟩ := sds.one
      cases sy.str
      have hg : (if b.length ≠ 0 ∧ a.length ≤ 1000000 then some (T1.fr (.tup [.str (Txt.partition a b).1, .str (Txt.partition a b).2.1, .str (Txt.partition a b).2.2])) else none) = some t := hg
      by_cases hz : b.length ≠ 0 ∧ a.length ≤ 1000000
      · rw [if_pos hz] at hg; cases hg
        exact ⟨_, mt_partition, a, b, rfl, rfl, beq_eq_false_iff_ne.mpr hz.1, by rw [sizeLine_eq]; omega, fun p hp => k _ _ ⟨Ex.new hp, p, _, rfl, hp, upd_same, _, rfl, RpL.strs [_, _, _]⟩⟩
      · rw [if_neg hz] at hg; cases hg
  | _ => cases hg
theorem ms_split : MtS T X "str.split" splitD := MtS.of fun F H x xs d ds t Q e sx sds hg k => by
  cases d with
  | str a =>
    match ds, hg with
    | [.str b], hg =>
      cases sx.str
      obtain ⟨y, rfl, sy⟩ := sds.one
      cases sy.str
      have hg : (if b.length ≠ 0 ∧ a.length ≤ 1000000 then some (T1.fr (.lst ((Txt.split a b).map D.str))) else none) = some t := hg
      by_cases hz : b.length ≠ 0 ∧ a.length ≤ 1000000
      · rw [if_pos hz] at hg; cases hg
        exact ⟨_, mt_split, a, b, rfl, rfl, beq_eq_false_iff_ne.mpr hz.1, by rw [sizeLine_eq]; omega, fun p hp => k _ _ ⟨Ex.new hp, p, _, rfl, hp, upd_same, _, rfl, RpL.strs _⟩⟩
      · rw [if_neg hz] at hg; cases hg
  | _ => cases hg
def appD : D → List D → Option (D × D)
  | .lst ds, [d] => if ds.length ≤ 1000000 then some (.lst (ds ++ [d]), .non) else none
  | _, _ => none
def insD : D → List D → Option (D × D)
  | .lst ds, [.int i, d] => if ds.length ≤ 1000000 ∧ 0 ≤ i ∧ i < 2 ^ 63 then some (.lst (ds.take i.toNat ++ [d] ++ ds.drop i.toNat), .non) else none
  | _, _ => none
theorem RpL.one {K : PySem.W.Frag} {F : Hp} {d : D} {vs : List V} (h : RpL K T F [d] vs) : ∃ v, vs = [v] ∧ Rp K T F d v := by
  unfold RpL at h
  obtain ⟨v, vs', rfl, h1, h2⟩ := h
  unfold RpL at h2
  subst h2
  exact ⟨v, rfl, h1⟩
theorem RpL.two {K : PySem.W.Frag} {F : Hp} {d e : D} {vs : List V} (h : RpL K T F [d, e] vs) : ∃ v w, vs = [v, w] ∧ Rp K T F d v ∧ Rp K T F e w := by
  unfold RpL at h
  obtain ⟨v, vs', rfl, h1, h2⟩ := h
  obtain ⟨w, rfl, h3⟩ := h2.one
  exact ⟨v, w, rfl, h1, h3⟩
theorem mu_append : MuS T X "list.append" appD := MuS.of fun F H l u xs d d' rr ds Q e hl ho rp hg k => by
  cases d with
  | lst ys =>
    match ds, hg with
    | [d], hg =>
      obtain ⟨v, rfl, rv⟩ := rp.one
      obtain ⟨vs, rfl, h2⟩ := ho
      have hg : (if ys.length ≤ 1000000 then some (D.lst (ys ++ [d]), D.non) else none) = some (d', rr) := hg
      by_cases hz : ys.length ≤ 1000000
      · rw [if_pos hz] at hg; cases hg
        exact ⟨_, mt_append, l, vs, v, rfl, rfl, hl, by rw [h2.len, sizeLine_eq]; omega, k _ _ ⟨_, rfl, h2.snoc rv⟩ (by unfold Rp; rfl)⟩
      · rw [if_neg hz] at hg; cases hg
    | [], hg => cases hg
    | _ :: _ :: _, hg => cases hg
  | _ => cases hg
theorem mu_insert : MuS T X "list.insert" insD := MuS.of fun F H l u xs d d' rr ds Q e hl ho rp hg k => by
  cases d with
  | lst ys =>
    match ds, hg with
    | [.int i, d], hg =>
      obtain ⟨v1, v, rfl, r1, rv⟩ := rp.two
      unfold Rp at r1
      subst r1
      obtain ⟨vs, rfl, h2⟩ := ho
      have hg : (if ys.length ≤ 1000000 ∧ 0 ≤ i ∧ i < 2 ^ 63 then some (D.lst (ys.take i.toNat ++ [d] ++ ys.drop i.toNat), D.non) else none) = some (d', rr) := hg
      by_cases hz : ys.length ≤ 1000000 ∧ 0 ≤ i ∧ i < 2 ^ 63
      · rw [if_pos hz] at hg; cases hg
        exact ⟨_, mt_insert, l, vs, i, v, rfl, rfl, hl, by rw [h2.len, sizeLine_eq]; omega, hz.2.1, hz.2.2, k _ _ ⟨_, rfl, ((h2.take _).snoc rv).app (h2.drop _)⟩ (by unfold Rp; rfl)⟩
      · rw [if_neg hz] at hg; cases hg
  | _ => cases hg
/-! in place -/
def iaddD : D → D → Option T1
  | .int i, .int j => some (.vl (.int (i + j)))
  | _, _ => none
theorem ops_iadd : OpS T X (inplaceOp .Add) iaddD := OpS.of fun F H x y dx dy t Q e sx sy hg k => by
  cases dx with
  | int i =>
    cases dy with
    | int j =>
      cases sx.int; cases sy.int; cases hg
      exact ⟨_, iop_add, i, j, rfl, rfl, prI k⟩
    | _ => cases hg
  | _ => cases hg
end
end Fw
end

section
set_option maxRecDepth 100000
set_option maxHeartbeats 2000000
namespace Fw
open PySem PySem.Spec PyProof.Rows L2

/-! ### the text's own special methods -/
def OwnQ (X : Cx) (T : Tb) (pins : List (Addr × Obj)) (σ : L2.St) (H : Hp) (fr : Bool) (r : D) (w : Value) (s' : Shared) : Prop := ∃ z H' F', Inv X pins σ H' s' ∧ RelV z w ∧ Ex H F' ∧ Ex F' H' ∧ RetR X.K T H F' H' fr r z
theorem OwnQ.ex {X : Cx} {T : Tb} {pins : List (Addr × Obj)} {σ : L2.St} {H : Hp} {fr : Bool} {r : D} {w : Value} {s' : Shared} (h : OwnQ X T pins σ H fr r w s') : ∃ z H' F', Inv X pins σ H' s' ∧ Ex H H' ∧ RelV z w ∧ Ex H F' ∧ Ex F' H' ∧ RetR X.K T H F' H' fr r z := by
  obtain ⟨z, H', F', h1, h2, h3, h4, h5⟩ := h
  exact ⟨z, H', F', h1, h3.trans h4, h2, h3, h4, h5⟩
section
variable {T : Tb} {X : Cx} {c : Fc} {W : WX} {k : Nat} {f : Addr} {g : List D → FR} {pins : List (Addr × Obj)} {σ : L2.St} {H : Hp} {s : Shared}
theorem sub_env {A : Around} {n : Nat} (sb : Sub X n A) (I : Inv X pins σ H s) : Env0 X.prog X.w X.K X.mg X.base A X.stack s H := by
  have e := I.env0
  exact ⟨by rw [sb.fr]; exact e.frames, e.mod, e.bs, e.bsz, e.funs, e.frf, e.hok, e.bare⟩
theorem picks_range {α : Type} : ∀ (l : List α), picks (List.range l.length) l = l
  | [] => rfl
  | a :: l => by
    rw [List.length_cons, List.range_succ_eq_map]
    exact (picks_zero (x := a) (l := l) (pi := List.range l.length)).trans (congrArg _ (picks_range l))
theorem own_run {A : Around} {n : Nat} {us : List Value} {vs : List V} {ds : List D} {fr : Bool} {r : D} (C : Cal false X T k f (ds.map fun _ => false) g n [] (List.range n) []) (sb : Sub X k A) (tk : Takes X W) (I : Inv X pins σ H s) (hl : us.length = n) (rv : Vals vs us) (rp : RpL X.K T H ds vs) (hg : g ds = .ok fr r []) :
    wpAny (model X.prog X.w) A (call (.ref f) us) (OwnQ X T pins σ H fr r) X.xe s := by
  obtain ⟨fd, ps, dvs, dus, F, hd, rd, hb⟩ := C.ex
  have hdv : dvs = [] := by
    have := rd H
    unfold RpL at this
    exact this
  subst hdv
  cases hd
  have b := hb s us [] I.kIn hl rfl
  have e0 : us ++ [] ++ [] = us := by simp
  subst hl
  rw [e0, picks_range us] at b
  have refF : ∀ {i : Nat} {a : Addr}, ¬ RefIn (ds.map fun _ => false) vs i a := fun {i a} h => by
    have h1 := h.1
    rw [List.getElem?_map] at h1
    cases e : ds[i]? with
    | none => rw [e] at h1; cases h1
    | some x => rw [e] at h1; cases h1
  have hsp : spF X.K T (ds.map fun _ => false) g vs H (fun z H' => ∃ F', Ex H F' ∧ Ex F' H' ∧ RetR X.K T H F' H' fr r z) (WE W σ) := by
    refine ⟨H, ds, Ex.refl H, ⟨by rw [rp.len, List.length_map], by rw [List.length_map], fun i b v d h1 h2 h3 => ?_⟩, fun i j a z _ => (refF z).elim, ?_⟩
    · have hb : b = false := by
        rw [List.getElem?_map, h3] at h1
        cases h1; rfl
      subst hb
      obtain ⟨w, h4, h5⟩ := rp.get h3
      rw [h2] at h4
      cases h4
      simpa using h5
    · rw [hg]
      exact fun v F' H' gr _ rt => ⟨F', gr.exF, gr.sub, rt⟩
  refine wpAny_call (codeAny_mono (F.run A X.stack s H ⟨us, []⟩ us vs _ (WE W σ) (fun z => nomatch z) sb.room (sub_env sb I) b rv hsp) fun r s' hq => ?_)
  cases r with
  | error e => exact passAt tk σ pins H s e s' I hq
  | ok fl =>
    cases fl with
    | ret w =>
      obtain ⟨z, H', I', rz, F', h1, h2, h3⟩ := I.after hq
      exact ⟨z, H', F', I', rz, h1, h2, h3⟩
    | next => exact False.elim hq
    | brk => exact False.elim hq
    | cont => exact False.elim hq
/-- an own special method of the class cc -/
structure DuKB (P : Program) (w : World) (K : PySem.W.Frag) (mg : Str → Option Value) (base : Heap) (T : Tb) (k : Nat) (cc : Nat) (nm : Str) (n : Nat) (g : List D → FR) : Prop where
  ex : ∃ f : Addr, PySem.W.findIn K (.ref (T.cl cc)) nm = some (some (.ref f)) ∧ PySem.W.isFn K (.ref f) = true ∧ CalB false P w K mg base T k f (List.replicate n false) g n [] (List.range n) []
abbrev DuK (X : Cx) (T : Tb) (k : Nat) (cc : Nat) (nm : Str) (n : Nat) (g : List D → FR) : Prop := DuKB X.prog X.w X.K X.mg X.base T k cc nm n g
theorem ins_at {a C dx : Addr} {fs : List (Str × V)} (I : Inv X pins σ H s) (h : H a = some (.ins C dx fs)) : ∃ ox od, PySem.W.InstAt s.heap a ox C od := by
  obtain ⟨mA, J, _⟩ := ins_get I.hok h
  obtain ⟨od, J, _⟩ := J.look
  exact ⟨_, _, J⟩
theorem see_ins {F : Hp} {d : D} {x : V} {cc : Nat} {ds : List D} (e : Ex F H) (h : See X.K T F H d x) (t : d = .ins cc ds) : ∃ a dx fs, x = .ref a ∧ H a = some (.ins (T.cl cc) dx fs) := by
  subst t
  obtain ⟨a, dx, fs, h1, h2, _⟩ := h.ins e
  exact ⟨a, dx, fs, h1, h2⟩

/-! str(x), repr(x) of an instance -/
def ostrF (cc : Nat) (g : List D → FR) : List D → Option T1
  | [.ins c ds] => if c = cc then match g [.ins c ds] with
    | .ok false (.str y) [] => some (.vl (.str y))
    | _ => none else none
  | _ => none
theorem strback {Q : VK} {y : Str} {w : Value} {s' : Shared} (h : OwnQ X T pins σ H false (.str y) w s') (q : ∀ H', Ex H H' → Q (.str y) H') : PySem.W.StrBack (EP X pins σ Q) w s' := by
  obtain ⟨z, H', F', I', e0, rz, e1, e2, rt⟩ := h.ex
  unfold RetR at rt
  rw [if_neg (by decide)] at rt
  unfold Rp at rt
  subst rt
  obtain ⟨t, rfl⟩ := rz
  exact ⟨.str y, H', I', ⟨t, rfl⟩, q H' e0⟩
theorem ostr_inv {cc : Nat} {g : List D → FR} {ds : List D} {t : T1} (h : ostrF cc g ds = some t) : ∃ fs y, ds = [.ins cc fs] ∧ g [.ins cc fs] = .ok false (.str y) [] ∧ t = .vl (.str y) := by
  match ds, h with
  | [.ins c fs], h =>
    unfold ostrF at h
    by_cases hc : c = cc
    · subst hc
      simp only [if_true] at h
      split at h
      · rename_i y hy
        cases h
        exact ⟨fs, y, rfl, hy, rfl⟩
      · cases h
    · simp only [if_neg hc] at h
      cases h
theorem cs_ostr {cc : Nat} (D1 : DuK X T k cc "__str__" 1 g) (hr : Room (k + 2) X.A) (tk : Takes X W) : CallS T X (.type "str") (ostrF cc g) :=
  fun pins s σ F H xs us ds t Q I rv e sx hg kk => by
    obtain ⟨fs, y, rfl, hy, rfl⟩ := ostr_inv hg
    obtain ⟨x, rfl, s1⟩ := sx.one
    obtain ⟨a, dx, fs', rfl, ha⟩ := see_ins e s1 rfl
    obtain ⟨f, h1, h2, C⟩ := D1.ex
    obtain ⟨u, rfl, ru⟩ := Vals.one rv
    obtain rfl : u = Value.ref a := ru
    obtain ⟨ox, od, J⟩ := ins_at I ha
    have sb : Sub X k X.A.in1.in1 := Sub.in1 (Sub.in1 ⟨hr, rfl⟩)
    refine PySem.W.kso_call sb.room.units0 I.kIn J h1 h2 (thn (own_run (us := [.ref a]) (vs := [.ref a]) (ds := [.ins cc fs]) C sb tk I rfl (.cons rfl .nil) (RpL.cons (s1.rp e) .nil) hy) fun w s' h => strback h fun H' e' => ?_)
    exact kk _ H' ⟨e', by show Rp _ _ _ _ _; unfold Rp; rfl⟩

/-! x == y, x != y, both of the class -/
def oeqD (cc : Nat) (g : List D → FR) : D → D → Option Bool
  | .ins c ds, .ins c' es => if c = cc ∧ c' = cc then match g [.ins c ds, .ins c' es] with
    | .ok false (.bl b) [] => some b
    | _ => none else none
  | _, _ => none
theorem oeq_inv {cc : Nat} {g : List D → FR} {d e : D} {b : Bool} (h : oeqD cc g d e = some b) : ∃ ds es, d = .ins cc ds ∧ e = .ins cc es ∧ g [.ins cc ds, .ins cc es] = .ok false (.bl b) [] := by
  cases d with
  | ins c ds =>
    cases e with
    | ins c' es =>
      unfold oeqD at h
      simp only at h
      by_cases hc : c = cc ∧ c' = cc
      · obtain ⟨rfl, rfl⟩ := hc
        rw [if_pos ⟨rfl, rfl⟩] at h
        split at h
        · rename_i y hy
          cases h
          exact ⟨ds, es, rfl, rfl, hy⟩
        · cases h
      · rw [if_neg hc] at h
        cases h
    | _ => cases h
  | _ => cases h
theorem ownq_bl {b : Bool} {w : Value} {s' : Shared} (h : OwnQ X T pins σ H false (.bl b) w s') : w = .bool b ∧ ∃ H', Inv X pins σ H' s' ∧ Ex H H' := by
  obtain ⟨z, H', F', I', e0, rz, e1, e2, rt⟩ := h.ex
  unfold RetR at rt
  rw [if_neg (by decide)] at rt
  unfold Rp at rt
  subst rt
  exact ⟨rz, H', I', e0⟩
theorem rc_own {cc : Nat} (D1 : DuK X T k cc "__eq__" 2 g) {A : Around} (sb : Sub X k A) (tk : Takes X W) (I : Inv X pins σ H s) {x y : V} {u v : Value} {d e : D} {b : Bool} (rx : RelV x u) (ry : RelV y v) (hx : Rp X.K T H d x) (hy : Rp X.K T H e y) (h : oeqD cc g d e = some b) :
    wpAny (model X.prog X.w) A (richCompare .Eq u v) (fun r s' => r = .bool b ∧ ∃ H', Inv X pins σ H' s' ∧ Ex H H') X.xe s := by
  obtain ⟨ds, es, rfl, rfl, hg⟩ := oeq_inv h
  obtain ⟨a, dx, fs, rfl, ha⟩ := see_ins (X := X) (T := T) (F := H) (H := H) (Ex.refl H) (.inl hx) rfl
  obtain ⟨a', dx', fs', rfl, ha'⟩ := see_ins (X := X) (T := T) (F := H) (H := H) (Ex.refl H) (.inl hy) rfl
  obtain rfl : u = Value.ref a := rx
  obtain rfl : v = Value.ref a' := ry
  obtain ⟨ox, od, J⟩ := ins_at I ha
  obtain ⟨ox', od', J'⟩ := ins_at I ha'
  obtain ⟨f, h1, h2, C⟩ := D1.ex
  obtain ⟨m, hF⟩ := I.fr
  refine PySem.W.cmp_K (op := .Eq) (tb := .ref (T.cl cc)) sb.room.units0 hF I.ok.mod.kin J J'.type (by simp [PySem.W.notFirst]) h1 h2 ?_
  refine thn (own_run (us := [.ref a, .ref a']) (vs := [.ref a, .ref a']) (ds := [.ins cc ds, .ins cc es]) C sb tk I rfl (.cons rfl (.cons rfl .nil)) (RpL.cons hx (RpL.cons hy .nil)) hg) fun w s' hq => ?_
  obtain ⟨rfl, q⟩ := ownq_bl hq
  exact ⟨rfl, q⟩
theorem cms_oeq {cc : Nat} (D1 : DuK X T k cc "__eq__" 2 g) (hr : Room k X.A) (tk : Takes X W) : CmS T X (compareOp .Eq) (oeqD cc g) :=
  fun pins s σ F H x y v u dx dy t Q I rx ry e sx sy hg kk => by
    obtain ⟨b, hb, rfl⟩ := Option.map_eq_some_iff.mp hg
    show wpAny (model X.prog X.w) X.A (richCompare .Eq v u) (EP X pins σ Q) X.xe s
    refine thn (rc_own D1 ⟨hr, rfl⟩ tk I rx ry (sx.rp e) (sy.rp e) hb) fun w s' ⟨hw, H', I', e'⟩ => ?_
    subst hw
    exact ⟨.bl b, H', I', rfl, kk _ H' ⟨e', by show Rp _ _ _ _ _; unfold Rp; rfl⟩⟩
/-! != by object.__ne__ -/
structure NeK (K : PySem.W.Frag) (C : Addr) : Prop where
  ne : PySem.W.findIn K (.ref C) "__ne__" = some (some (.builtin "object.__ne__"))
  ob : PySem.W.mroIn K C (.type "object") = some true
theorem ifBound_objNe {M : Model} {A : Around} {E : Value → Shared → Prop} {s : Shared} {K : PySem.W.Frag} {x C : Addr} {ox : Obj} {od : Option Obj} {args : List Value} {Q : Option Value → Shared → Prop} (X : K.In s.heap) (I : PySem.W.InstAt s.heap x ox C od) (hs : PySem.W.findIn K (.ref C) "__ne__" = some (some (.builtin "object.__ne__")))
    (h : wpAny M A (call (.builtin "object.__ne__") (.ref x :: args)) (fun v => Q (some v)) E s) : wpAny M A (callSpecialIfBound? (.ref x) "__ne__" args) Q E s := by
  simp only [callSpecialIfBound?, bindSpecialIfBound?]
  refine wpAny_holding (wpAny_bind (wpAny_bind (wpAny_bind (I.type.here ((PySem.W.looks_findIn X hs).here ?_)))))
  refine wpAny_bind (wpAny_askSetting (wpAny_ite ?_))
  have fin : wpAny M A (call (.builtin "object.__ne__") ([.ref x] ++ args) >>= fun v => pure (some v)) Q E s := wpAny_bind (wpAny_mono h (fun v s' h' => wpAny_pure h') fun _ _ h' => h')
  split
  · exact wpAny_bind (wpAny_of_eq (F.cmp_object.ne.bind _) (wpAny_pure (by exact fin)))
  · exact wpAny_tryCatch (wpAny_bind (wpAny_of_eq (F.cmp_object.ne.bind _) (wpAny_pure (by exact fin))))
theorem rn_own {cc : Nat} (D1 : DuK X T k cc "__eq__" 2 g) (N : NeK X.K (T.cl cc)) {A : Around} (sb : Sub X (k + 1) A) (tk : Takes X W) (I : Inv X pins σ H s) {x y : V} {u v : Value} {d e : D} {b : Bool} (rx : RelV x u) (ry : RelV y v) (hx : Rp X.K T H d x) (hy : Rp X.K T H e y) (h : oeqD cc g d e = some b) :
    wpAny (model X.prog X.w) A (richCompare .NotEq u v) (fun r s' => r = .bool (!b) ∧ ∃ H', Inv X pins σ H' s' ∧ Ex H H') X.xe s := by
  obtain ⟨ds, es, rfl, rfl, hg⟩ := oeq_inv h
  obtain ⟨a, dx, fs, rfl, ha⟩ := see_ins (X := X) (T := T) (F := H) (H := H) (Ex.refl H) (.inl hx) rfl
  obtain ⟨a', dx', fs', rfl, ha'⟩ := see_ins (X := X) (T := T) (F := H) (H := H) (Ex.refl H) (.inl hy) rfl
  obtain rfl : u = Value.ref a := rx
  obtain rfl : v = Value.ref a' := ry
  obtain ⟨ox, od, J⟩ := ins_at I ha
  obtain ⟨ox', od', J'⟩ := ins_at I ha'
  obtain ⟨f, h1, h2, C⟩ := D1.ex
  have sb1 : Sub X k A.in1 := sb.in1
  have body : wpAny (model X.prog X.w) A.in1 (Builtin.«object.__ne__» ⟨[.ref a, .ref a'], []⟩) (fun fin s' => ∃ b', fin = .done (.ret (.bool b')) ∧ b' = !b ∧ ∃ H', Inv X pins σ H' s' ∧ Ex H H') X.xe s := by
    have hu1 := sb1.room.units0
    have hcall := PySem.W.ifBound_K (M := model X.prog X.w) (A := A.in1) (name := Str.ofString "__eq__") (args := [.ref a']) (Q := fun r s' => r = some (.bool b) ∧ ∃ H', Inv X pins σ H' s' ∧ Ex H H') (E := X.xe) I.kIn J h1 h2
      (thn (own_run (us := [.ref a, .ref a']) (vs := [.ref a, .ref a']) (ds := [.ins cc ds, .ins cc es]) C sb1 tk I rfl (.cons rfl (.cons rfl .nil)) (RpL.cons hx (RpL.cons hy .nil)) hg) fun w s' hq => by
        obtain ⟨rfl, q⟩ := ownq_bl hq
        exact ⟨rfl, q⟩)
    unfold Builtin.«object.__ne__»
    refine wpAny_bind (m := slotArgs "__ne__" 1 _) (wpAny_pure ?_)
    refine wpAny_bind (wpAny_cRoomFor hu1 ?_)
    refine wpAny_bind (wpAny_mono hcall (fun r s' hr => ?_) fun _ _ x => x)
    obtain ⟨rfl, q⟩ := hr
    refine wpAny_bind (wpAny_truthy_bool ?_)
    exact wpAny_pure ⟨_, rfl, rfl, q⟩
  have call : wpAny (model X.prog X.w) A (PySem.call (.builtin "object.__ne__") [.ref a, .ref a']) (fun w s' => w = .bool (!b) ∧ ∃ H', Inv X pins σ H' s' ∧ Ex H H') X.xe s :=
    wpAny_call (codeAny_call_builtin F.cmp_object.ne.plain F.cmpEntry_ne (PySem.W.check_slot F.cmpKind_ne F.cmpSplit_ne (J.type.andThen (PySem.W.looks_mroIn I.kIn N.ob)) (F.cmpArgs_ne _ _) (wpAny_mono body (fun fin s' hf => by
      obtain ⟨b', rfl, rfl, q⟩ := hf
      exact ⟨rfl, q⟩) fun _ _ x => x)))
  have one : wpAny (model X.prog X.w) A (tryCompare (.ref a) (cmpInfo .NotEq).2.1 (.ref a')) (fun r s' => r = some (.bool (!b)) ∧ ∃ H', Inv X pins σ H' s' ∧ Ex H H') X.xe s := by
    unfold tryCompare
    refine wpAny_bind (ifBound_objNe I.kIn J N.ne (wpAny_mono call (fun v s' hv => ?_) fun _ _ e => e))
    obtain ⟨rfl, q⟩ := hv
    exact wpAny_pure ⟨rfl, q⟩
  unfold richCompare
  simp only [oneThing_ref]
  refine wpAny_holding (wpAny_bind (wpAny_cRoomFor sb.room.units0 ?_))
  refine wpAny_bind (J.type.here (wpAny_bind (J'.type.here ?_)))
  rw [show (Value.ref (T.cl cc) != Value.ref (T.cl cc)) = false from by simp]
  simp only [Bool.false_eq_true, if_false]
  refine wpAny_bind (wpAny_pure ?_)
  simp only [Bool.false_eq_true, if_false]
  refine wpAny_bind (wpAny_mono one (fun r s' z => ?_) fun _ _ e => e)
  obtain ⟨rfl, hq⟩ := z
  exact wpAny_pure ⟨rfl, hq⟩
def oneD (cc : Nat) (g : List D → FR) (d e : D) : Option Bool := (oeqD cc g d e).map (!·)
theorem cms_one {cc : Nat} (D1 : DuK X T k cc "__eq__" 2 g) (N : NeK X.K (T.cl cc)) (hr : Room (k + 1) X.A) (tk : Takes X W) : CmS T X (compareOp .NotEq) (oneD cc g) :=
  fun pins s σ F H x y v u dx dy t Q I rx ry e sx sy hg kk => by
    obtain ⟨b1, hb1, rfl⟩ := Option.map_eq_some_iff.mp hg
    obtain ⟨b, hb, rfl⟩ := Option.map_eq_some_iff.mp hb1
    show wpAny (model X.prog X.w) X.A (richCompare .NotEq v u) (EP X pins σ Q) X.xe s
    refine thn (rn_own D1 N ⟨hr, rfl⟩ tk I rx ry (sx.rp e) (sy.rp e) hb) fun w s' ⟨hw, H', I', e'⟩ => ?_
    subst hw
    exact ⟨.bl (!b), H', I', rfl, kk _ H' ⟨e', by show Rp _ _ _ _ _; unfold Rp; rfl⟩⟩
end
end Fw
end

section
set_option maxRecDepth 100000
set_option maxHeartbeats 2000000
namespace Fw
open PySem PySem.Spec PyProof.Rows L2
open Builtin Builtin.List

/-! ### repr of nested data with instances -/
def RpG (X : Cx) (n : Nat) (as : List Addr) (H : Hp) (x : V) (t : Str) : Prop :=
  ∀ (base : Nat), base + t.length ≤ sizeLine → ∀ (A : Around) (g : List Code) (pins : List (Addr × Obj)) (σ : L2.St) (s : Shared) (H1 : Hp) (u : Value) (Q : Str → Shared → Prop), Sub X n A → A.guards = some g → (∀ b ∈ as, Clear g b) → Inv X pins σ H1 s → Ex H H1 → RelV x u →
    (∀ s' H2, Inv X pins σ H2 s' → Ex H1 H2 → Q t s') → wpAny (model X.prog X.w) A (pyReprUnder base u) Q X.xe s
theorem RpG.more {X : Cx} {n m : Nat} {as bs : List Addr} {H : Hp} {x : V} {t : Str} (h : RpG X n as H x t) (hn : n ≤ m) (hs : ∀ b ∈ as, b ∈ bs) : RpG X m bs H x t :=
  fun base hb A g pins σ s H1 u Q sb hg hcl I e rx q => h base hb A g pins σ s H1 u Q (sb.mono hn) hg (fun b z => hcl b (hs b z)) I e rx q
theorem RpG.is {X : Cx} {n : Nat} {as : List Addr} {H : Hp} {x : V} {t : Str} (h : ∀ u, RelV x u → ReprIs X.prog X.w u t) : RpG X n as H x t :=
  fun base hb A g pins σ s H1 u Q sb hg hcl I e rx q => h u rx base hb A X.xe s Q fun tk => q _ H1 (I.tok tk) (Ex.refl H1)
/-- pointwise -/
inductive RpGs (X : Cx) (n : Nat) (as : List Addr) (H : Hp) : List V → List Str → Prop
  | nil : RpGs X n as H [] []
  | cons {x : V} {t : Str} {vs : List V} {ts : List Str} (h : RpG X n as H x t) (r : RpGs X n as H vs ts) : RpGs X n as H (x :: vs) (t :: ts)
theorem RpGs.len {X : Cx} {n : Nat} {as : List Addr} {H : Hp} : ∀ {vs : List V} {ts : List Str}, RpGs X n as H vs ts → ts.length = vs.length
  | _, _, .nil => rfl
  | _, _, .cons h r => by simp [r.len]
theorem RpGs.more {X : Cx} {n m : Nat} {as bs : List Addr} {H : Hp} (hn : n ≤ m) (hs : ∀ b ∈ as, b ∈ bs) : ∀ {vs : List V} {ts : List Str}, RpGs X n as H vs ts → RpGs X m bs H vs ts
  | _, _, .nil => .nil
  | _, _, .cons h r => .cons (h.more hn hs) (r.more hn hs)
theorem RpGs.at {X : Cx} {n : Nat} {as : List Addr} {H : Hp} : ∀ {vs : List V} {ts : List Str} {i : Nat} {x : V}, RpGs X n as H vs ts → vs[i]? = some x → ∃ t, ts[i]? = some t ∧ RpG X n as H x t
  | _, _, i, x, .nil, e => by simp at e
  | _, _, 0, x, .cons h r, e => by
    simp at e
    subst e
    exact ⟨_, rfl, h⟩
  | _, _, i + 1, x, .cons h r, e => by
    obtain ⟨t, h1, h2⟩ := r.at (i := i) (by simpa using e)
    exact ⟨t, by simpa using h1, h2⟩
section
variable {X : Cx} {n : Nat} {as : List Addr} {H H1 : Hp} {pins : List (Addr × Obj)} {σ : L2.St} {s : Shared}
theorem sub_under {A : Around} {c : Code} (sb : Sub X (n + 1) A) (hd : (A.under c).depth ≤ A.depth + 1) (hf : (A.under c).frames = A.frames) (hu : (A.under c).units ≤ A.units + 1) : Sub X n (A.under c) := by
  refine ⟨⟨sb.room.hd, ?_, ?_⟩, hf.trans sb.fr⟩
  · have := sb.room.dp
    omega
  · have := sb.room.un
    omega
theorem sub_loop {A : Around} {args : Args} (sb : Sub X (n + 1) A) : Sub X n (A.under (.builtin "list.__repr__.loop" args)) :=
  sub_under sb (by first | (exact Nat.le_refl _) | simp [Around.under, Code.weight, Code.isCreation, Code.isGuard, Code.isCaller, Code.frames, Code.isFrame, guardIds]) (by first | rfl | simp [Around.under, Code.envs, Code.isFrame, pushEnvs]) (by rw [units_under_list_loop]; exact Nat.le_refl _)
def accO (acc : Array Value) (c : Nat) : Obj := { cls := .type "list", dict := none, data := .seq acc c, slots := #[] }
theorem pin_upd {P : Addr} {o o' : Obj} {h' : Heap} {t : Nat} (I : Inv X ((P, o) :: pins) σ H s) (fp : FpOk X pins H P) (e : h'.get? P = some o') (k : ∀ b u, b ≠ P → s.heap.get? b = some u → h'.get? b = some u) (hc : ∀ v, o'.data ≠ .cell v) : Inv X ((P, o') :: pins) σ H { s with heap := h', toks := t } := by
  obtain ⟨f0, f1, f2, f3, f4, f5⟩ := fp
  have I1 : Inv X pins σ H { s with heap := h', toks := t } := (ClX.unpin I).turned k f0 f1 f3 f4 f5
  refine I1.pins_of fun p hp => ?_
  rcases List.mem_cons.mp hp with z | z
  · subst z
    exact ⟨e, f0, f1, f2, hc⟩
  · exact I1.pin p (List.mem_append_right _ z)
theorem list_loopG {A : Around} {g : List Code} {a P : Addr} {base : Nat} {vs : List V} {ts : List Str} {R : Result → Shared → Prop} (ha : H a = some (.lst vs)) (hT : RpGs X n as H vs ts) (hsz : base + (listText ts).length ≤ sizeLine) (sb : Sub X (n + 1) A) (hg : A.guards = some g) (hcl : ∀ b ∈ as, Clear g b) (hna : a ∉ as)
    (hR : ∀ s' H2 u, Inv X pins σ H2 s' → Ex H H2 → R (.ok (.ret (.str (listText ts) u))) s') (hE : ∀ e s', X.xe e s' → R (.error e) s') :
    ∀ (k i : Nat) (s : Shared) (H1 : Hp) (acc : Array Value) (c : Nat) (done : List (Str × Tok)), vs.length - i = k → i ≤ vs.length → Inv X ((P, accO acc c) :: pins) σ H1 s → FpOk X pins H1 P → Ex H H1 → acc.toList = strValues done → done.map (·.1) = ts.take i →
    codeAny (model X.prog X.w) A (.builtin "list.__repr__.loop" ⟨[.ref a, rawInt i, .ref P, rawInt ((base + piled (ts.take i) : Nat) : Int)], []⟩) R s := by
  have hlen := hT.len
  have hX : (listText ts).length = (textFrom 0 "[" ts).length + 1 := by
    show (textFrom 0 "[" ts ++ "]").length = _
    rw [strLen_append]; rfl
  have hL := textFrom_len ts 0 "["
  have hszn : vs.length ≤ sizeLine := by
    have h1 := hL.1
    rw [if_neg (Nat.lt_irrefl 0)] at h1
    omega
  have hszt : ∀ t ∈ ts, t.length ≤ sizeLine := fun t ht => by
    have h2 := hL.2.1 t ht
    omega
  have hszl : (listText ts).length ≤ sizeLine := by omega
  have hp3 := piled_le_listText ts
  intro k
  induction k with
  | zero =>
    intro i s H1 acc c done hk hi I fp e1 hacc hdone
    have hin : i = vs.length := by omega
    obtain ⟨its, rv, ⟨o, m, ho, hc, _, hd⟩, _⟩ := I.list (SqL.of (e1 _ _ ha))
    have hP := ClX.pin_at I
    refine codeAny_builtin F.entry_list_repr_loop ?_
    show wpAny _ _ («list.__repr__.loop» ⟨[.ref a, .int i 0, .ref P, .int ((base + piled (ts.take i) : Nat) : Int) 0], []⟩) _ _ s
    rw [repr_loop_tree]
    refine wpAny_bind (wpAny_listItems ho hd ?_)
    have hnone : its.toArray[(i : Int).toNat]? = none := by have := rv.length; simp; omega
    simp only [hnone]
    unfold reprEnd
    refine wpAny_bind (wpAny_listItems hP rfl ?_)
    rw [hacc, repr_fold]
    refine wpAny_bind (wpAny_pure ?_)
    have hall : done.map (·.1) = ts := by rw [hdone, hin, ← hlen, List.take_length]
    rw [hall]
    refine wpAny_bind (wpAny_mkStr (wpAny_pure ?_) hszl)
    exact hR _ H1 _ ((ClX.unpin I).tok _) e1
  | succ k ih =>
    intro i s H1 acc c done hk hi I fp e1 hacc hdone
    have hlt : i < vs.length := by omega
    obtain ⟨t, ht, hrep⟩ := hT.at (List.getElem?_eq_getElem hlt)
    have hp1 := piled_take_succ ht
    have hp2 := piled_take_le ts (i + 1)
    obtain ⟨its, rv, ⟨o, m, ho, hc, _, hd⟩, _⟩ := I.list (SqL.of (e1 _ _ ha))
    obtain ⟨u, hu, ru⟩ := rv.get (List.getElem?_eq_getElem hlt)
    refine codeAny_builtin F.entry_list_repr_loop ?_
    show wpAny _ _ («list.__repr__.loop» ⟨[.ref a, .int i 0, .ref P, .int ((base + piled (ts.take i) : Nat) : Int) 0], []⟩) _ _ s
    rw [repr_loop_tree]
    refine wpAny_bind (wpAny_listItems ho hd ?_)
    have hsome : its.toArray[(i : Int).toNat]? = some u := by simpa using hu
    simp only [hsome]
    rw [Int.toNat_natCast]
    refine wpAny_bind (wpAny_holding (wpAny_mono (hrep (base + piled (ts.take i) + 1) (by omega) _ _ _ σ s H1 u (fun x s' => x = t ∧ ∃ H2, Inv X ((P, accO acc c) :: pins) σ H2 s' ∧ Ex H1 H2) (sub_loop sb) (guards_under_guard (isGuard_list_loop _) hg)
      (fun b hb => (hcl b hb).cons (a := a) fun z => hna (z ▸ hb)) I e1 ru fun s' H2 I2 e2 => ⟨rfl, H2, I2, e2⟩) (fun x s' hx => ?_) fun e s' z => hE e s' z))
    obtain ⟨rfl, H2, I2, e2⟩ := hx
    refine wpAny_bind (wpAny_mkStr ?_ (hszt x (List.mem_of_getElem? ht)))
    refine wpAny_bind ?_
    show wpAny _ _ (updateSeq P _) _ _ _
    have hP := ClX.pin_at I2
    have hasz : acc.size ≤ sizeLine := by
      have f1 : acc.toList.length = acc.size := by simp
      have f2 : (strValues done).length = done.length := by simp [strValues]
      have f3 : done.length = (ts.take i).length := by rw [← hdone, List.length_map]
      have f4 : (ts.take i).length ≤ i := by rw [List.length_take]; omega
      rw [hacc] at f1; omega
    refine wpAny_updateSeq hP rfl (wpAny_pure ⟨F.quiet_list_repr_loop _, ?_⟩) hasz
    have g1 : ((i : Int) + 1) = ((i + 1 : Nat) : Int) := by omega
    have g2 : base + piled (ts.take i) + (x.length + 2) = base + piled (ts.take (i + 1)) := by omega
    rw [g1, g2]
    have fp2 : FpOk X pins H2 P := ⟨ClX.pin_un I2, fp.2⟩
    refine ih (i + 1) _ H2 (acc.push (.str x s'.toks)) _ (done ++ [(x, s'.toks)]) (by omega) hlt (pin_upd (I2.tok _) fp2 (o' := accO (acc.push (.str x s'.toks)) _) (Heap.get?_update_self _ hP rfl) (fun b u hb z => (Heap.get?_update_other _ _ (Ne.symm hb)).trans z) (fun v z => nomatch z)) fp2 (e1.trans e2)
      (by simp [hacc, strValues]) (by simp [List.take_add_one, ht, hdone])
theorem list_reprAtG {A : Around} {g : List Code} {a : Addr} {base : Nat} {x0 : V} {vs : List V} {ts : List Str} {R : Result → Shared → Prop} (ha : H a = some (.lst (x0 :: vs))) (hT : RpGs X n as H (x0 :: vs) ts) (hsz : base + (listText ts).length ≤ sizeLine) (sb : Sub X (n + 1) A) (hg : A.guards = some g) (hcl : ∀ b ∈ a :: as, Clear g b) (hna : a ∉ as)
    (I : Inv X pins σ H1 s) (e1 : Ex H H1) (hR : ∀ s' H2 u, Inv X pins σ H2 s' → Ex H H2 → R (.ok (.ret (.str (listText ts) u))) s') (hE : ∀ e s', X.xe e s' → R (.error e) s') :
    wpAny (model X.prog X.w) A.in1 (Builtin.listReprAt base ⟨[.ref a], []⟩) (fun fin s' => match fin with | .done f => R (.ok f) s' | .again c' => c'.quiet = true ∧ codeAny (model X.prog X.w) A c' R s') (fun e s' => R (.error e) s') s := by
  obtain ⟨its, rv, ⟨o, m, ho, hc, _, hd⟩, _⟩ := I.list (SqL.of (e1 _ _ ha))
  cases rv with
  | @cons _ u0 _ its r0 rv =>
    refine wpAny_list_repr_head (A := A.in1) hg (fun v rest kw hm => listSameRef_of_ne (hcl a (.head _) _ _ _ _ hm)) ho hd ?_
    refine wpAny_bind (m := newList []) (wpAny_newObj_type ?_)
    have fp := I.fpOk (b := s.heap.objs.size) (Nat.le_refl _) (I.hok.fresh (Nat.le_refl _))
    refine wpAny_pure ⟨F.quiet_list_repr_loop _, ?_⟩
    refine list_loopG (P := s.heap.objs.size) ha hT hsz sb hg (fun b hb => hcl b (.tail _ hb)) hna hR hE _ 0 _ H1 #[] _ [] rfl (Nat.zero_le _)
      (ClX.pin_new (o := accO #[] _) I (fun b u z => Heap.get?_push_of_some _ z) (Nat.le_refl _) (Heap.get?_push_size _ rfl) (fun v z => nomatch z)) fp e1 rfl (by simp)
end
end Fw
end

section
set_option maxRecDepth 100000
set_option maxHeartbeats 2000000
namespace Fw
open PySem PySem.Spec PyProof.Rows L2
open Builtin Builtin.List

/-- repr(x) as a call -/
def RpO (X : Cx) (n : Nat) (as : List Addr) (H : Hp) (x : V) (t : Str) : Prop :=
  ∀ (A : Around) (g : List Code) (pins : List (Addr × Obj)) (σ : L2.St) (s : Shared) (H1 : Hp) (u : Value) (Q : Value → Shared → Prop), t.length ≤ sizeLine → Sub X (n + 1) A → A.guards = some g → (∀ b ∈ as, Clear g b) → Inv X pins σ H1 s → Ex H H1 → RelV x u →
    (∀ s' H2 tk, Inv X pins σ H2 s' → Ex H1 H2 → Q (.str t tk) s') → wpAny (model X.prog X.w) A (call (.builtin "repr") [u]) Q X.xe s
theorem RpO.more {X : Cx} {n m : Nat} {as bs : List Addr} {H : Hp} {x : V} {t : Str} (h : RpO X n as H x t) (hn : n ≤ m) (hs : ∀ b ∈ as, b ∈ bs) : RpO X m bs H x t :=
  fun A g pins σ s H1 u Q hz sb hg hcl I e rx q => h A g pins σ s H1 u Q hz (sb.mono (by omega)) hg (fun b z => hcl b (hs b z)) I e rx q
section
variable {X : Cx} {n : Nat} {as : List Addr} {H H1 : Hp} {pins : List (Addr × Obj)} {σ : L2.St} {s : Shared}
theorem RpG.ext {H' : Hp} {x : V} {t : Str} (h : RpG X n as H x t) (e0 : Ex H H') : RpG X n as H' x t := fun base hb A g pins σ s H1 u Q sb hg hcl I e rx q => h base hb A g pins σ s H1 u Q sb hg hcl I (e0.trans e) rx q
theorem RpGs.ext {H' : Hp} (e0 : Ex H H') : ∀ {vs : List V} {ts : List Str}, RpGs X n as H vs ts → RpGs X n as H' vs ts
  | _, _, .nil => .nil
  | _, _, .cons h r => .cons (h.ext e0) (r.ext e0)
theorem callEnd_str {Q : Value → Shared → Prop} {E : Value → Shared → Prop} {x : Str} {u : Tok} {s' : Shared} (h : Q (.str x u) s') : callEnd Q E (.ok (.ret (.str x u))) s' := h
/-! lists -/
theorem RpG.list {a : Addr} {x0 : V} {vs : List V} {ts : List Str} (ha : H a = some (.lst (x0 :: vs))) (hT : RpGs X n as H (x0 :: vs) ts) (hna : a ∉ as) : RpG X (n + 1) (a :: as) H (.ref a) (listText ts) := by
  intro base hb A g pins σ s H1 u Q sb hg hcl I e rx q
  obtain rfl : u = Value.ref a := rx
  obtain ⟨its, rv, ⟨o, m, ho, hc, _, hd⟩, _⟩ := I.list (SqL.of (e _ _ ha))
  have hTy : s.TypeIs (.ref a) "list" := ⟨o, ho, hc⟩
  refine wpAny_pyReprUnder_ref (by omega) (wpAny_pyReprObjUnder_twin (twin := "list.__repr__.under") hTy F.slot_list_repr.toG rfl sb.room.units0
    (call_twin_plain F.plain_list_repr_under F.entry_list_repr_under F.check_list_repr_under hTy F.slot_list_repr.toG (F.args_list_repr_1 _) ?_))
  exact list_reprAtG (R := callEnd _ _) (e _ _ ha) (hT.ext e) hb sb hg hcl hna I (Ex.refl _) (fun s' H2 u I2 e2 => ⟨⟨_, _, rfl⟩, _, _, rfl, q s' H2 I2 e2⟩) (fun e s' z => z)
theorem RpO.list {a : Addr} {x0 : V} {vs : List V} {ts : List Str} (ha : H a = some (.lst (x0 :: vs))) (hT : RpGs X n as H (x0 :: vs) ts) (hna : a ∉ as) : RpO X (n + 1) (a :: as) H (.ref a) (listText ts) := by
  intro A g pins σ s H1 u Q hz sb hg hcl I e rx q
  obtain rfl : u = Value.ref a := rx
  obtain ⟨its, rv, ⟨o, m, ho, hc, _, hd⟩, _⟩ := I.list (SqL.of (e _ _ ha))
  have hTy : s.TypeIs (.ref a) "list" := ⟨o, ho, hc⟩
  refine call_repr_slot (by have := sb.room.units; omega) hTy F.slot_list_repr.toG (wpAny_call (codeAny_call_builtin F.slot_list_repr.plain F.entry_list_repr (F.slot_list_repr.check _ _ _ _ _ _ _ _ hTy (F.args_list_repr_1 _) ?_)))
  exact list_reprAtG (base := 0) (R := callEnd _ _) (e _ _ ha) (hT.ext e) (by omega) sb.in1 hg hcl hna I (Ex.refl _) (fun s' H2 u I2 e2 => ⟨_, _, rfl, q s' H2 u I2 e2⟩) (fun e s' z => z)
theorem RpG.list0 {a : Addr} (ha : H a = some (.lst [])) : RpG X n as H (.ref a) "[]" := by
  intro base hb A g pins σ s H1 u Q sb hg hcl I e rx q
  obtain rfl : u = Value.ref a := rx
  obtain ⟨its, rv, ⟨o, m, ho, hc, _, hd⟩, _⟩ := I.list (SqL.of (e _ _ ha))
  cases rv
  exact wpAny_pyReprUnder_ref (by omega) (wpAny_pyReprObjUnder_list_empty ⟨o, ho, hc⟩ sb.room.units0 ho hd ⟨_, _, rfl, q _ H1 (I.tok _) (Ex.refl H1)⟩)
theorem RpO.list0 {a : Addr} (ha : H a = some (.lst [])) : RpO X n as H (.ref a) "[]" := by
  intro A g pins σ s H1 u Q hz sb hg hcl I e rx q
  obtain rfl : u = Value.ref a := rx
  obtain ⟨its, rv, ⟨o, m, ho, hc, _, hd⟩, _⟩ := I.list (SqL.of (e _ _ ha))
  cases rv
  exact call_repr_slot (by have := sb.room.units; omega) ⟨o, ho, hc⟩ F.slot_list_repr.toG (call_list_repr_empty ⟨o, ho, hc⟩ ho hd ⟨_, _, rfl, q _ H1 _ (I.tok _) (Ex.refl H1)⟩)
/-! tuples -/
theorem tup_foldG {A : Around} {g : List Code} (sb : Sub X n A) (hg : A.guards = some g) (hcl : ∀ b ∈ as, Clear g b) : ∀ {vs : List V} {ts : List Str} {its : List Value} {acc : Array Str} {m : Nat} {s : Shared} {H1 : Hp} {Q : (Array Str × Nat) → Shared → Prop},
    RpGs X n as H vs ts → Vals vs its → m + piled ts ≤ sizeLine → Inv X pins σ H1 s → Ex H H1 → (∀ s' H2, Inv X pins σ H2 s' → Ex H1 H2 → Q ⟨acc ++ ts.toArray, m + piled ts⟩ s') → wpAny (model X.prog X.w) A (forIn its (⟨acc, m⟩ : (Array Str × Nat)) tupBody) Q X.xe s
  | [], _, _, acc, m, s, H1, Q, .nil, .nil, _, I, e, h => by
    have h0 := h s H1 I (Ex.refl H1)
    simp only [List.forIn_nil]
    exact wpAny_pure (by simpa [piled] using h0)
  | v :: vs, t :: ts, u :: its, acc, m, s, H1, Q, .cons hx hl, .cons r rs, hn, I, e, h => by
    rw [piled_cons] at hn
    rw [List.forIn_cons]
    refine wpAny_bind (wpAny_bind (hx (m + 1) (by omega) A g pins σ s H1 u _ sb hg hcl I e r fun s' H2 I2 e2 => wpAny_pure ?_))
    refine tup_foldG sb hg hcl hl rs (acc := acc.push t) (m := m + (t.length + 2)) (by omega) I2 (e.trans e2) fun s'' H3 I3 e3 => ?_
    have h1 := h s'' H3 I3 (e2.trans e3)
    have e : m + piled (t :: ts) = m + (t.length + 2) + piled ts := by rw [piled_cons]; omega
    rw [e] at h1
    simpa using h1
theorem tuple_reprAtG {A : Around} {g : List Code} {a : Addr} {base : Nat} {vs : List V} {ts : List Str} {R : Result → Shared → Prop} {id : String} {rest : List Value} (ha : SqT X.K H1 a vs) (hT : RpGs X n as H vs ts) (hsz : base + (tupleText ts).length ≤ sizeLine)
    (hcg : (Code.builtin id ⟨.ref a :: rest, []⟩).isGuard = true) (hcu : Sub X n (A.under (.builtin id ⟨.ref a :: rest, []⟩))) (hg : A.guards = some g) (hcl : ∀ b ∈ a :: as, Clear g b) (hna : a ∉ as)
    (I : Inv X pins σ H1 s) (e1 : Ex H H1) (hR : ∀ s' H2 u, Inv X pins σ H2 s' → Ex H1 H2 → R (.ok (.ret (.str (tupleText ts) u))) s') (hE : ∀ e s', X.xe e s' → R (.error e) s') :
    wpOwn (model X.prog X.w) A (.builtin id ⟨.ref a :: rest, []⟩) (Builtin.tupleReprAt base ⟨[.ref a], []⟩) (fun fin s' => match fin with | .done f => R (.ok f) s' | .again c' => c'.quiet = true ∧ codeAny (model X.prog X.w) A c' R s') (fun e s' => R (.error e) s') s := by
  have hca : Clear g a := hcl a (.head _)
  obtain ⟨its, rv, ⟨o, ho, hc, m, hd⟩, _⟩ := I.tuple ha
  have hlen : ts.length = its.toArray.size := by rw [hT.len, rv.length]; simp
  have hp := piled_le_tupleText ts
  have hsz0 : (tupleText ts).length ≤ sizeLine := by omega
  rw [tuple_repr_tree, tupleReprUnderWay_eq]
  refine wpOwn_bind (wpOwn_stackTailAny hg (tupGuardF_off _) (tupGuardF_pos _) ?_)
  have hn : (g.any fun c => tupGuardF (.ref a) (c, default)) = false := by
    rw [List.any_eq_false]
    intro c hcm
    rw [tupGuardF_of_clear hca c hcm]
    exact Bool.false_ne_true
  rw [hn]
  refine wpOwn_of_wpAny ?_
  show wpAny _ _ (tupleReprRest base (.ref a)) _ _ s
  unfold tupleReprRest Builtin.Tuple.tupleItemsOf
  refine wpAny_bind (wpAny_bind (wpAny_seqItems ho hd (wpAny_pure ?_)))
  rw [← Array.forIn_toList]
  refine wpAny_bind (wpAny_mono (tup_foldG (vs := vs) (its := its) (Q := fun r s' => r = ⟨#[] ++ ts.toArray, base + piled ts⟩ ∧ ∃ H2, Inv X pins σ H2 s' ∧ Ex H1 H2) hcu (guards_under_guard hcg hg) (fun b hb => (hcl b (.tail _ hb)).cons (a := a) fun z => hna (z ▸ hb)) hT rv (by omega) I e1 fun s' H2 I2 e2 => ⟨rfl, H2, I2, e2⟩) (fun r s' hr => ?_) fun e s' z => hE e s' z)
  obtain ⟨rfl, H2, I2, e2⟩ := hr
  refine wpAny_bind (wpAny_mkStr (wpAny_pure ?_) (by simpa [tupleText, hlen] using hsz0))
  have h1 := hR _ H2 s'.toks (I2.tok (s'.toks + 1)) e2
  simpa [tupleText, hlen] using h1
theorem sub_tupU {A : Around} {args : Args} (sb : Sub X (n + 1) A) : Sub X n (A.under (.builtin "tuple.__repr__.under" args)) :=
  sub_under sb (by first | (exact Nat.le_refl _) | simp [Around.under, Code.weight, Code.isCreation, Code.isGuard, Code.isCaller, Code.frames, Code.isFrame, guardIds]) (by first | rfl | simp [Around.under, Code.envs, Code.isFrame, pushEnvs]) (by rw [units_under_tuple_repr_under]; exact Nat.le_refl _)
theorem sub_tup {A : Around} {args : Args} (sb : Sub X (n + 1) A) : Sub X n (A.under (.builtin "tuple.__repr__" args)) :=
  sub_under sb (by first | (exact Nat.le_refl _) | simp [Around.under, Code.weight, Code.isCreation, Code.isGuard, Code.isCaller, Code.frames, Code.isFrame, guardIds]) (by first | rfl | simp [Around.under, Code.envs, Code.isFrame, pushEnvs]) (by rw [units_under_tuple_repr]; exact Nat.le_refl _)
theorem RpG.tup {a : Addr} {vs : List V} {ts : List Str} (ha : SqT X.K H a vs) (hT : RpGs X n as H vs ts) (hna : a ∉ as) : RpG X (n + 1) (a :: as) H (.ref a) (tupleText ts) := by
  intro base hb A g pins σ s H1 u Q sb hg hcl I e rx q
  obtain rfl : u = Value.ref a := rx
  have ha1 := ex_t e ha
  obtain ⟨its, rv, ⟨o, ho, hc, m, hd⟩, _⟩ := I.tuple ha1
  have hTy : s.TypeIs (.ref a) "tuple" := ⟨o, ho, hc⟩
  refine wpAny_pyReprUnder_ref (by omega) (wpAny_pyReprObjUnder_twin (twin := "tuple.__repr__.under") hTy F.slot_tuple_repr rfl sb.room.units0
    (call_twin_own (F.quiet_tuple_repr_under _) F.entry_tuple_repr_under F.check_tuple_repr_under hTy F.slot_tuple_repr (F.args_tuple_repr_1 _) ?_))
  exact tuple_reprAtG (R := callEnd _ _) ha1 hT hb (isGuard_tuple_repr_under _) (sub_tupU sb) hg hcl hna I e (fun s' H2 u I2 e2 => ⟨⟨_, _, rfl⟩, _, _, rfl, q s' H2 I2 e2⟩) (fun e s' z => z)
theorem RpO.tup {a : Addr} {vs : List V} {ts : List Str} (ha : SqT X.K H a vs) (hT : RpGs X n as H vs ts) (hna : a ∉ as) : RpO X (n + 1) (a :: as) H (.ref a) (tupleText ts) := by
  intro A g pins σ s H1 u Q hz sb hg hcl I e rx q
  obtain rfl : u = Value.ref a := rx
  have ha1 := ex_t e ha
  obtain ⟨its, rv, ⟨o, ho, hc, m, hd⟩, _⟩ := I.tuple ha1
  have hTy : s.TypeIs (.ref a) "tuple" := ⟨o, ho, hc⟩
  refine call_repr_slot (by have := sb.room.units; omega) hTy F.slot_tuple_repr (wpAny_call (codeAny_call_builtin_own (Code.quiet_builtin _ (by decide +kernel)) F.entry_tuple_repr (F.slot_tuple_repr.check _ _ _ _ _ _ _ _ hTy (F.args_tuple_repr_1 _) ?_)))
  exact tuple_reprAtG (base := 0) (R := callEnd _ _) ha1 hT (by omega) (isGuard_tuple_repr _) (sub_tup sb.in1) hg hcl hna I e (fun s' H2 u I2 e2 => ⟨_, _, rfl, q s' H2 u I2 e2⟩) (fun e s' z => z)
/-! scalars -/
theorem RpO.int {i : Int} (hi : i.natAbs.log2 < 1920) : RpO X n as H (.int i) (PySem.Str.ofString (toString i)) := fun A g pins σ s H1 u Q hz sb hg hcl I e rx q => by
  obtain ⟨t, rfl⟩ := rx
  exact PySem.P.repr_of_int hi (q _ H1 _ (I.tok _) (Ex.refl H1))
theorem RpO.str {x : Str} (hx : (reprText x).length ≤ sizeLine) : RpO X n as H (.str x) (reprText x) := fun A g pins σ s H1 u Q hz sb hg hcl I e rx q => by
  obtain ⟨t, rfl⟩ := rx
  exact call_repr_gives (PySem.typeIs_str s x t) F.slot_str_repr F.entry_str_repr (F.args_str_repr_1 _) (gives_str_repr x t) (q _ H1 _ (I.tok _) (Ex.refl H1)) (hx := hx)
theorem RpO.bl {b : Bool} : RpO X n as H (.bl b) (if b then "True" else "False") := fun A g pins σ s H1 u Q hz sb hg hcl I e rx q => by
  obtain rfl : u = Value.bool b := rx
  exact call_repr_gives (PySem.typeIs_bool s b) F.slot_bool_repr F.entry_bool_repr (F.args_bool_repr_1 _) (gives_bool_repr b) (q _ H1 _ (I.tok _) (Ex.refl H1)) (hx := by cases b <;> decide)
theorem RpO.non : RpO X n as H .non "None" := fun A g pins σ s H1 u Q hz sb hg hcl I e rx q => by
  obtain rfl : u = Value.none := rx
  exact call_repr_gives (PySem.typeIs_none s) F.slot_NoneType_repr F.entry_NoneType_repr (F.args_NoneType_repr_1 _) gives_none_repr (q _ H1 _ (I.tok _) (Ex.refl H1)) (hx := by decide)
/-! instances -/
theorem own_str {T : Tb} {W : WX} {k : Nat} {f : Addr} {g : List D → FR} {A : Around} {a : Addr} {d : D} {y : Str} (C : Cal false X T k f (List.replicate 1 false) g 1 [] (List.range 1) []) (sb : Sub X k A) (tk : Takes X W) (I : Inv X pins σ H1 s) (hd : Rp X.K T H1 d (.ref a)) (hg : g [d] = .ok false (.str y) []) :
    wpAny (model X.prog X.w) A (call (.ref f) [.ref a]) (fun w s' => ∃ tk, w = .str y tk ∧ ∃ H2, Inv X pins σ H2 s' ∧ Ex H1 H2) X.xe s :=
  thn (own_run (us := [.ref a]) (vs := [.ref a]) (ds := [d]) C sb tk I rfl (.cons rfl .nil) (RpL.cons hd .nil) hg) fun w s' h => by
    obtain ⟨z, H', F', I', e0, rz, e1, e2, rt⟩ := h.ex
    unfold RetR at rt
    rw [if_neg (by decide)] at rt
    unfold Rp at rt
    subst rt
    obtain ⟨t, rfl⟩ := rz
    exact ⟨t, rfl, H', I', e0⟩
theorem RpO.ins {T : Tb} {W : WX} {k cc : Nat} {g : List D → FR} {a : Addr} {fs : List D} {y : Str} (D1 : DuK X T k cc "__repr__" 1 g) (tk : Takes X W) (hd : Rp X.K T H (.ins cc fs) (.ref a)) (hg : g [.ins cc fs] = .ok false (.str y) []) : RpO X k as H (.ref a) y := fun A gg pins σ s H1 u Q hz sb hgg hcl I e rx q => by
  obtain rfl : u = Value.ref a := rx
  have hd1 := hd.mono e
  obtain ⟨a', dx, fs', ea, ha⟩ := see_ins (X := X) (T := T) (F := H1) (H := H1) (Ex.refl H1) (.inl hd1) rfl
  cases ea
  obtain ⟨ox, od, J⟩ := ins_at I ha
  obtain ⟨f, h1, h2, C⟩ := D1.ex
  obtain ⟨m, hF⟩ := I.fr
  refine PySem.W.repr_K sb.in1.room.units0 hF I.ok.mod.kin J h1 h2 (thn (own_str C sb.in1 tk I hd1 hg) fun w s' ⟨tk', hw, H2, I2, e2⟩ => ?_)
  subst hw
  exact q s' H2 tk' I2 e2
theorem RpG.ins {T : Tb} {W : WX} {k cc : Nat} {g : List D → FR} {a : Addr} {fs : List D} {y : Str} (D1 : DuK X T k cc "__repr__" 1 g) (tk : Takes X W) (hd : Rp X.K T H (.ins cc fs) (.ref a)) (hg : g [.ins cc fs] = .ok false (.str y) []) : RpG X k as H (.ref a) y := fun base hb A gg pins σ s H1 u Q sb hgg hcl I e rx q => by
  obtain rfl : u = Value.ref a := rx
  have hd1 := hd.mono e
  obtain ⟨a', dx, fs', ea, ha⟩ := see_ins (X := X) (T := T) (F := H1) (H := H1) (Ex.refl H1) (.inl hd1) rfl
  cases ea
  obtain ⟨ox, od, J⟩ := ins_at I ha
  obtain ⟨f, h1, h2, C⟩ := D1.ex
  refine wpAny_pyReprUnder_ref (by omega) ?_
  unfold pyReprObjUnder pyReprObjBy
  refine wpAny_bind (wpAny_cRoomFor sb.room.units0 ?_)
  refine wpAny_bind (wpAny_bind (J.type.here ((PySem.W.looks_findIn I.kIn h1).here ?_)))
  show wpAny _ _ (if (some (Value.ref f)).isNone = true then _ else _) _ _ _
  rw [if_neg (by simp)]
  have fin : wpAny (model X.prog X.w) A (call (.ref f) [.ref a]) (fun w s' => ∃ tk, w = .str y tk ∧ ∃ H2, Inv X pins σ H2 s' ∧ Ex H1 H2) X.xe s := own_str C sb tk I hd1 hg
  have fin2 : wpAny (model X.prog X.w) A (callSpecialIfBoundBy? (fun g first => match reprUnder? g, first with
    | some twin, [self] => call twin [self, rawInt base]
    | _, _ => call g (first ++ [])) (.ref a) (Str.ofString "__repr__")) (fun r s' => ∃ tk, r = some (.str y tk) ∧ ∃ H2, Inv X pins σ H2 s' ∧ Ex H1 H2) X.xe s := by
    simp only [callSpecialIfBoundBy?, bindSpecialIfBound?]
    refine wpAny_holding (wpAny_bind (wpAny_bind (wpAny_bind (J.type.here ((PySem.W.looks_findIn I.kIn h1).here ?_)))))
    refine wpAny_bind (wpAny_askSetting (wpAny_ite ?_))
    have fin3 : wpAny (model X.prog X.w) A (call (.ref f) ([.ref a] ++ []) >>= fun v => pure (some v)) (fun r s' => ∃ tk, r = some (.str y tk) ∧ ∃ H2, Inv X pins σ H2 s' ∧ Ex H1 H2) X.xe s := wpAny_bind (wpAny_mono fin (fun v s' ⟨tk, hv, q⟩ => wpAny_pure ⟨tk, by rw [hv], q⟩) fun _ _ h' => h')
    split
    · exact wpAny_bind ((PySem.W.bind_fn I.kIn _ (beq_iff_eq.mp h2)).here (wpAny_pure (by exact fin3)))
    · exact wpAny_tryCatch (wpAny_bind ((PySem.W.bind_fn I.kIn _ (beq_iff_eq.mp h2)).here (wpAny_pure (by exact fin3))))
  refine wpAny_bind (wpAny_mono fin2 (fun r s' hr => ?_) fun _ _ x => x)
  obtain ⟨tk', rfl, H2, I2, e2⟩ := hr
  exact wpAny_bind (wpAny_isInstance (T := "str") (b := true) rfl isSubtype_str_str (wpAny_pure ⟨_, _, rfl, q s' H2 I2 e2⟩))
end
end Fw
end

section
set_option maxRecDepth 100000
set_option maxHeartbeats 2000000
namespace Fw
open PySem PySem.Spec PyProof.Rows L2

mutual
def dep : D → Nat
  | .lst ds => depL ds + 1
  | .tup ds => depL ds + 1
  | _ => 0
def depL : List D → Nat
  | [] => 0
  | d :: ds => max (dep d) (depL ds)
end
mutual
def prn : D → Bool
  | .non => true
  | .bl _ => true
  | .int _ => true
  | .str _ => true
  | .lst ds => prnL ds
  | .tup ds => prnL ds
  | .ins _ _ => true
  | .dic _ _ => false
  | .cls _ => false
  | .scr _ => false
def prnL : List D → Bool
  | [] => true
  | d :: ds => prn d && prnL ds
end
section
variable {X : Cx} {T : Tb} {pins : List (Addr × Obj)} {σ : L2.St} {H : Hp} {s : Shared}
theorem no_list_tup (I : Inv X pins σ H s) {a : Addr} {xs ys : List V} (h : H a = some (.lst xs)) (h' : SqT X.K H a ys) : False := by
  obtain ⟨_, _, ⟨o, m, ho, hc, _, _⟩, _⟩ := I.list (SqL.of h)
  obtain ⟨_, _, ⟨o', ho', hc', _⟩, _⟩ := I.tuple h'
  rw [ho] at ho'
  cases ho'
  rw [hc] at hc'
  exact absurd hc' (by decide)
theorem no_ins_tup (I : Inv X pins σ H s) {a C dx : Addr} {fs : List (Str × V)} {ys : List V} (h : H a = some (.ins C dx fs)) (h' : SqT X.K H a ys) : False := by
  obtain ⟨ox, od, J⟩ := ins_at I h
  obtain ⟨_, _, ⟨o', ho', hc', _⟩, _⟩ := I.tuple h'
  obtain ⟨h1, h2, _⟩ := J
  rw [h1] at ho'
  cases ho'
  rw [h2] at hc'
  cases hc'
mutual
theorem det (I : Inv X pins σ H s) : ∀ {d d' : D} {v : V}, prn d = true → prn d' = true → Rp X.K T H d v → Rp X.K T H d' v → dep d = dep d'
  | .lst ds, d', v, p, p', h, h' => by
    unfold Rp at h
    obtain ⟨a, vs, rfl, h1, h2⟩ := h
    cases d' with
    | lst es =>
      unfold Rp at h'
      obtain ⟨a', vs', e, h1', h2'⟩ := h'
      cases e
      rw [h1] at h1'
      cases h1'
      unfold prn at p p'
      unfold dep
      rw [detL I p p' h2 h2']
    | tup es =>
      unfold Rp at h'
      obtain ⟨a', vs', e, h1', h2'⟩ := h'
      cases e
      exact (no_list_tup I h1 h1').elim
    | ins c fs =>
      unfold Rp at h'
      obtain ⟨a', dx, fs, e, h1', h2'⟩ := h'
      cases e
      rw [h1] at h1'
      cases h1'
    | non => unfold Rp at h'; cases h'
    | bl _ => unfold Rp at h'; cases h'
    | int _ => unfold Rp at h'; cases h'
    | str _ => unfold Rp at h'; cases h'
    | dic _ _ => unfold prn at p'; cases p'
    | cls _ => unfold prn at p'; cases p'
    | scr _ => unfold prn at p'; cases p'
  | .tup ds, d', v, p, p', h, h' => by
    unfold Rp at h
    obtain ⟨a, vs, rfl, h1, h2⟩ := h
    cases d' with
    | tup es =>
      unfold Rp at h'
      obtain ⟨a', vs', e, h1', h2'⟩ := h'
      cases e
      have e := I.tuple_inj h1 h1'
      subst e
      unfold prn at p p'
      unfold dep
      rw [detL I p p' h2 h2']
    | lst es =>
      unfold Rp at h'
      obtain ⟨a', vs', e, h1', h2'⟩ := h'
      cases e
      exact (no_list_tup I h1' h1).elim
    | ins c fs =>
      unfold Rp at h'
      obtain ⟨a', dx, fs, e, h1', h2'⟩ := h'
      cases e
      exact (no_ins_tup I h1' h1).elim
    | non => unfold Rp at h'; cases h'
    | bl _ => unfold Rp at h'; cases h'
    | int _ => unfold Rp at h'; cases h'
    | str _ => unfold Rp at h'; cases h'
    | dic _ _ => unfold prn at p'; cases p'
    | cls _ => unfold prn at p'; cases p'
    | scr _ => unfold prn at p'; cases p'
  | .ins c fs, d', v, p, p', h, h' => by
    cases d' with
    | tup es =>
      unfold Rp at h h'
      obtain ⟨a', vs', rfl, h1', h2'⟩ := h'
      obtain ⟨a, dx, fs, e, h1, h2⟩ := h
      cases e
      exact (no_ins_tup I h1 h1').elim
    | lst es =>
      unfold Rp at h h'
      obtain ⟨a', vs', rfl, h1', h2'⟩ := h'
      obtain ⟨a, dx, fs, e, h1, h2⟩ := h
      cases e
      rw [h1] at h1'
      cases h1'
    | _ => rfl
  | .non, d', v, p, p', h, h' => by
    unfold Rp at h
    subst h
    cases d' <;> first | rfl | (unfold Rp at h'; obtain ⟨_, _, e, _⟩ := h'; cases e)
  | .bl _, d', v, p, p', h, h' => by
    unfold Rp at h
    subst h
    cases d' <;> first | rfl | (unfold Rp at h'; obtain ⟨_, _, e, _⟩ := h'; cases e)
  | .int _, d', v, p, p', h, h' => by
    unfold Rp at h
    subst h
    cases d' <;> first | rfl | (unfold Rp at h'; obtain ⟨_, _, e, _⟩ := h'; cases e)
  | .str _, d', v, p, p', h, h' => by
    unfold Rp at h
    subst h
    cases d' <;> first | rfl | (unfold Rp at h'; obtain ⟨_, _, e, _⟩ := h'; cases e)
  | .dic _ _, d', v, p, p', h, h' => by unfold prn at p; cases p
  | .cls _, d', v, p, p', h, h' => by unfold prn at p; cases p
  | .scr _, d', v, p, p', h, h' => by unfold prn at p; cases p
theorem detL (I : Inv X pins σ H s) : ∀ {ds ds' : List D} {vs : List V}, prnL ds = true → prnL ds' = true → RpL X.K T H ds vs → RpL X.K T H ds' vs → depL ds = depL ds'
  | [], ds', vs, p, p', h, h' => by
    unfold RpL at h
    subst h
    cases ds' with
    | nil => rfl
    | cons d ds => unfold RpL at h'; obtain ⟨_, _, e, _⟩ := h'; cases e
  | d :: ds, ds', vs, p, p', h, h' => by
    unfold RpL at h
    obtain ⟨v, vs', rfl, h1, h2⟩ := h
    cases ds' with
    | nil => unfold RpL at h'; cases h'
    | cons e es =>
      unfold RpL at h'
      obtain ⟨w, ws, e0, h1', h2'⟩ := h'
      cases e0
      unfold prnL at p p'
      rw [Bool.and_eq_true] at p p'
      unfold depL
      rw [det I p.1 p'.1 h1 h1', detL I p.2 p'.2 h2 h2']
end
end
mutual
def rtxt (G : Nat → List D → Option Str) : D → Option Str
  | .non => some "None"
  | .bl b => some (if b then "True" else "False")
  | .int i => if i.natAbs.log2 < 1920 then some (PySem.Str.ofString (toString i)) else none
  | .str x => if (reprText x).length ≤ 1000000 then some (reprText x) else none
  | .lst ds => (rtxtL G ds).map listText
  | .tup ds => (rtxtL G ds).map tupleText
  | .ins c fs => G c fs
  | .dic _ _ => none
  | .cls _ => none
  | .scr _ => none
def rtxtL (G : Nat → List D → Option Str) : List D → Option (List Str)
  | [] => some []
  | d :: ds => (rtxt G d).bind fun t => (rtxtL G ds).map (t :: ·)
end
mutual
theorem rtxt_prn {G : Nat → List D → Option Str} : ∀ {d : D} {t : Str}, rtxt G d = some t → prn d = true
  | .non, _, _ => by unfold prn; rfl
  | .bl _, _, _ => by unfold prn; rfl
  | .int _, _, _ => by unfold prn; rfl
  | .str _, _, _ => by unfold prn; rfl
  | .lst ds, t, h => by
    unfold rtxt at h
    obtain ⟨ts, hts, _⟩ := Option.map_eq_some_iff.mp h
    unfold prn
    exact rtxt_prnL hts
  | .tup ds, t, h => by
    unfold rtxt at h
    obtain ⟨ts, hts, _⟩ := Option.map_eq_some_iff.mp h
    unfold prn
    exact rtxt_prnL hts
  | .ins _ _, _, _ => by unfold prn; rfl
  | .dic _ _, _, h => by unfold rtxt at h; cases h
  | .cls _, _, h => by unfold rtxt at h; cases h
  | .scr _, _, h => by unfold rtxt at h; cases h
theorem rtxt_prnL {G : Nat → List D → Option Str} : ∀ {ds : List D} {ts : List Str}, rtxtL G ds = some ts → prnL ds = true
  | [], _, _ => by unfold prnL; rfl
  | d :: ds, ts, h => by
    unfold rtxtL at h
    obtain ⟨t, h1, h⟩ := Option.bind_eq_some_iff.mp h
    obtain ⟨ts', h2, _⟩ := Option.map_eq_some_iff.mp h
    unfold prnL
    rw [rtxt_prn h1, rtxt_prnL h2]
    rfl
end
/-- how instances are shown -/
structure RpC (X : Cx) (T : Tb) (k : Nat) (G : Nat → List D → Option Str) : Prop where
  at_ : ∀ c fs y, G c fs = some y → ∀ (H : Hp) (as : List Addr) (a : Addr), Rp X.K T H (.ins c fs) (.ref a) → RpG X k as H (.ref a) y ∧ RpO X k as H (.ref a) y
def noG : Nat → List D → Option Str := fun _ _ => none
def insG (cc : Nat) (g : List D → FR) : Nat → List D → Option Str := fun c fs => if c = cc then match g [.ins c fs] with
  | .ok false (.str y) [] => some y
  | _ => none else none
section
variable {X : Cx} {T : Tb} {W : WX} {pins : List (Addr × Obj)} {σ : L2.St} {H : Hp} {s : Shared} {k : Nat} {G : Nat → List D → Option Str}
theorem rpc_no : RpC X T k noG := ⟨fun c fs y h => by cases h⟩
theorem rpc_ins {cc : Nat} {g : List D → FR} (D1 : DuK X T k cc "__repr__" 1 g) (tk : Takes X W) : RpC X T k (insG cc g) := ⟨fun c fs y h H as a hd => by
  unfold insG at h
  by_cases hc : c = cc
  · subst hc
    rw [if_pos rfl] at h
    split at h
    · rename_i z hz
      cases h
      exact ⟨RpG.ins D1 tk hd hz, RpO.ins D1 tk hd hz⟩
    · cases h
  · rw [if_neg hc] at h
    cases h⟩
def AsOk (X : Cx) (T : Tb) (H : Hp) (n : Nat) (as : List Addr) : Prop := ∀ b ∈ as, ∃ d, dep d ≤ n ∧ prn d = true ∧ Rp X.K T H d (.ref b)
theorem asNil {n : Nat} : AsOk X T H n [] := fun b hb => by cases hb
theorem AsOk.out (I : Inv X pins σ H s) {n : Nat} {as : List Addr} {d : D} {a : Addr} (h : AsOk X T H n as) (hd : n < dep d) (p : prn d = true) (r : Rp X.K T H d (.ref a)) : a ∉ as := fun hm => by
  obtain ⟨d', h1, h2, h3⟩ := h a hm
  have := det I p h2 r h3
  omega
mutual
theorem rtx_ok (C : RpC X T k G) (I : Inv X pins σ H s) : ∀ {d : D} {t : Str} {v : V}, rtxt G d = some t → Rp X.K T H d v → ∃ as, AsOk X T H (dep d) as ∧ RpG X (k + dep d) as H v t ∧ RpO X (k + dep d) as H v t
  | .non, t, v, h, r => by
    unfold rtxt at h; cases h; unfold Rp at r; subst r
    exact ⟨[], asNil, RpG.is fun u hu => by cases hu; exact ReprIs.none, RpO.non⟩
  | .bl b, t, v, h, r => by
    unfold rtxt at h; cases h; unfold Rp at r; subst r
    exact ⟨[], asNil, RpG.is fun u hu => by cases hu; exact ReprIs.bool b, RpO.bl⟩
  | .int i, t, v, h, r => by
    unfold rtxt at h
    by_cases hi : i.natAbs.log2 < 1920
    · rw [if_pos hi] at h; cases h; unfold Rp at r; subst r
      exact ⟨[], asNil, RpG.is fun u hu => by obtain ⟨tk, rfl⟩ := hu; exact ReprIs.int tk hi, RpO.int hi⟩
    · rw [if_neg hi] at h; cases h
  | .str x, t, v, h, r => by
    unfold rtxt at h
    by_cases hi : (reprText x).length ≤ 1000000
    · rw [if_pos hi] at h; cases h; unfold Rp at r; subst r
      have hz : (reprText x).length ≤ sizeLine := by rw [sizeLine_eq]; omega
      exact ⟨[], asNil, RpG.is fun u hu => by obtain ⟨tk, rfl⟩ := hu; exact ReprIs.str x tk hz, RpO.str hz⟩
    · rw [if_neg hi] at h; cases h
  | .lst ds, t, v, h, r => by
    have p := rtxt_prn h
    have r0 := r
    unfold rtxt at h
    obtain ⟨ts, hts, rfl⟩ := Option.map_eq_some_iff.mp h
    unfold Rp at r
    obtain ⟨a, vs, rfl, h1, h2⟩ := r
    obtain ⟨as, h3, h4⟩ := rtx_okL C I hts h2
    cases ds with
    | nil =>
      unfold RpL at h2
      subst h2
      unfold rtxtL at hts
      cases hts
      rw [listText_nil]
      exact ⟨[], asNil, RpG.list0 h1, RpO.list0 h1⟩
    | cons d ds =>
      have h2' := h2
      unfold RpL at h2'
      obtain ⟨v0, vs', rfl, _, _⟩ := h2'
      have hd : dep (.lst (d :: ds)) = depL (d :: ds) + 1 := by unfold dep; rfl
      have hna := h3.out I (d := .lst (d :: ds)) (by rw [hd]; omega) p r0
      rw [hd]
      refine ⟨a :: as, fun b hb => ?_, RpG.list h1 h4 hna, RpO.list h1 h4 hna⟩
      rcases List.mem_cons.mp hb with rfl | hb
      · exact ⟨_, by rw [hd]; exact Nat.le_refl _, p, r0⟩
      · obtain ⟨d', k1, k2, k3⟩ := h3 b hb
        exact ⟨d', by omega, k2, k3⟩
  | .tup ds, t, v, h, r => by
    have p := rtxt_prn h
    have r0 := r
    unfold rtxt at h
    obtain ⟨ts, hts, rfl⟩ := Option.map_eq_some_iff.mp h
    unfold Rp at r
    obtain ⟨a, vs, rfl, h1, h2⟩ := r
    obtain ⟨as, h3, h4⟩ := rtx_okL C I hts h2
    have hd : dep (.tup ds) = depL ds + 1 := by unfold dep; rfl
    have hna := h3.out I (d := .tup ds) (by rw [hd]; omega) p r0
    rw [hd]
    refine ⟨a :: as, fun b hb => ?_, RpG.tup h1 h4 hna, RpO.tup h1 h4 hna⟩
    rcases List.mem_cons.mp hb with rfl | hb
    · exact ⟨_, by rw [hd]; exact Nat.le_refl _, p, r0⟩
    · obtain ⟨d', k1, k2, k3⟩ := h3 b hb
      exact ⟨d', by omega, k2, k3⟩
  | .ins c fs, t, v, h, r => by
    unfold rtxt at h
    have hd : dep (.ins c fs) = 0 := by unfold dep; rfl
    rw [hd]
    have r0 := r
    unfold Rp at r
    obtain ⟨a, dx, fs', rfl, _⟩ := r
    obtain ⟨h1, h2⟩ := C.at_ c fs t h H [] a r0
    exact ⟨[], asNil, h1, h2⟩
  | .dic _ _, t, v, h, r => by unfold rtxt at h; cases h
  | .cls _, t, v, h, r => by unfold rtxt at h; cases h
  | .scr _, t, v, h, r => by unfold rtxt at h; cases h
theorem rtx_okL (C : RpC X T k G) (I : Inv X pins σ H s) : ∀ {ds : List D} {ts : List Str} {vs : List V}, rtxtL G ds = some ts → RpL X.K T H ds vs → ∃ as, AsOk X T H (depL ds) as ∧ RpGs X (k + depL ds) as H vs ts
  | [], ts, vs, h, r => by
    unfold rtxtL at h; cases h; unfold RpL at r; subst r
    exact ⟨[], asNil, .nil⟩
  | d :: ds, ts, vs, h, r => by
    unfold rtxtL at h
    obtain ⟨t, h1, h⟩ := Option.bind_eq_some_iff.mp h
    obtain ⟨ts', h2, rfl⟩ := Option.map_eq_some_iff.mp h
    unfold RpL at r
    obtain ⟨v, vs', rfl, r1, r2⟩ := r
    obtain ⟨as, a1, a2, _⟩ := rtx_ok C I h1 r1
    obtain ⟨bs, b1, b2⟩ := rtx_okL C I h2 r2
    have e1 : dep d ≤ depL (d :: ds) := by unfold depL; exact Nat.le_max_left _ _
    have e2 : depL ds ≤ depL (d :: ds) := by
      have : depL (d :: ds) = max (dep d) (depL ds) := by rw [depL]
      rw [this]; exact Nat.le_max_right _ _
    refine ⟨as ++ bs, fun b hb => ?_, .cons (a2.more (by omega) fun b hb => List.mem_append_left _ hb) (b2.more (by omega) fun b hb => List.mem_append_right _ hb)⟩
    rcases List.mem_append.mp hb with hb | hb
    · obtain ⟨d', k1, k2, k3⟩ := a1 b hb
      exact ⟨d', by omega, k2, k3⟩
    · obtain ⟨d', k1, k2, k3⟩ := b1 b hb
      exact ⟨d', by omega, k2, k3⟩
end
/-- repr(x) -/
def reprF (G : Nat → List D → Option Str) : List D → Option T1
  | [d] => (rtxt G d).bind fun t => if t.length ≤ 1000000 ∧ dep d ≤ 10 then some (.vl (.str t)) else none
  | _ => none
theorem cs_repr (C : RpC X T k G) (hr : Room (k + 11) X.A) (hg : X.A.guards = some []) : CallS T X (.builtin "repr") (reprF G) :=
  fun pins s σ F H xs us ds t Q I rv e sx hgd kk => by
    match ds, hgd with
    | [d], hgd =>
      obtain ⟨x, rfl, s1⟩ := sx.one
      obtain ⟨u, rfl, ru⟩ := Vals.one rv
      unfold reprF at hgd
      obtain ⟨y, hy, hgd⟩ := Option.bind_eq_some_iff.mp hgd
      by_cases hz : y.length ≤ 1000000 ∧ dep d ≤ 10
      · rw [if_pos hz] at hgd
        cases hgd
        obtain ⟨as, h1, _, h3⟩ := rtx_ok C I hy (s1.rp e)
        exact h3 X.A [] pins σ s H u _ (by rw [sizeLine_eq]; omega) (Sub.mono ⟨hr, rfl⟩ (by omega)) hg (fun b _ => Clear.nil b) I (Ex.refl H) ru fun s' H2 tk I2 e2 => ⟨.str y, H2, I2, ⟨tk, rfl⟩, kk _ H2 ⟨e2, by show Rp _ _ _ _ _; unfold Rp; rfl⟩⟩
      · rw [if_neg hz] at hgd
        cases hgd
    | [], hgd => cases hgd
    | _ :: _ :: _, hgd => cases hgd
end
end Fw
end

section
set_option maxRecDepth 100000
set_option maxHeartbeats 2000000
namespace Fw
open PySem PySem.Spec PyProof.Rows L2

/-! ### lists of instances that are equal -/
def eqlL (cc : Nat) (g : List D → FR) : List D → List D → Bool
  | [], [] => true
  | d :: ds, e :: es => (oeqD cc g d e == some true) && eqlL cc g ds es
  | _, _ => false
def eqlD (cc : Nat) (g : List D → FR) : D → D → Option Bool
  | .lst ds, .lst es => if eqlL cc g ds es = true then some true else none
  | _, _ => none
section
variable {X : Cx} {T : Tb} {W : WX} {pins : List (Addr × Obj)} {σ : L2.St} {H : Hp} {s : Shared} {k : Nat} {g : List D → FR} {cc : Nat}
def DO (X : Cx) (T : Tb) (cc : Nat) (g : List D → FR) : Eqv := fun x y H => ∃ d e, Rp X.K T H d x ∧ Rp X.K T H e y ∧ oeqD cc g d e = some true
theorem mon_DO : Mon (DO X T cc g) := fun x y H H' e ⟨d, d', h1, h2, h3⟩ => ⟨d, d', h1.mono e, h2.mono e, h3⟩
theorem rcg_DO (D1 : DuK X T k cc "__eq__" 2 g) (tk : Takes X W) : RcG X k (DO X T cc g) := by
  intro A pins s σ H x y u v sb I rx ry h
  obtain ⟨d, e, h1, h2, h3⟩ := h
  exact thn (rc_own D1 sb tk I rx ry h1 h2 h3) fun w s' h => h
theorem eqg_DO (D1 : DuK X T k cc "__eq__" 2 g) (tk : Takes X W) : EqG X k (DO X T cc g) := (rcg_DO D1 tk).eqG fun x y H ⟨d, e, h1, h2, h3⟩ => by
  obtain ⟨ds, es, rfl, rfl, _⟩ := oeq_inv h3
  unfold Rp at h1 h2
  obtain ⟨a, _, _, e1, _⟩ := h1
  obtain ⟨b, _, _, e2, _⟩ := h2
  exact ⟨a, b, e1, e2⟩
theorem eql_prs {F : Hp} (e : Ex F H) : ∀ {ds es : List D} {xs ys : List V}, eqlL cc g ds es = true → RpL X.K T F ds xs → RpL X.K T F es ys → Prs (DO X T cc g) xs ys H
  | [], [], xs, ys, h, r1, r2 => by unfold RpL at r1 r2; subst r1 r2; exact Prs.nil
  | d :: ds, e' :: es, xs, ys, h, r1, r2 => by
    unfold RpL at r1 r2
    obtain ⟨x, xs', rfl, a1, a2⟩ := r1
    obtain ⟨y, ys', rfl, b1, b2⟩ := r2
    unfold eqlL at h
    rw [Bool.and_eq_true] at h
    exact Prs.cons ⟨d, e', a1.mono e, b1.mono e, beq_iff_eq.mp h.1⟩ (eql_prs e h.2 a2 b2)
  | [], _ :: _, xs, ys, h, r1, r2 => by cases h
  | _ :: _, [], xs, ys, h, r1, r2 => by cases h
theorem cms_eql (D1 : DuK X T k cc "__eq__" 2 g) (hr : Room (k + 1) X.A) (tk : Takes X W) : CmS T X (compareOp .Eq) (eqlD cc g) := OpS.of fun F H x y dx dy t Q e sx sy hg kk => by
  obtain ⟨b, h, rfl⟩ := Option.map_eq_some_iff.mp hg
  cases dx with
  | lst ds =>
    cases dy with
    | lst es =>
      have h : (if eqlL cc g ds es = true then some true else none) = some b := h
      by_cases hz : eqlL cc g ds es = true
      · rw [if_pos hz] at h
        cases h
        obtain ⟨p, vs, rfl, h1, h2⟩ := sx.lstM e
        obtain ⟨p', ws, rfl, h3, h4⟩ := sy.lstM e
        exact ⟨_, op_eqG (rcG_list mon_DO (eqg_DO D1 tk)) hr, ⟨p, p', vs, ws, rfl, rfl, h1, h3, eql_prs e hz h2 h4⟩, fun H' e' => kk _ _ ⟨e', by show Rp _ _ _ _ _; unfold Rp; rfl⟩⟩
      · rw [if_neg hz] at h
        cases h
    | _ => cases h
  | _ => cases h
end

/-! ### isinstance of a caught error -/
/-- f answers isinstance(e, cu) by e's class -/
structure IsE (X : Cx) (T : Tb) (cu : Value) (f : Nat → Option Bool) : Prop where
  at_ : ∀ c b, f c = some b → ExcC X.K (T.cl c) ∧ PySem.W.kitOne X.K (.ref (T.cl c)) cu = some b
def iseM (i : Nat) (f : Nat → Option Bool) (e : Exn) : M T1 := fun st => match e.fs, st[i]?, f e.c with
  | [], some Slot.fix, some b => .ok (.vl (.bl b)) st
  | _, _, _ => .no
section
variable {X : Cx} {T : Tb} {c : Fc} {a : Addr} {oe : Obj} {dd : Option Addr} {pn : List (Addr × Obj)} {i : Nat} {F1 : Hp} {e : Exn} {f : Nat → Option Bool} {cu : Value} {cv : V} {n cx : Expr} {p pos : Pos}
theorem se_ise (h : IsE X T cu f) (hz : Zc (.ref (T.cl e.c)) dd oe) (hd : ∃ vs, oe.data = .fields vs) (xr : XRd X.K T F1 e dd) (hn : PE (X.suite a ((a, oe) :: pn)) n (tVar i)) (hc : PE (X.suite a ((a, oe) :: pn)) cx (tC cv)) (hcv : ClsV cv cu)
    (hg : Gl (X.suite a ((a, oe) :: pn)) "isinstance") (hm : X.mg "isinstance" = none)
    (he : starEach [n, cx] X.env = (false, eval n X.env) :: starEach [cx] X.env := by rfl) (he2 : starEach [cx] X.env = (false, eval cx X.env) :: starEach [] X.env := by rfl) (hpl : (backTo pos (starEach [cx] X.env)).any (·.1) = false := by rfl) :
    SE T (X.suite a ((a, oe) :: pn)) (c.at i a F1) WF (.Call (.Name "isinstance" p) [n, cx] [] pos) (iseM i f e) := by
  refine ⟨fun st o σ H F Q R q => ?_⟩
  unfold iseM at q
  cases ef : e.fs with
  | cons d ds => rw [ef] at q; exact q.elim
  | nil =>
    rw [ef] at q
    cases es : st[i]? with
    | none => rw [es] at q; exact q.elim
    | some x =>
      rw [es] at q
      cases x with
      | un => exact q.elim
      | val _ => exact q.elim
      | own _ _ => exact q.elim
      | fix =>
        cases eb : f e.c with
        | none => rw [eb] at q; exact q.elim
        | some b =>
          rw [eb] at q
          obtain ⟨h1, h2⟩ := h.at_ _ _ eb
          have hdd : dd = none := by
            rcases xr with ⟨_, z⟩ | ⟨z, _⟩
            · exact z
            · exact absurd ef z
          subst hdd
          have hs : σ[i]? = some (some (.ref a)) := by
            have := R.fix i es
            unfold Fc.at at this
            simpa using this
          refine tW_of (pe_callB (call_isE h1 hz hd) hg hm (by with_unfolding_all rfl) (pa_cons hn (pa_cons hc pa_nil he2) he) (by decide) (by decide) he hpl) ?_
          exact ⟨.ref a, hs, cv, cu, b, rfl, fun u ru => hcv.eq ru, h2, q o H F (Ex.refl F) R _ (by show Rp _ _ _ _ _; unfold Rp; rfl)⟩
end

/-! ### the end: the law's def -/
theorem law_callG {P : Program} {w : World} {K : PySem.W.Frag} {mg mb : Str → Option Value} {CX : CXT} {k : Nat} {fa a : Addr} {fd : FuncData} {x : Str} {sp : Sp} {s₁ : Shared} {vs : List Value} {ns : List Int}
    (KX : K.In s₁.heap) (hns : s₁.heap.Ns mainGlobals mg) (hb : s₁.heap.Ns builtinsNs mb) (hbb : ∀ x : Str, x ≠ "__name__" → mb x = bootBuiltins x) (hlim : s₁.heap.NoLimit) (hg : s₁.gens = #[])
    (ha : s₁.heap.get? a = some { cls := .type "list", data := .seq vs.toArray }) (hi : IntsAre vs ns) (hl : ns.length ≤ sizeLine) (hr : Room k callerA)
    (F : ∀ base : Heap, K.In base → base.Ns mainGlobals mg → FnG true P w K mg base CX k fa fd [x] sp) (hbind : ∀ (s : Shared) (u : Value), BindsTo s fd ⟨[u], []⟩ [(x, u)])
    (hsp : ∀ H : Hp, Only H → SqL K H a (ns.map V.int) → sp [.ref a] H (fun v _ => v = .bl true) fun _ _ _ => False)
    (hCX : ∀ H e s', CX [] H s₁ (fun _ _ _ => False) e s' → False) :
    codeAny (model P w) callerA (.call (.ref fa) ⟨[.ref a], []⟩) (fun r s' => r = .ok (.ret (.bool true)) ∧ OldK s₁.heap s'.heap ∧ s'.os = s₁.os ∧ AllBare s'.gens) s₁ := by
  have rv := vals_ints hi
  have core : ∀ H : Hp, Only H → SqL K H a (ns.map V.int) → HOk P w H s₁.heap → (∀ b, H b ≠ none → b = a ∧ K.lookup a = none) →
      codeAny (model P w) callerA (.call (.ref fa) ⟨[.ref a], []⟩) (fun r s' => r = .ok (.ret (.bool true)) ∧ OldK s₁.heap s'.heap ∧ s'.os = s₁.os ∧ AllBare s'.gens) s₁ := by
    intro H hO hS hok hA
    have out : ∀ {b : Addr} {o : Obj}, s₁.heap.get? b = some o → (b = a → False) ∨ H b = none → (hidT s₁.heap H).get? b = some o := fun {b o} e h => hidT_get e (by
      rcases h with h | h
      · cases q : H b with
        | none => rfl
        | some u => exact (h (hA b (by rw [q]; simp)).1).elim
      · exact h)
    have nsK : ∀ {b : Addr} {m : Str → Option Value}, s₁.heap.Ns b m → (hidT s₁.heap H).Ns b m := fun {b m} ⟨o, es, ep, e, d, r⟩ => ⟨o, es, ep, out e (.inl fun z => by
      subst z
      rw [ha] at e
      cases e
      cases d), d, r⟩
    have hKb : K.In (hidT s₁.heap H) := fun b o e => out (KX b o e) (by
      cases q : H b with
      | none => exact .inr rfl
      | some u =>
        obtain ⟨rfl, z⟩ := hA b (by rw [q]; simp)
        rw [z] at e
        cases e)
    have hM : Mod K mg (hidT s₁.heap H) := ⟨hKb, nsK hns, ⟨mb, nsK hb, hbb⟩, let ⟨mc, h1, h2⟩ := hlim; ⟨mc, nsK h1, h2⟩⟩
    have e0 : Env0 P w K mg (hidT s₁.heap H) callerA [] s₁ H := ⟨rfl, hM, fun b o e => of_hidT e, Nat.le_of_eq (hidT_size _ _), trivial, fun b hb => absurd (show b ∈ ([] : List Addr) from hb) (by simp), hok, .of_eq hg⟩
    refine codeAny_mono ((F _ hKb (nsK hns)).run callerA [] s₁ H ⟨[.ref a], []⟩ [.ref a] [.ref a] _ _ (fun _ => rfl) hr e0 (hbind s₁ (.ref a)) (.cons rfl .nil) (hsp H hO hS)) fun r s' h => ?_
    match r, h with
    | .error e, h => exact (hCX H e s' h).elim
    | .ok .next, h => exact False.elim h
    | .ok .brk, h => exact False.elim h
    | .ok .cont, h => exact False.elim h
    | .ok (.ret u), h =>
      obtain ⟨v, H', os, bare, un, hok', r', q⟩ := h
      have q' : v = .bl true := q
      subst q'
      obtain rfl : u = Value.bool true := r'
      refine ⟨rfl, OldK.of_keep fun b o e => ?_, os, bare⟩
      rcases hO b with z | ⟨ob, xs, z⟩
      · exact un.keep b o e z (by intro z; exact absurd (show b ∈ ([] : List Addr) from z) (by simp)) (by simp)
      · obtain ⟨e1, _⟩ := hok b _ z
        obtain ⟨e2, _⟩ := hok' b _ (un.frzs b ob _ z)
        rw [e] at e1; cases e1
        exact e2
  cases hk : K.lookup a with
  | some o =>
    have e := KX a o hk
    rw [ha] at e
    cases e
    exact core (fun _ => none) (fun _ => .inl rfl) (.inr ⟨_, vs.toArray, _, hk, rfl, rfl, rfl, by rw [List.size_toArray, hi.length]; exact hl, by simpa using rv⟩) (fun b u z => nomatch (show (none : Option HO) = some u from z)) (fun b z => absurd rfl z)
  | none =>
    have at_ : ∀ b, (if b = a then some (HO.frz { cls := .type "list", data := .seq vs.toArray } (.lst (ns.map V.int))) else none) = none ∨ b = a := fun b => by
      by_cases hb : b = a
      · exact .inr hb
      · exact .inl (if_neg hb)
    refine core (fun b => if b = a then some (.frz { cls := .type "list", data := .seq vs.toArray } (.lst (ns.map V.int))) else none) (fun b => ?_) (.inl (.inr ⟨{ cls := .type "list", data := .seq vs.toArray }, if_pos rfl⟩)) (fun b u z => ?_) (fun b z => ⟨(at_ b).resolve_left z, hk⟩)
    · exact (at_ b).imp id fun hb => ⟨_, _, if_pos hb⟩
    · rcases at_ b with hb | rfl
      · cases hb.symm.trans z
      · have z := (if_pos rfl).symm.trans z
        cases z
        exact ⟨ha, by rw [List.length_map]; exact hl, vs, _, rv, ha⟩
theorem walk_ofG {l : PySem.W.OpenLaw} {n k : Nat} {q : Program} {loose : List Str} {XP : (Str → Option Value) → Heap → Prop} {YP : World → Heap → Prop} {d : DefRec} {K : Params → PySem.W.Frag} {CX : World → CXT} {sp : World → Sp} {x : Str}
    (hn : l.most = some n) (hn2 : n ≤ sizeLine) (hdf : d.params.defaults = []) (hr : Room k callerA) (hY : ∀ (w : World) (h : Heap), YP w h → (K w.params).In h)
    (F : ∀ (w : World) (mg : Str → Option Value) (fa : Addr) (h : Heap), (K w.params).In h → h.Ns mainGlobals mg → mg d.name = some (.ref fa) →
      ∃ fd : FuncData, (∀ (s : Shared) (u : Value), BindsTo s fd ⟨[u], []⟩ [(x, u)]) ∧
        ∀ base : Heap, (K w.params).In base → base.Ns mainGlobals mg → FnG true l.prog w (K w.params) mg base (CX w) k fa fd [x] (sp w))
    (hsp : ∀ (w : World) (H : Hp) (a : Addr) (ns : List Int), ns.length ≤ n → (∀ z ∈ ns, Builtin.Int.intBits z ≤ 1048576) → Only H → SqL (K w.params) H a (ns.map V.int) → sp w [.ref a] H (fun v _ => v = .bl true) fun _ _ _ => False)
    (hCX : ∀ (w : World) (H : Hp) (s : Shared) (e : Value) (s' : Shared), CX w [] H s (fun _ _ _ => False) e s' → False) :
    PySem.W.WalkO q loose XP YP l.row.toRowW d [] (fun f vs => PySem.call f vs) := by
  refine Att.attach_callB hn hdf fun w s₀ s₁ mg mb fa o pm cd doc a vs ns G Y ho hd hcd hmg hobj hints hlen hbits hg => ?_
  have KX := hY w _ Y
  obtain ⟨fd, hb, hF⟩ := F w mg fa _ KX G.T.g hmg
  exact law_callG KX G.T.g G.T.b G.T.builtins G.T.nolimit hg hobj hints (Nat.le_trans hlen hn2) hr hF hb (fun H hO hS => hsp w H a ns hlen hbits hO hS) fun H e s' => hCX w H s₁ e s'
end Fw
end

section
set_option maxRecDepth 100000
set_option maxHeartbeats 2000000
namespace Fw
open PySem PySem.Spec PyProof.Rows L2

/-! ### helpers for the derivations -/
section
variable {K : PySem.W.Frag} {T : Tb} {F : Hp}
theorem rpi {i : Int} : ∀ F, Rp K T F (.int i) (.int i) := fun F => by unfold Rp; rfl
theorem rps {i : Str} : ∀ F, Rp K T F (.str i) (.str i) := fun F => by unfold Rp; rfl
theorem rpb {i : Bool} : ∀ F, Rp K T F (.bl i) (.bl i) := fun F => by unfold Rp; rfl
theorem rpn : ∀ F, Rp K T F .non .non := fun F => by unfold Rp; rfl
theorem rpc {c : Nat} : ∀ F, Rp K T F (.cls c) (.ref (T.cl c)) := fun F => by unfold Rp; rfl
end
section
variable {T : Tb} {X : Cx} {c : Fc} {W : WX} {pos : Pos} {x : Str}
theorem se_i {i : Int} {j : Nat} : SE T X c W (.Constant (.int i) j pos) (cst (.int i)) := se_cst pe_int rpi
theorem se_s {i : Str} {j : Nat} : SE T X c W (.Constant (.str i) j pos) (cst (.str i)) := se_cst pe_str rps
theorem se_b {i : Bool} {j : Nat} : SE T X c W (.Constant (.bool i) j pos) (cst (.bl i)) := se_cst pe_bl rpb
theorem se_n {j : Nat} : SE T X c W (.Constant .none j pos) (cst .non) := se_cst pe_non rpn
/-- a module's constant -/
theorem se_gs {v : Str} {t : Tok} (hm : X.mg x = some (.str v t)) (hg : Gl X x := by rfl) (hd : (x == ("__debug__" : Str)) = false := by decide) : SE T X c W (.Name x pos) (cst (.str v)) := se_cst (pe_glob (v := .str v) hg hm ⟨t, rfl⟩ hd) rps
theorem se_gi {v : Int} {t : Tok} (hm : X.mg x = some (.int v t)) (hg : Gl X x := by rfl) (hd : (x == ("__debug__" : Str)) = false := by decide) : SE T X c W (.Name x pos) (cst (.int v)) := se_cst (pe_glob (v := .int v) hg hm ⟨t, rfl⟩ hd) rpi
theorem se_gc {cc : Nat} (hm : X.mg x = some (.ref (T.cl cc))) (hg : Gl X x := by rfl) (hd : (x == ("__debug__" : Str)) = false := by decide) : SE T X c W (.Name x pos) (cst (.cls cc)) := se_cst (pe_glob (v := .ref (T.cl cc)) hg hm rfl hd) rpc
end
theorem Df.of_fun {K : PySem.W.Frag} {x qual : Str} {st : Stmt} {f : Addr} {fd : FuncData} (F : Fun K x qual st f fd) : Df K x qual st f fd := by
  obtain ⟨oc, od, kV, doc, pm, an, cdv, ct, osl, e, lk, hcd⟩ := F.ex
  exact ⟨oc, od, .none, kV, doc, pm, an, cdv, ct, osl, e, lk, hcd⟩
section
variable {gd : Bool} {P : Program} {w : World} {K : PySem.W.Frag} {mg : Str → Option Value} {base : Heap} {T : Tb} {k : Nat} {f : Addr} {fd : FuncData} {bs : List Bool} {g : List D → FR} {n : Nat} {ks ps : List Str} {pi : List Nat} {x qual : Str} {st : Stmt}
theorem cal_of (F : Fun K x qual st f fd) (hok : FnG gd P w K mg base (L2.CX P w) k f fd ps (spF K T bs g))
    (hb : ∀ (kV doc pm : Value) (an : Option Addr) (cdv ct : Value) (us ws : List Value), us.length = n → ws.length = ks.length → bindArgs (PySem.W.fnOf x qual (defArgs st) (defBody st) (defScope st) .none kV doc pm an cdv ct) ⟨us, ks.zip ws⟩ = pure (ps.zip (picks pi (us ++ ws)))) :
    CalB gd P w K mg base T k f bs g n ks pi [] := by
  obtain ⟨oc, od, kV, doc, pm, an, cdv, ct, osl, rfl, lk, hcd⟩ := F.ex
  exact ⟨_, ps, [], [], hok, .nil, fun _ => RpL.nil, fun s us ws _ h1 h2 => .of_eq (by rw [List.append_nil]; exact hb kV doc pm an cdv ct us ws h1 h2)⟩
/-- a def with defaults dvs -/
structure DfD (K : PySem.W.Frag) (x qual : Str) (st : Stmt) (f : Addr) (fd : FuncData) (dvs : List V) : Prop where
  ex : ∃ (oc : Value) (od : Option Addr) (T : Addr) (kV doc pm : Value) (an : Option Addr) (cdv ct : Value) (osl : Array (Option Value)) (o : Obj) (its : List Value) (m : Nat),
    fd = PySem.W.fnOf x qual (defArgs st) (defBody st) (defScope st) (.ref T) kV doc pm an cdv ct ∧ K.lookup f = some ⟨oc, od, .func fd, osl⟩ ∧ PySem.W.codeIn K cdv qual = true ∧ K.lookup T = some o ∧ o.data = .seq its.toArray m ∧ Vals dvs its
theorem DfD.df {dvs : List V} (F : DfD K x qual st f fd dvs) : Df K x qual st f fd := by
  obtain ⟨oc, od, T, kV, doc, pm, an, cdv, ct, osl, o, its, m, e, lk, hcd, _⟩ := F.ex
  exact ⟨oc, od, .ref T, kV, doc, pm, an, cdv, ct, osl, e, lk, hcd⟩
theorem cal_ofD {dvs : List V} {dfl : List D} (F : DfD K x qual st f fd dvs) (hok : FnG gd P w K mg base (L2.CX P w) k f fd ps (spF K T bs g)) (hd : ∀ F, RpL K T F dfl dvs)
    (hb : ∀ (T : Addr) (kV doc pm : Value) (an : Option Addr) (cdv ct : Value) (us ws its : List Value), us.length = n → ws.length = ks.length → its.length = dvs.length → ∃ kk, bindArgs (PySem.W.fnOf x qual (defArgs st) (defBody st) (defScope st) (.ref T) kV doc pm an cdv ct) ⟨us, ks.zip ws⟩ = seqItems? (.ref T) >>= kk ∧ kk (some its.toArray) = pure (ps.zip (picks pi (us ++ ws ++ its)))) :
    CalB gd P w K mg base T k f bs g n ks pi dfl := by
  obtain ⟨oc, od, T0, kV, doc, pm, an, cdv, ct, osl, o, its, m, rfl, lk, hcd, lT, oT, rT⟩ := F.ex
  refine ⟨_, ps, dvs, its, hok, rT, hd, fun s us ws X h1 h2 => ?_⟩
  obtain ⟨kk, e1, e2⟩ := hb T0 kV doc pm an cdv ct us ws its h1 h2 rT.length.symm
  refine BindsTo.of_looks fun M => ?_
  rw [e1]
  exact looks_items X lT oT (.of_pure e2)
end
/-! isinstance by tables -/
def isB (a : D → Bool) : D → Option Bool
  | .cls _ => none
  | .scr _ => none
  | .ins _ _ => none
  | d => some (a d)
section
variable {X : Cx} {T : Tb} {b : String} {a : D → Bool} {cc : Nat}
theorem kitAny_one {K : PySem.W.Frag} {t u : Value} {r : Bool} (h : PySem.W.kitOne K t u = some r) : PySem.W.kitAny K t [u] = some r := kitAny_cons h (fun e => by rw [e]; exact kitAny_nil) fun e => e
/-- of a built-in type, instances of the class cc apart -/
def isT (cc : Nat) (a : D → Bool) : D → Option Bool
  | .cls _ => none
  | .scr _ => none
  | .ins c _ => if c = cc then some false else none
  | d => some (a d)
theorem isd_ty (C : IsC X.K (T.cl cc)) (h0 : PySem.W.kitOne X.K (.ref (T.cl cc)) (.type b) = some false) (h1 : kitB "NoneType" b = some (a .non)) (h2 : ∀ x, kitB "bool" b = some (a (.bl x))) (h3 : ∀ x, kitB "int" b = some (a (.int x))) (h4 : ∀ x, kitB "str" b = some (a (.str x)))
    (h5 : ∀ x, kitB "list" b = some (a (.lst x))) (h6 : ∀ x, kitB "tuple" b = some (a (.tup x))) (h7 : ∀ x y, kitB "dict" b = some (a (.dic x y))) : IsD X T [.type b] (isT cc a) := by
  refine ⟨fun d r h => ?_⟩
  cases d with
  | non => cases h; exact ⟨(fun _ _ e => nomatch e), _, rfl, kitAny_one (kit_ty h1)⟩
  | bl x => cases h; exact ⟨(fun _ _ e => nomatch e), _, rfl, kitAny_one (kit_ty (h2 x))⟩
  | int x => cases h; exact ⟨(fun _ _ e => nomatch e), _, rfl, kitAny_one (kit_ty (h3 x))⟩
  | str x => cases h; exact ⟨(fun _ _ e => nomatch e), _, rfl, kitAny_one (kit_ty (h4 x))⟩
  | lst x => cases h; exact ⟨(fun _ _ e => nomatch e), _, rfl, kitAny_one (kit_ty (h5 x))⟩
  | tup x => cases h; exact ⟨(fun _ _ e => nomatch e), _, rfl, kitAny_one (kit_ty (h6 x))⟩
  | dic x y => cases h; exact ⟨(fun _ _ e => nomatch e), _, rfl, kitAny_one (kit_ty (h7 x y))⟩
  | cls c => cases h
  | scr c => cases h
  | ins c ds =>
    have h : (if c = cc then some false else none) = some r := h
    by_cases hc : c = cc
    · subst hc
      rw [if_pos rfl] at h
      cases h
      exact ⟨(fun _ _ e => by cases e; exact C), _, rfl, kitAny_one h0⟩
    · rw [if_neg hc] at h
      cases h
/-- of the class cc itself -/
def isO (cc : Nat) : D → Option Bool
  | .cls _ => none
  | .scr _ => none
  | .ins c _ => if c = cc then some true else none
  | _ => some false
theorem isd_own (C : IsC X.K (T.cl cc)) (h1 : PySem.W.isClsIn X.K (T.cl cc) = true) (h2 : PySem.W.typeIn X.K (.ref (T.cl cc)) = some (.type "type")) : IsD X T [.ref (T.cl cc)] (isO cc) := by
  have other : ∀ (n : String) (l : List Value), PySem.fastBuiltinMro n = some l → l.contains (.ref (T.cl cc)) = false → PySem.W.kitOne X.K (.type n) (.ref (T.cl cc)) = some false := fun n l e1 e2 => by
    show (if (Value.type n == Value.ref (T.cl cc)) = true then some true else PySem.W.kitCls X.K (.type n) (.ref (T.cl cc))) = some false
    rw [if_neg (by simp)]
    have h1' : (PySem.W.clsIn X.K (T.cl cc)).isSome = true := h1
    show (if ((PySem.W.clsIn X.K (T.cl cc)).isSome && PySem.W.typeIn X.K (.ref (T.cl cc)) == some (.type "type")) = true then PySem.W.subIn X.K (.type n) (.ref (T.cl cc)) else none) = some false
    rw [if_pos (by rw [h1', h2]; rfl)]
    show (PySem.fastBuiltinMro n).map (·.contains (.ref (T.cl cc))) = some false
    rw [e1]
    exact congrArg some e2
  refine ⟨fun d r h => ?_⟩
  cases d with
  | non => cases h; exact ⟨(fun _ _ e => nomatch e), _, rfl, kitAny_one (other "NoneType" [.type "NoneType", .type "object"] (by decide +kernel) (by simp))⟩
  | bl x => cases h; exact ⟨(fun _ _ e => nomatch e), _, rfl, kitAny_one (other "bool" [.type "bool", .type "int", .type "object"] (by decide +kernel) (by simp))⟩
  | int x => cases h; exact ⟨(fun _ _ e => nomatch e), _, rfl, kitAny_one (other "int" [.type "int", .type "object"] (by decide +kernel) (by simp))⟩
  | str x => cases h; exact ⟨(fun _ _ e => nomatch e), _, rfl, kitAny_one (other "str" [.type "str", .type "object"] (by decide +kernel) (by simp))⟩
  | lst x => cases h; exact ⟨(fun _ _ e => nomatch e), _, rfl, kitAny_one (other "list" [.type "list", .type "object"] (by decide +kernel) (by simp))⟩
  | tup x => cases h; exact ⟨(fun _ _ e => nomatch e), _, rfl, kitAny_one (other "tuple" [.type "tuple", .type "object"] (by decide +kernel) (by simp))⟩
  | dic x y => cases h; exact ⟨(fun _ _ e => nomatch e), _, rfl, kitAny_one (other "dict" [.type "dict", .type "object"] (by decide +kernel) (by simp))⟩
  | cls c => cases h
  | scr c => cases h
  | ins c ds =>
    have h : (if c = cc then some true else none) = some r := h
    by_cases hc : c = cc
    · subst hc
      rw [if_pos rfl] at h
      cases h
      exact ⟨(fun _ _ e => by cases e; exact C), _, rfl, kitAny_one (by
        show (if (Value.ref (T.cl c) == Value.ref (T.cl c)) = true then some true else _) = some true
        rw [if_pos (by simp)])⟩
    · rw [if_neg hc] at h
      cases h
end
def aInt : D → Bool
  | .int _ => true
  | .bl _ => true
  | _ => false
def aBool : D → Bool
  | .bl _ => true
  | _ => false
def aStr : D → Bool
  | .str _ => true
  | _ => false
def aList : D → Bool
  | .lst _ => true
  | _ => false
def aTuple : D → Bool
  | .tup _ => true
  | _ => false
end Fw
namespace Fw
open PySem PySem.Spec PyProof.Rows L2
def nat_of : D → Nat
  | .int i => i.natAbs
  | _ => 0
theorem _root_.L2.Room.u1 {k : Nat} {A : Around} (r : Room k A) : A.units + 1 < cLine := by
  have := r.units
  omega
/-- an own exception class without own __init__ -/
structure EcK (K : PySem.W.Frag) (C : Addr) : Prop where
  ex : ∃ (bmB : List Value) (B newId initId : String), ExcBaseFacts B newId initId bmB ∧ PySem.W.excIn K C bmB newId = true
  kp : PySem.W.keepIn K (.ref C) = true
  s1 : PySem.W.subIn K (.ref C) (.type "BaseException") = some true
  s2 : PySem.W.typeIn K (.ref C) = some (.type "type")
theorem EcK.toX {X : Cx} {C : Addr} (h : EcK X.K C) : EcF X C := ⟨h.ex, h.kp, raises_own h.s1 h.s2⟩
end Fw
namespace Fw
open PySem PySem.Spec PyProof.Rows L2
section
variable {X : Cx} {T : Tb} {cc : Nat}
theorem isd_int (C : IsC X.K (T.cl cc)) (h0 : PySem.W.kitOne X.K (.ref (T.cl cc)) (.type "int") = some false) : IsD X T [.type "int"] (isT cc aInt) :=
  isd_ty C h0 (by decide +kernel) (fun _ => show kitB "bool" "int" = some true by decide +kernel) (fun _ => show kitB "int" "int" = some true by decide +kernel) (fun _ => show kitB "str" "int" = some false by decide +kernel)
    (fun _ => show kitB "list" "int" = some false by decide +kernel) (fun _ => show kitB "tuple" "int" = some false by decide +kernel) (fun _ _ => show kitB "dict" "int" = some false by decide +kernel)
theorem isd_bool (C : IsC X.K (T.cl cc)) (h0 : PySem.W.kitOne X.K (.ref (T.cl cc)) (.type "bool") = some false) : IsD X T [.type "bool"] (isT cc aBool) :=
  isd_ty C h0 (by decide +kernel) (fun _ => show kitB "bool" "bool" = some true by decide +kernel) (fun _ => show kitB "int" "bool" = some false by decide +kernel) (fun _ => show kitB "str" "bool" = some false by decide +kernel)
    (fun _ => show kitB "list" "bool" = some false by decide +kernel) (fun _ => show kitB "tuple" "bool" = some false by decide +kernel) (fun _ _ => show kitB "dict" "bool" = some false by decide +kernel)
theorem isd_str (C : IsC X.K (T.cl cc)) (h0 : PySem.W.kitOne X.K (.ref (T.cl cc)) (.type "str") = some false) : IsD X T [.type "str"] (isT cc aStr) :=
  isd_ty C h0 (by decide +kernel) (fun _ => show kitB "bool" "str" = some false by decide +kernel) (fun _ => show kitB "int" "str" = some false by decide +kernel) (fun _ => show kitB "str" "str" = some true by decide +kernel)
    (fun _ => show kitB "list" "str" = some false by decide +kernel) (fun _ => show kitB "tuple" "str" = some false by decide +kernel) (fun _ _ => show kitB "dict" "str" = some false by decide +kernel)
theorem isd_list (C : IsC X.K (T.cl cc)) (h0 : PySem.W.kitOne X.K (.ref (T.cl cc)) (.type "list") = some false) : IsD X T [.type "list"] (isT cc aList) :=
  isd_ty C h0 (by decide +kernel) (fun _ => show kitB "bool" "list" = some false by decide +kernel) (fun _ => show kitB "int" "list" = some false by decide +kernel) (fun _ => show kitB "str" "list" = some false by decide +kernel)
    (fun _ => show kitB "list" "list" = some true by decide +kernel) (fun _ => show kitB "tuple" "list" = some false by decide +kernel) (fun _ _ => show kitB "dict" "list" = some false by decide +kernel)
theorem isd_tuple (C : IsC X.K (T.cl cc)) (h0 : PySem.W.kitOne X.K (.ref (T.cl cc)) (.type "tuple") = some false) : IsD X T [.type "tuple"] (isT cc aTuple) :=
  isd_ty C h0 (by decide +kernel) (fun _ => show kitB "bool" "tuple" = some false by decide +kernel) (fun _ => show kitB "int" "tuple" = some false by decide +kernel) (fun _ => show kitB "str" "tuple" = some false by decide +kernel)
    (fun _ => show kitB "list" "tuple" = some false by decide +kernel) (fun _ => show kitB "tuple" "tuple" = some true by decide +kernel) (fun _ _ => show kitB "dict" "tuple" = some false by decide +kernel)
end
end Fw
end

section
set_option maxRecDepth 100000
set_option maxHeartbeats 2000000
namespace Fw
open PySem PySem.Spec PyProof.Rows L2
/-! ### the law's promise, and what is asked of the top -/
def spL (K : PySem.W.Frag) (n : Nat) : Sp := fun vs H Q _ => ∃ (a : Addr) (ns : List Int), vs = [.ref a] ∧ SqL K H a (ns.map V.int) ∧ ns.length ≤ n ∧ (∀ z ∈ ns, Builtin.Int.intBits z ≤ 1048576) ∧ ∀ H', Q (.bl true) H'
theorem FnG.imp {gd : Bool} {P : Program} {w : World} {K : PySem.W.Frag} {mg : Str → Option Value} {base : Heap} {CX : CXT} {k : Nat} {f : Addr} {fd : FuncData} {ps : List Str} {sp sp' : Sp} (F : FnG gd P w K mg base CX k f fd ps sp) (h : ∀ vs H Q E, sp' vs H Q E → sp vs H Q E) : FnG gd P w K mg base CX k f fd ps sp' :=
  ⟨fun vs H Q E q => F.len vs H Q E (h _ _ _ _ q), fun A outer s H args us vs Q E hd hr he hb hv hs => F.run A outer s H args us vs Q E hd hr he hb hv (h _ _ _ _ hs)⟩
theorem spL_spF {K : PySem.W.Frag} {T : Tb} {n : Nat} {g : List D → FR} (hg : ∀ ns : List Int, ns.length ≤ n → (∀ z ∈ ns, Builtin.Int.intBits z ≤ 1048576) → g [.scr ns] = .ok false (.bl true) []) (vs : List V) (H : Hp) (Q : VK) (E : XK) (h : spL K n vs H Q E) : spF K T [false] g vs H Q E := by
  obtain ⟨a, ns, rfl, hS, hl, hb, q⟩ := h
  refine ⟨H, [.scr ns], Ex.refl H, ⟨rfl, rfl, fun i b v d h1 h2 h3 => ?_⟩, fun i j a z1 _ => ?_, ?_⟩
  · cases i with
    | zero =>
      simp at h1 h2 h3
      subst h1 h2 h3
      rw [if_neg (by decide)]
      unfold Rp
      exact ⟨a, rfl, hS⟩
    | succ i => simp at h1
  · cases i with
    | zero => have := z1.1; simp at this
    | succ i => have := z1.1; simp at this
  · rw [hg ns hl hb]
    intro v F' H' _ _ rt
    unfold RetR at rt
    rw [if_neg (by decide)] at rt
    unfold Rp at rt
    rw [rt]
    exact q H'
theorem law_binds {K : PySem.W.Frag} {x qual : Str} {st : Stmt} {f : Addr} {fd : FuncData} {p : Str} (F : Fun K x qual st f fd) (h : ∀ (kV doc pm : Value) (an : Option Addr) (cdv ct u : Value), bindArgs (PySem.W.fnOf x qual (defArgs st) (defBody st) (defScope st) .none kV doc pm an cdv ct) ⟨[u], []⟩ = pure [(p, u)]) (s : Shared) (u : Value) : BindsTo s fd ⟨[u], []⟩ [(p, u)] := by
  obtain ⟨oc, od, kV, doc, pm, an, cdv, ct, osl, rfl, lk, hcd⟩ := F.ex
  exact .of_eq (h kV doc pm an cdv ct u)
theorem dfd_mk {K : PySem.W.Frag} {x qual : Str} {st : Stmt} {f T0 : Addr} {oc oc2 : Value} {od an od2 : Option Addr} {osl osl2 : Array (Option Value)} {kV doc pm cdv ct : Value} {dvs : List V} {its : List Value} {m : Nat}
    (l : K.lookup f = some ⟨oc, od, .func (PySem.W.fnOf x qual (defArgs st) (defBody st) (defScope st) (.ref T0) kV doc pm an cdv ct), osl⟩) (c : PySem.W.codeIn K cdv qual = true) (l2 : K.lookup T0 = some ⟨oc2, od2, .seq its.toArray m, osl2⟩) (r : Vals dvs its) :
    DfD K x qual st f (PySem.W.fnOf x qual (defArgs st) (defBody st) (defScope st) (.ref T0) kV doc pm an cdv ct) dvs := ⟨oc, od, T0, kV, doc, pm, an, cdv, ct, osl, _, its, m, rfl, l, c, l2, rfl, r⟩
theorem kit_rt {K : PySem.W.Frag} {C : Addr} {t : String} {b : Bool} (h : PySem.W.subIn K (.ref C) (.type t) = some b) (hm : PySem.W.kitMeta t = true) : PySem.W.kitOne K (.ref C) (.type t) = some b := by
  show (if (Value.ref C == Value.type t) = true then some true else if PySem.W.kitMeta t = true then PySem.W.subIn K (.ref C) (.type t) else none) = some b
  rw [if_neg (by simp), if_pos hm]
  exact h
theorem kit_rr {K : PySem.W.Frag} {C E : Addr} {b : Bool} (hne : C ≠ E) (h1 : PySem.W.isClsIn K E = true) (h2 : PySem.W.typeIn K (.ref E) = some (.type "type")) (h : PySem.W.subIn K (.ref C) (.ref E) = some b) : PySem.W.kitOne K (.ref C) (.ref E) = some b := by
  have h1' : (PySem.W.clsIn K E).isSome = true := h1
  show (if (Value.ref C == Value.ref E) = true then some true else if ((PySem.W.clsIn K E).isSome && PySem.W.typeIn K (.ref E) == some (.type "type")) = true then PySem.W.subIn K (.ref C) (.ref E) else none) = some b
  rw [if_neg (by simp [hne]), if_pos (by rw [h1', h2]; rfl)]
  exact h
end Fw
end

section
set_option maxRecDepth 100000
set_option maxHeartbeats 4000000
/-! Fw: readings, computed: one equation for each word, applied to its slots. -/
namespace Fw
open PySem L2
section
variable {α β : Type}
def onS (f : Sl → Res α) : M α := f
theorem v_onS (f : Sl → Res α) (st : Sl) : onS f st = f st := rfl
theorem v_bnd (m : M α) (k : α → M β) (st : Sl) : M.bnd m k st = (match m st with | .ok a s' => k a s' | .exc e s' => .exc e s' | .no => .no) := rfl
theorem v_ret (a : α) (st : Sl) : M.ret a st = .ok a st := rfl
theorem v_stk (st : Sl) : (stk : M α) st = .no := rfl
theorem v_lf (x : Option α) (st : Sl) : lf x st = (match x with | some t => .ok t st | none => .no) := rfl
theorem v_rv (t : T1) (st : Sl) : rv t st = (match t with | .vl d => .ok d st | .fr d => .ok d st | .pk i => match st[i]? with | some (Slot.val d) => .ok d st | some (Slot.own _ d) => if isTup d = true then .no else .ok d st | _ => .no) := rfl
theorem v_var (i : Nat) (st : Sl) : var i st = (match st[i]? with | some (Slot.val d) => .ok (.vl d) st | some (Slot.own false d) => .ok (.vl d) (st.set i (Slot.val d)) | _ => .no) := rfl
theorem v_pk (i : Nat) (st : Sl) : pk i st = (match st[i]? with | some (Slot.val _) => .ok (.pk i) st | some (Slot.own _ _) => .ok (.pk i) st | _ => .no) := rfl
theorem v_mov (i : Nat) (st : Sl) : mov i st = (match st[i]? with | some (Slot.own false d) => .ok (.fr d) (st.set i Slot.un) | some (Slot.val d) => .ok (.vl d) st | _ => .no) := rfl
theorem v_cst (d : D) (st : Sl) : cst d st = .ok (.vl d) st := rfl
theorem v_ops2 (a b : M T1) (st : Sl) : ops2 a b st = M.bnd a (fun x => M.bnd b fun y => M.bnd (rv x) fun dx => M.bnd (rv y) fun dy => M.ret (dx, dy)) st := rfl
theorem v_ops1 (a : M T1) (st : Sl) : ops1 a st = M.bnd a rv st := rfl
theorem v_bin (f : D → D → Option T1) (a b : M T1) (st : Sl) : bin f a b st = M.bnd (ops2 a b) (fun p => lf (f p.1 p.2)) st := rfl
theorem v_sub (a b : M T1) (st : Sl) : subM a b st = M.bnd (ops2 a b) (fun p => lf (subD p.1 p.2)) st := rfl
theorem v_cmp (f : D → D → Option Bool) (a b : M T1) (st : Sl) : cmp f a b st = M.bnd (ops2 a b) (fun p => lf (f p.1 p.2)) st := rfl
theorem v_un (f : D → Option T1) (a : M T1) (st : Sl) : un f a st = M.bnd (ops1 a) (fun p => lf (f p)) st := rfl
theorem v_asV (m : M Bool) (st : Sl) : asV m st = M.bnd m (fun b => M.ret (.vl (.bl b))) st := rfl
theorem v_and (a b : M Bool) (st : Sl) : andM a b st = M.bnd a (fun x => if x = true then b else M.ret false) st := rfl
theorem v_or (a b : M Bool) (st : Sl) : orM a b st = M.bnd a (fun x => if x = true then M.ret true else b) st := rfl
theorem v_not (a : M Bool) (st : Sl) : notM a st = M.bnd a (fun x => M.ret (!x)) st := rfl
theorem v_if (t : M Bool) (a b : M α) (st : Sl) : ifM t a b st = M.bnd t (fun x => if x = true then a else b) st := rfl
theorem v_andV (a b : M T1) (st : Sl) : andV a b st = M.bnd (ops1 a) (fun d => M.bnd (lf (boolD d)) fun x => if x = true then b else M.ret (T1.vl (.bl false))) st := rfl
theorem v_orV (a b : M T1) (st : Sl) : orV a b st = M.bnd (ops1 a) (fun d => M.bnd (lf (boolD d)) fun x => if x = true then M.ret (T1.vl (.bl true)) else b) st := rfl
theorem v_notV (a : M T1) (st : Sl) : notV a st = M.bnd (ops1 a) (fun d => M.bnd (lf (boolD d)) fun x => M.ret (T1.vl (.bl (!x)))) st := rfl
theorem v_tst (a : M T1) (st : Sl) : tst a st = M.bnd (ops1 a) (fun d => lf (truD d)) st := rfl
theorem v_args0 (st : Sl) : argsM [] st = .ok [] st := rfl
theorem v_args1 (m : M T1) (ms : List (M T1)) (st : Sl) : argsM (m :: ms) st = M.bnd m (fun t => M.bnd (argsM ms) fun ts => M.ret (fz t :: ts)) st := rfl
theorem v_rvs0 (st : Sl) : rvs [] st = .ok [] st := rfl
theorem v_rvs1 (t : T1) (ts : List T1) (st : Sl) : rvs (t :: ts) st = M.bnd (rv t) (fun d => M.bnd (rvs ts) fun ds => M.ret (d :: ds)) st := rfl
theorem v_tup (ms : List (M T1)) (st : Sl) : tupM ms st = M.bnd (argsM ms) (fun ts => M.bnd (lf (vlsO ts)) fun ds => if ds.length ≤ 100000 then M.ret (T1.fr (.tup ds)) else stk) st := rfl
theorem v_lst (ms : List (M T1)) (st : Sl) : lstM ms st = M.bnd (argsM ms) (fun ts => M.bnd (lf (vlsO ts)) fun ds => if ds.length ≤ 100000 then M.ret (T1.fr (.lst ds)) else stk) st := rfl
theorem v_callB (g : List D → Option T1) (ms : List (M T1)) (st : Sl) : callB g ms st = M.bnd (argsM ms) (fun ts => M.bnd (rvs ts) fun ds => lf (g ds)) st := rfl
theorem v_seq (a b : M Flw) (st : Sl) : seqM a b st = (match a st with | .ok .nx s' => b s' | r => r) := rfl
theorem v_nx (st : Sl) : nxM st = .ok .nx st := rfl
theorem v_drop (m : M T1) (st : Sl) : dropM m st = M.bnd m (fun _ => M.ret .nx) st := rfl
theorem v_retM (m : M T1) (st : Sl) : retM m st = M.bnd m (fun t => M.ret (.rt t)) st := rfl
theorem v_sto (i : Nat) (t : T1) (st : Sl) : stoM i t st = (match st[i]? with | none => .no | some (Slot.own true _) => .no | some _ => sto1 i st t) := rfl
theorem v_set (i : Nat) (m : M T1) (st : Sl) : setM i m st = M.bnd m (stoM i) st := rfl
theorem v_att (ix : Nat → Option Nat) (a : M T1) (st : Sl) : attM ix a st = M.bnd (ops1 a) (fun d => M.bnd (lf (attD ix d)) fun r => M.ret (T1.vl r)) st := rfl
theorem v_part0 (st : Sl) : partM none st = .ok none st := rfl
theorem v_part1 (m : M T1) (st : Sl) : partM (some m) st = M.bnd (ops1 m) (fun d => M.bnd (lf (intD d)) fun i => M.ret (some i)) st := rfl
theorem v_sli (a : M T1) (lo hi : Option (M T1)) (st : Sl) : sliM a lo hi st = M.bnd a (fun t => M.bnd (partM lo) fun l => M.bnd (partM hi) fun h => M.bnd (rv t) fun d => lf (sliD d l h)) st := rfl
theorem v_unp (is : List Nat) (m : M T1) (st : Sl) : unpM is m st = M.bnd (ops1 m) (fun d => onS fun st => match bindT (.tp is) d st with | some st' => .ok .nx st' | none => .no) st := rfl
theorem v_par (i j : Nat) (ms : List (M T1)) (st : Sl) : parM i j ms st = M.bnd (argsM ms) (fun ts => M.bnd (lf (vlsO ts)) fun ds => onS fun st => match bindAll [i, j] ds st with | some st' => .ok .nx st' | none => .no) st := rfl
theorem v_seqI (m : M T1) (st : Sl) : seqI m st = M.bnd m (fun t => M.bnd (onVl t) fun d => lf (seqD d)) st := rfl
theorem v_onVl (t : T1) (st : Sl) : onVl t st = (match t with | .vl d => .ok d st | .fr d => .ok d st | .pk _ => .no) := by cases t <;> rfl
theorem v_rng (f : List D → Option (List D)) (ms : List (M T1)) (st : Sl) : rngI f ms st = M.bnd (argsM ms) (fun ts => M.bnd (rvs ts) fun ds => lf (f ds)) st := rfl
theorem v_for (tg : Tg) (it : M (List D)) (body : M Flw) (st : Sl) : forM tg it body st = M.bnd it (forD tg body) st := rfl
theorem v_lc (vs : List Nat) (tg : Tg) (it : M (List D)) (cond : M Bool) (elt : M T1) (st : Sl) : lcM vs tg it cond elt st = M.bnd it (fun ds => onS fun st => if ds.length ≤ 1000000 ∧ vs.all (notOwn st) = true then match lcR vs tg cond elt ds (wipeS vs st) with | .ok r s' => .ok (.fr (.lst r)) (backS st vs s') | _ => .no else .no) st := rfl
theorem v_yes (st : Sl) : yesM st = .ok true st := rfl
theorem v_mth (Ty : String) (g : D → List D → Option T1) (a : M T1) (ms : List (M T1)) (st : Sl) : mthM Ty g a ms st = M.bnd a (fun t => M.bnd (rv t) fun d0 => if tyD Ty d0 = true then M.bnd (argsM ms) fun ts => M.bnd (rv t) fun d => M.bnd (rvs ts) fun ds => lf (g d ds) else stk) st := rfl
theorem v_mut (i : Nat) (Ty : String) (g : D → List D → Option (D × D)) (ms : List (M T1)) (st : Sl) : mutM i Ty g ms st = M.bnd (pk i) (fun t => M.bnd (rv t) fun d0 => if tyD Ty d0 = true then M.bnd (argsM ms) fun ts => M.bnd (lf (vlsO ts)) fun ds => onS fun st => match st[i]? with
  | some (Slot.own r d) => match g d ds with
    | some (d', x) => .ok (.vl x) (st.set i (Slot.own r d'))
    | none => .no
  | _ => .no else stk) st := rfl
theorem v_call (bs : List Bool) (g : List D → FR) (pi : List Nat) (dfl : List D) (ms : List (M T1)) (st : Sl) : callP bs g pi dfl ms st = M.bnd (argsM ms) (fun ts => callT bs g (picks pi (ts ++ dfl.map T1.vl))) st := rfl
theorem v_meth (cc : Nat) (bs : List Bool) (g : List D → FR) (pi : List Nat) (dfl : List D) (a : M T1) (ms : List (M T1)) (st : Sl) : methP cc bs g pi dfl a ms st = M.bnd a (fun t => M.bnd (rv t) fun d => if isIns cc d = true then M.bnd (argsM ms) fun ts => callT bs g (picks pi (fz t :: ts ++ dfl.map T1.vl)) else stk) st := rfl
theorem v_cmet (cc : Nat) (bs : List Bool) (g : List D → FR) (pi : List Nat) (dfl : List D) (a : M T1) (ms : List (M T1)) (st : Sl) : cmetP cc bs g pi dfl a ms st = M.bnd a (fun t => M.bnd (rv t) fun d => if isCls cc d = true then M.bnd (argsM ms) fun ts => callT bs g (picks pi (T1.vl (.cls cc) :: ts ++ dfl.map T1.vl)) else stk) st := rfl
theorem v_make (cc : Nat) (g : List D → FR) (pi : List Nat) (dfl : List D) (ms : List (M T1)) (st : Sl) : makP cc g pi dfl ms st = M.bnd (argsM ms) (makT cc g pi dfl) st := rfl
theorem v_makT (cc : Nat) (g : List D → FR) (pi : List Nat) (dfl : List D) (ts : List T1) (st : Sl) : makT cc g pi dfl ts st = (match resO (pi.map fun _ => false) (picks pi (ts ++ dfl.map T1.vl)) st with
  | none => .no
  | some ds => match g (.ins cc [] :: ds) with
    | .ok false .non [o] => .ok (.fr o) st
    | .exc e _ => .exc e st
    | _ => .no) := rfl
theorem v_makL (i cc : Nat) (g : List D → FR) (pi : List Nat) (dfl : List D) (ms : List (M T1)) (st : Sl) : makL i cc g pi dfl ms st = (match st[i]? with
  | some (Slot.val d) => if isCls cc d = true then makP cc g pi dfl ms st else .no
  | _ => .no) := rfl
theorem v_callT (bs : List Bool) (g : List D → FR) (ts : List T1) (st : Sl) : callT bs g ts st = (match resO bs ts st with
  | none => .no
  | some ds => if (pks bs ts).Nodup then match g ds with
    | .ok true d outs => .ok (.fr d) (putB (pks bs ts) outs st)
    | .ok false d outs => .ok (.vl d) (putB (pks bs ts) outs st)
    | .exc e outs => .exc e (putB (pks bs ts) outs st)
    | .no => .no
    else .no) := rfl
theorem v_six (i : Nat) (mi me : M T1) (st : Sl) : sixM i mi me st = M.bnd me (fun t => M.bnd (lf (vlO t)) fun d => M.bnd (pk i) fun _ => M.bnd (ops1 mi) fun y => onS fun st => match st[i]? with
  | some (Slot.own r d0) => match setD d0 y d with
    | some d1 => .ok .nx (st.set i (Slot.own r d1))
    | none => .no
  | _ => .no) st := rfl
theorem v_fld (i : Nat) (ix : Nat → Option Nat) (me : M T1) (st : Sl) : fldM i ix me st = M.bnd me (fun t => M.bnd (lf (vlO t)) fun d => onS fun st => match st[i]? with
  | some (Slot.own r d0) => match fldD ix d d0 with
    | some d1 => .ok .nx (st.set i (Slot.own r d1))
    | none => .no
  | _ => .no) st := rfl
theorem v_isi (f : D → Option Bool) (a : M T1) (st : Sl) : isiM f a st = M.bnd (ops1 a) (fun d => M.bnd (lf (f d)) fun b => M.ret (T1.vl (.bl b))) st := rfl
theorem v_rs0 (cc : Nat) (st : Sl) : rs0 cc st = .exc ⟨cc, []⟩ st := rfl
theorem v_try (i : Nat) (catch_ : Nat → Option Bool) (mb : M Flw) (ms : Exn → M Flw) (st : Sl) : tryM i catch_ mb ms st = (match mb st with
  | .exc e st' => match catch_ e.c with
    | none => .no
    | some false => .exc e st'
    | some true => if i < st'.length then offS i (ms e (st'.set i Slot.fix)) else .no
  | r => r) := rfl
theorem v_ise (i : Nat) (f : Nat → Option Bool) (e : Exn) (st : Sl) : iseM i f e st = (match e.fs, st[i]?, f e.c with | [], some Slot.fix, some b => .ok (.vl (.bl b)) st | _, _, _ => .no) := rfl
theorem v_chn (f f' : D → D → Option Bool) (a b c : M T1) (st : Sl) : chnM f f' a b c st = M.bnd a (fun x => M.bnd b fun y => M.bnd (rv x) fun dx => M.bnd (rv y) fun dy => M.bnd (lf (f dx dy)) fun k => if k = true then M.bnd c fun z => M.bnd (rv y) fun dy' => M.bnd (rv z) fun dz => lf (f' dy' dz) else M.ret false) st := rfl
theorem v_fmt (a : M T1) (st : Sl) : fmtM a st = M.bnd (ops1 a) (fun d => lf (fmtD d)) st := rfl
theorem v_lit (x : Str) (st : Sl) : litM x st = .ok x st := rfl
theorem v_cat0 (acc : Str) (st : Sl) : catM [] acc st = .ok acc st := rfl
theorem v_cat1 (m : M Str) (ms : List (M Str)) (acc : Str) (st : Sl) : catM (m :: ms) acc st = M.bnd m (fun y => if (acc ++ y).length ≤ 1000000 then catM ms (acc ++ y) else stk) st := rfl
theorem v_fst (ms : List (M Str)) (st : Sl) : fstM ms st = M.bnd (catM ms Str.empty) (fun x => M.ret (T1.vl (.str x))) st := rfl
theorem capN {α : Type} (n : Nat) : (([] : List α).length ≤ n) = True := eq_true (Nat.zero_le n)
theorem capS {α : Type} (d : α) (ds : List α) (n : Nat) : ((d :: ds).length ≤ n + 1) = (ds.length ≤ n) := propext Nat.succ_le_succ_iff
theorem picks_1 {α : Type} (a : α) : picks [0] [a] = [a] := rfl
theorem picks_2 {α : Type} (a b : α) : picks [0, 1] [a, b] = [a, b] := rfl
theorem picks_21 {α : Type} (a b c : α) : picks [0, 1] [a, b, c] = [a, b] := rfl
theorem v_ite (c : Prop) [Decidable c] (a b : M α) (st : Sl) : (if c then a else b) st = if c then a st else b st := by split <;> rfl
end
end Fw
end

section
set_option maxRecDepth 100000
set_option maxHeartbeats 4000000
namespace Fw
open PySem PySem.Spec PyProof.Rows L2
/-! ### the law's text, read -/
def top (i : Nat) : Stmt := PySem.Challenge.pw_everytext_k03_fractions_as_texts_and_num.main.body.getD i (.Pass ⟨0, 0, 0, 0⟩)
abbrev s__law_pen : Stmt := top 16
abbrev s__law_divisor : Stmt := top 18
abbrev s__law_draw : Stmt := top 17
abbrev s__law_parts : Stmt := top 19
abbrev s_divisor : Stmt := top 8
abbrev s_is_integer : Stmt := top 7
abbrev s_Ratioq_initq : Stmt := inClass (top 11) 0
abbrev s__law_text : Stmt := top 20
abbrev s__law_bent : Stmt := top 23
abbrev s__law_far : Stmt := top 24
abbrev s_Ratioq_eqq : Stmt := inClass (top 11) 9
abbrev s_Ratioq_strq : Stmt := inClass (top 11) 11
abbrev s_Ratioq_reprq : Stmt := inClass (top 11) 12
abbrev s_is_written : Stmt := top 9
abbrev s_is_ratio_text : Stmt := top 10
abbrev s_Ratio_read : Stmt := inClass (top 11) 2
abbrev s__law_told : Stmt := top 25
abbrev s__law_whole : Stmt := top 21
abbrev s__law_read : Stmt := top 22
abbrev s__law_part_one : Stmt := top 26
abbrev s_Ratio_of : Stmt := inClass (top 11) 1
abbrev s_Ratio_under : Stmt := inClass (top 11) 3
abbrev s_ascending : Stmt := top 12
abbrev s__law_before : Stmt := top 29
abbrev s__law_sorted : Stmt := top 30
abbrev s__law_parts_b : Stmt := top 27
abbrev s__law_number : Stmt := top 28
abbrev s__law_are : Stmt := top 31
abbrev s_least : Stmt := top 13
abbrev s_greatest : Stmt := top 14
abbrev s__law_part_two : Stmt := top 32
abbrev s_law : Stmt := top 33
def ix_top : Nat → Option Nat
  | 2 => some 0
  | _ => none
def ix_bottom : Nat → Option Nat
  | 2 => some 1
  | _ => none
def ct_InvalidRatio : Nat → Option Bool
  | 1 => some true
  | _ => none
def ie_FaceError : Nat → Option Bool
  | 1 => some true
  | _ => none
def ie_ValueError : Nat → Option Bool
  | 1 => some true
  | _ => none
structure Facts (K : PySem.W.Frag) (mg : Str → Option Value) (T : Tb) : Type where
  f__law_pen : Addr
  fd__law_pen : FuncData
  d__law_pen : Fun K "_law_pen" "_law_pen" s__law_pen f__law_pen fd__law_pen
  m__law_pen : mg "_law_pen" = some (.ref f__law_pen)
  k__law_pen : PySem.W.keepIn K (.ref f__law_pen) = true
  f__law_divisor : Addr
  fd__law_divisor : FuncData
  d__law_divisor : Fun K "_law_divisor" "_law_divisor" s__law_divisor f__law_divisor fd__law_divisor
  m__law_divisor : mg "_law_divisor" = some (.ref f__law_divisor)
  k__law_divisor : PySem.W.keepIn K (.ref f__law_divisor) = true
  f__law_draw : Addr
  fd__law_draw : FuncData
  d__law_draw : Fun K "_law_draw" "_law_draw" s__law_draw f__law_draw fd__law_draw
  m__law_draw : mg "_law_draw" = some (.ref f__law_draw)
  k__law_draw : PySem.W.keepIn K (.ref f__law_draw) = true
  f__law_parts : Addr
  fd__law_parts : FuncData
  d__law_parts : Fun K "_law_parts" "_law_parts" s__law_parts f__law_parts fd__law_parts
  m__law_parts : mg "_law_parts" = some (.ref f__law_parts)
  k__law_parts : PySem.W.keepIn K (.ref f__law_parts) = true
  f_divisor : Addr
  fd_divisor : FuncData
  d_divisor : Fun K "divisor" "divisor" s_divisor f_divisor fd_divisor
  m_divisor : mg "divisor" = some (.ref f_divisor)
  k_divisor : PySem.W.keepIn K (.ref f_divisor) = true
  f_is_integer : Addr
  fd_is_integer : FuncData
  d_is_integer : Fun K "is_integer" "is_integer" s_is_integer f_is_integer fd_is_integer
  m_is_integer : mg "is_integer" = some (.ref f_is_integer)
  k_is_integer : PySem.W.keepIn K (.ref f_is_integer) = true
  f_Ratioq_initq : Addr
  fd_Ratioq_initq : FuncData
  d_Ratioq_initq : DfD K "__init__" "Ratio.__init__" s_Ratioq_initq f_Ratioq_initq fd_Ratioq_initq [.int 1]
  mk_Ratioq_initq : Mk K (T.cl 2) f_Ratioq_initq
  f__law_text : Addr
  fd__law_text : FuncData
  d__law_text : Fun K "_law_text" "_law_text" s__law_text f__law_text fd__law_text
  m__law_text : mg "_law_text" = some (.ref f__law_text)
  k__law_text : PySem.W.keepIn K (.ref f__law_text) = true
  f__law_bent : Addr
  fd__law_bent : FuncData
  d__law_bent : Fun K "_law_bent" "_law_bent" s__law_bent f__law_bent fd__law_bent
  m__law_bent : mg "_law_bent" = some (.ref f__law_bent)
  k__law_bent : PySem.W.keepIn K (.ref f__law_bent) = true
  f__law_far : Addr
  fd__law_far : FuncData
  d__law_far : Fun K "_law_far" "_law_far" s__law_far f__law_far fd__law_far
  m__law_far : mg "_law_far" = some (.ref f__law_far)
  k__law_far : PySem.W.keepIn K (.ref f__law_far) = true
  f_Ratioq_eqq : Addr
  fd_Ratioq_eqq : FuncData
  d_Ratioq_eqq : Fun K "__eq__" "Ratio.__eq__" s_Ratioq_eqq f_Ratioq_eqq fd_Ratioq_eqq
  fi_Ratioq_eqq : PySem.W.findIn K (.ref (T.cl 2)) "__eq__" = some (some (.ref f_Ratioq_eqq))
  if_Ratioq_eqq : PySem.W.isFn K (.ref f_Ratioq_eqq) = true
  f_Ratioq_strq : Addr
  fd_Ratioq_strq : FuncData
  d_Ratioq_strq : Fun K "__str__" "Ratio.__str__" s_Ratioq_strq f_Ratioq_strq fd_Ratioq_strq
  fi_Ratioq_strq : PySem.W.findIn K (.ref (T.cl 2)) "__str__" = some (some (.ref f_Ratioq_strq))
  if_Ratioq_strq : PySem.W.isFn K (.ref f_Ratioq_strq) = true
  f_Ratioq_reprq : Addr
  fd_Ratioq_reprq : FuncData
  d_Ratioq_reprq : Fun K "__repr__" "Ratio.__repr__" s_Ratioq_reprq f_Ratioq_reprq fd_Ratioq_reprq
  fi_Ratioq_reprq : PySem.W.findIn K (.ref (T.cl 2)) "__repr__" = some (some (.ref f_Ratioq_reprq))
  if_Ratioq_reprq : PySem.W.isFn K (.ref f_Ratioq_reprq) = true
  f_is_written : Addr
  fd_is_written : FuncData
  d_is_written : Fun K "is_written" "is_written" s_is_written f_is_written fd_is_written
  m_is_written : mg "is_written" = some (.ref f_is_written)
  k_is_written : PySem.W.keepIn K (.ref f_is_written) = true
  f_is_ratio_text : Addr
  fd_is_ratio_text : FuncData
  d_is_ratio_text : Fun K "is_ratio_text" "is_ratio_text" s_is_ratio_text f_is_ratio_text fd_is_ratio_text
  m_is_ratio_text : mg "is_ratio_text" = some (.ref f_is_ratio_text)
  k_is_ratio_text : PySem.W.keepIn K (.ref f_is_ratio_text) = true
  f_Ratio_read : Addr
  fd_Ratio_read : FuncData
  d_Ratio_read : Fun K "read" "Ratio.read" s_Ratio_read f_Ratio_read fd_Ratio_read
  cm_Ratio_read : ∃ (mc : Value) (q : Addr), ClX.CRead K (T.cl 2) mc ∧ ClX.CMet K (T.cl 2) mc "read" q f_Ratio_read
  f__law_told : Addr
  fd__law_told : FuncData
  d__law_told : Fun K "_law_told" "_law_told" s__law_told f__law_told fd__law_told
  m__law_told : mg "_law_told" = some (.ref f__law_told)
  k__law_told : PySem.W.keepIn K (.ref f__law_told) = true
  f__law_whole : Addr
  fd__law_whole : FuncData
  d__law_whole : Fun K "_law_whole" "_law_whole" s__law_whole f__law_whole fd__law_whole
  m__law_whole : mg "_law_whole" = some (.ref f__law_whole)
  k__law_whole : PySem.W.keepIn K (.ref f__law_whole) = true
  f__law_read : Addr
  fd__law_read : FuncData
  d__law_read : Fun K "_law_read" "_law_read" s__law_read f__law_read fd__law_read
  m__law_read : mg "_law_read" = some (.ref f__law_read)
  k__law_read : PySem.W.keepIn K (.ref f__law_read) = true
  f__law_part_one : Addr
  fd__law_part_one : FuncData
  d__law_part_one : Fun K "_law_part_one" "_law_part_one" s__law_part_one f__law_part_one fd__law_part_one
  m__law_part_one : mg "_law_part_one" = some (.ref f__law_part_one)
  k__law_part_one : PySem.W.keepIn K (.ref f__law_part_one) = true
  f_Ratio_of : Addr
  fd_Ratio_of : FuncData
  d_Ratio_of : Fun K "of" "Ratio.of" s_Ratio_of f_Ratio_of fd_Ratio_of
  cm_Ratio_of : ∃ (mc : Value) (q : Addr), ClX.CRead K (T.cl 2) mc ∧ ClX.CMet K (T.cl 2) mc "of" q f_Ratio_of
  f_Ratio_under : Addr
  fd_Ratio_under : FuncData
  d_Ratio_under : Fun K "under" "Ratio.under" s_Ratio_under f_Ratio_under fd_Ratio_under
  me_Ratio_under : Meth K (T.cl 2) "under" f_Ratio_under
  f_ascending : Addr
  fd_ascending : FuncData
  d_ascending : Fun K "ascending" "ascending" s_ascending f_ascending fd_ascending
  m_ascending : mg "ascending" = some (.ref f_ascending)
  k_ascending : PySem.W.keepIn K (.ref f_ascending) = true
  f__law_before : Addr
  fd__law_before : FuncData
  d__law_before : Fun K "_law_before" "_law_before" s__law_before f__law_before fd__law_before
  m__law_before : mg "_law_before" = some (.ref f__law_before)
  k__law_before : PySem.W.keepIn K (.ref f__law_before) = true
  f__law_sorted : Addr
  fd__law_sorted : FuncData
  d__law_sorted : Fun K "_law_sorted" "_law_sorted" s__law_sorted f__law_sorted fd__law_sorted
  m__law_sorted : mg "_law_sorted" = some (.ref f__law_sorted)
  k__law_sorted : PySem.W.keepIn K (.ref f__law_sorted) = true
  f__law_parts_b : Addr
  fd__law_parts_b : FuncData
  d__law_parts_b : Fun K "_law_parts_b" "_law_parts_b" s__law_parts_b f__law_parts_b fd__law_parts_b
  m__law_parts_b : mg "_law_parts_b" = some (.ref f__law_parts_b)
  k__law_parts_b : PySem.W.keepIn K (.ref f__law_parts_b) = true
  f__law_number : Addr
  fd__law_number : FuncData
  d__law_number : Fun K "_law_number" "_law_number" s__law_number f__law_number fd__law_number
  m__law_number : mg "_law_number" = some (.ref f__law_number)
  k__law_number : PySem.W.keepIn K (.ref f__law_number) = true
  f__law_are : Addr
  fd__law_are : FuncData
  d__law_are : Fun K "_law_are" "_law_are" s__law_are f__law_are fd__law_are
  m__law_are : mg "_law_are" = some (.ref f__law_are)
  k__law_are : PySem.W.keepIn K (.ref f__law_are) = true
  f_least : Addr
  fd_least : FuncData
  d_least : Fun K "least" "least" s_least f_least fd_least
  m_least : mg "least" = some (.ref f_least)
  k_least : PySem.W.keepIn K (.ref f_least) = true
  f_greatest : Addr
  fd_greatest : FuncData
  d_greatest : Fun K "greatest" "greatest" s_greatest f_greatest fd_greatest
  m_greatest : mg "greatest" = some (.ref f_greatest)
  k_greatest : PySem.W.keepIn K (.ref f_greatest) = true
  f__law_part_two : Addr
  fd__law_part_two : FuncData
  d__law_part_two : Fun K "_law_part_two" "_law_part_two" s__law_part_two f__law_part_two fd__law_part_two
  m__law_part_two : mg "_law_part_two" = some (.ref f__law_part_two)
  k__law_part_two : PySem.W.keepIn K (.ref f__law_part_two) = true
  f_law : Addr
  fd_law : FuncData
  d_law : Fun K "law" "law" s_law f_law fd_law
  m_law : mg "law" = some (.ref f_law)
  k_law : PySem.W.keepIn K (.ref f_law) = true
  m_FaceError : mg "FaceError" = some (.ref (T.cl 0))
  m_InvalidRatio : mg "InvalidRatio" = some (.ref (T.cl 1))
  m_Ratio : mg "Ratio" = some (.ref (T.cl 2))
  cls_Ratio : Cls K (T.cl 2)
  isc_Ratio : IsC K (T.cl 2)
  ic_Ratio : PySem.W.isClsIn K (T.cl 2) = true
  ty_Ratio : PySem.W.typeIn K (.ref (T.cl 2)) = some (.type "type")
  ne_Ratio : PySem.W.findIn K (.ref (T.cl 2)) "__ne__" = some (some (.builtin "object.__ne__"))
  ob_Ratio : PySem.W.mroIn K (T.cl 2) (.type "object") = some true
  an_Ratio : T.an 2 = (["top", "bottom"] : List Str)
  na_Ratio_top : NoAttr K (T.cl 2) "top"
  na_Ratio_bottom : NoAttr K (T.cl 2) "bottom"
  no_int : PySem.W.kitOne K (.ref (T.cl 2)) (.type "int") = some false
  no_bool : PySem.W.kitOne K (.ref (T.cl 2)) (.type "bool") = some false
  no_str : PySem.W.kitOne K (.ref (T.cl 2)) (.type "str") = some false
  no_list : PySem.W.kitOne K (.ref (T.cl 2)) (.type "list") = some false
  ec_InvalidRatio : EcK K (T.cl 1)
  ct_InvalidRatio : ∀ c b, ct_InvalidRatio c = some b → PySem.W.exmOne K (.ref (T.cl c)) (.ref (T.cl 1)) = some b
  ise_FaceError : ∀ c b, ie_FaceError c = some b → ExcC K (T.cl c) ∧ PySem.W.kitOne K (.ref (T.cl c)) (.ref (T.cl 0)) = some b
  ise_ValueError : ∀ c b, ie_ValueError c = some b → ExcC K (T.cl c) ∧ PySem.W.kitOne K (.ref (T.cl c)) (.type "ValueError") = some b
  n_len : mg "len" = none
  n_abs : mg "abs" = none
  n_all : mg "all" = none
  n_int : mg "int" = none
  n_str : mg "str" = none
  n_bool : mg "bool" = none
  n_list : mg "list" = none
  n_repr : mg "repr" = none
  n_range : mg "range" = none
  n_isinstance : mg "isinstance" = none
  n_ValueError : mg "ValueError" = none
  t_FIGURES : Tok
  g_FIGURES : mg "FIGURES" = some (.str (PySem.Str.ofString "0123456789") t_FIGURES)
  t_MOST_FIGURES : Tok
  g_MOST_FIGURES : mg "MOST_FIGURES" = some (.int 60 t_MOST_FIGURES)
theorem Facts.at_top {K : PySem.W.Frag} {mg : Str → Option Value} {T : Tb} (G : Facts K mg T) : ∀ c j, ix_top c = some j → Cls K (T.cl c) ∧ NoAttr K (T.cl c) "top" ∧ (T.an c).Nodup ∧ (T.an c)[j]? = some "top" := fun c j h => by
  unfold ix_top at h
  split at h
  · cases h
    exact ⟨G.cls_Ratio, G.na_Ratio_top, by rw [G.an_Ratio]; decide +kernel, by rw [G.an_Ratio]; rfl⟩
  · cases h
theorem Facts.at_bottom {K : PySem.W.Frag} {mg : Str → Option Value} {T : Tb} (G : Facts K mg T) : ∀ c j, ix_bottom c = some j → Cls K (T.cl c) ∧ NoAttr K (T.cl c) "bottom" ∧ (T.an c).Nodup ∧ (T.an c)[j]? = some "bottom" := fun c j h => by
  unfold ix_bottom at h
  split at h
  · cases h
    exact ⟨G.cls_Ratio, G.na_Ratio_bottom, by rw [G.an_Ratio]; decide +kernel, by rw [G.an_Ratio]; rfl⟩
  · cases h
section
variable {P : Program} {w : World} {K : PySem.W.Frag} {mg : Str → Option Value} {base : Heap} {T : Tb}
theorem sc__law_pen : FnScope ["script"] ["script"] (defScope s__law_pen) := ⟨rfl, rfl, rfl, by decide +kernel, rfl, by decide +kernel, by decide +kernel⟩
def b__law_pen (ds : List D) : M Flw :=
    (retM (lstM [(callB listF [(sliM (pk 0) none (some (cst (.int 63))))]), (cst (.int 0)), (cst (.int 0))]))
def p__law_pen (ds : List D) : FR := fnOf [false] 1 (b__law_pen ds) ds
theorem ok__law_pen (G : Facts K mg T) : FnG false P w K mg base (L2.CX P w) 1 G.f__law_pen G.fd__law_pen ["script"] (spF K T [false] p__law_pen) :=
  fn_ok (m := b__law_pen) (Df.of_fun G.d__law_pen) sc__law_pen rfl (fun _ => .inl rfl) fun ds cdv A outer s H F vs E hgd hr tk => by
  exact (sb_one (ss_ret (se_lst (sa_cons (se_callTy cs_list rfl G.n_list (by with_unfolding_all rfl) (sa_cons (se_sli (se_pk (pv 0)) (show SP1 _ _ _ _ none none from True.intro) (show SP1 _ _ _ _ (some _) (some _) from se_i)) sa_nil)) (sa_cons se_i (sa_cons se_i sa_nil))))))
theorem cl__law_pen_1 (G : Facts K mg T) : FnKB false P w K mg base T 1 "_law_pen" [false] p__law_pen 1 [] [0] [] := ⟨G.f__law_pen, G.m__law_pen, G.k__law_pen, cal_of (pi := [0]) G.d__law_pen (ok__law_pen G) (fun _ _ _ _ _ _ us ws h1 h2 => match us, ws, h1, h2 with | [_], [], _, _ => rfl)⟩
theorem sc__law_divisor : FnScope ["one", "other", "here", "there"] ["one", "other"] (defScope s__law_divisor) := ⟨rfl, rfl, rfl, by decide +kernel, rfl, by decide +kernel, by decide +kernel⟩
def b__law_divisor (ds : List D) : M Flw :=
    (seqM (parM 2 3 [(callB absF [(pk 0)]), (callB absF [(pk 1)])])
    (seqM (whlD (cmp neD (pk 3) (cst (.int 0))) (parM 2 3 [(var 3), (bin modD (callB intF [(pk 2)]) (pk 3))]) (nat_of (ds.getD 1 .non) + 1))
    (retM (mov 2))))
def p__law_divisor (ds : List D) : FR := fnOf [false, false] 4 (b__law_divisor ds) ds
theorem ok__law_divisor (G : Facts K mg T) : FnG false P w K mg base (L2.CX P w) 1 G.f__law_divisor G.fd__law_divisor ["one", "other"] (spF K T [false, false] p__law_divisor) :=
  fn_ok (m := b__law_divisor) (Df.of_fun G.d__law_divisor) sc__law_divisor rfl (fun _ => .inl rfl) fun ds cdv A outer s H F vs E hgd hr tk => by
  exact (sb_cons (ss_par (i := 2) (j := 3) (sa_cons (se_callB (cs_abs) rfl G.n_abs (by with_unfolding_all rfl) (sa_cons (se_pk (pv 0)) sa_nil)) (sa_cons (se_callB (cs_abs) rfl G.n_abs (by with_unfolding_all rfl) (sa_cons (se_pk (pv 1)) sa_nil)) sa_nil)) rfl sc__law_divisor.nd rfl rfl (by decide) rfl rfl (by with_unfolding_all rfl))
    (sb_cons (ss_whl (passes_of rfl) (st_cmp (cms_ne hr.units) (se_pk (pv 3)) se_i) (sb_one (ss_par (i := 2) (j := 3) (sa_cons (se_var (pv 3)) (sa_cons (se_bin ops_mod (se_callTy cs_int rfl G.n_int (by with_unfolding_all rfl) (sa_cons (se_pk (pv 2)) sa_nil)) (se_pk (pv 3))) sa_nil)) rfl sc__law_divisor.nd rfl rfl (by decide) rfl rfl (by with_unfolding_all rfl))))
    (sb_one (ss_ret (se_mov (pv 2))))))
theorem cl__law_divisor_2 (G : Facts K mg T) : FnKB false P w K mg base T 1 "_law_divisor" [false, false] p__law_divisor 2 [] [0, 1] [] := ⟨G.f__law_divisor, G.m__law_divisor, G.k__law_divisor, cal_of (pi := [0, 1]) G.d__law_divisor (ok__law_divisor G) (fun _ _ _ _ _ _ us ws h1 h2 => match us, ws, h1, h2 with | [_, _], [], _, _ => rfl)⟩
theorem sc__law_draw : FnScope ["pen", "many", "digit", "at", "cell", "large", "mixed"] ["pen", "many"] (defScope s__law_draw) := ⟨rfl, rfl, rfl, by decide +kernel, rfl, by decide +kernel, by decide +kernel⟩
def b__law_draw (ds : List D) : M Flw :=
    (seqM (ifM (cmp (cmpI fun i j => decide (j < i)) (subM (pk 0) (cst (.int 2))) (cst (.int 0)))
    (seqM (setM 2 (bin modD (callB intF [(subM (pk 0) (cst (.int 2)))]) (pk 1)))
    (seqM (sixM 0 (cst (.int 2)) (bin fdvD (callB intF [(subM (pk 0) (cst (.int 2)))]) (pk 1)))
    (retM (mov 2)))) nxM)
    (seqM (setM 3 (subM (pk 0) (cst (.int 1))))
    (seqM (sixM 0 (cst (.int 1)) (bin addD (pk 3) (cst (.int 1))))
    (seqM (setM 4 (bin addD (bin mulD (cst (.int 30029)) (pk 3)) (cst (.int 59))))
    (seqM (ifM (cmp neD (subM (pk 0) (cst (.int 0))) (lstM []))
    (setM 4 (subM (subM (pk 0) (cst (.int 0))) (bin modD (callB intF [(pk 3)]) (callB lenF [(subM (pk 0) (cst (.int 0)))])))) nxM)
    (seqM (ifM (andM (cmp (cmpI fun i j => decide (i < j)) (pk 3) (callB lenF [(subM (pk 0) (cst (.int 0)))])) (cmp (cmpI fun i j => decide (j ≤ i)) (callB absF [(pk 4)]) (bin powD (cst (.int 10)) (cst (.int 18)))))
    (seqM (setM 5 (bin addD (bin mulD (cst (.int 2)) (callB absF [(pk 4)])) (callB intF [(asV (cmp (cmpI fun i j => decide (i < j)) (pk 4) (cst (.int 0))))])))
    (seqM (sixM 0 (cst (.int 2)) (bin fdvD (pk 5) (pk 1)))
    (retM (bin modD (callB intF [(pk 5)]) (pk 1))))) nxM)
    (seqM (setM 6 (bin modD (callB intF [(bin powD (bin addD (bin addD (bin modD (callB intF [(pk 4)]) (cst (.int 2147483549))) (bin mulD (cst (.int 40037)) (pk 3))) (cst (.int 41))) (cst (.int 5)))]) (cst (.int 2147483629))))
    (seqM (setM 6 (bin modD (callB intF [(bin powD (bin addD (bin addD (bin mulD (pk 6) (bin addD (bin mulD (cst (.int 2)) (pk 3)) (cst (.int 23)))) (bin mulD (bin mulD (cst (.int 50047)) (pk 3)) (pk 3))) (cst (.int 3))) (cst (.int 3)))]) (cst (.int 2147483587))))
    (retM (bin modD (callB intF [(bin fdvD (pk 6) (cst (.int 32)))]) (pk 1)))))))))))
def p__law_draw (ds : List D) : FR := fnOf [true, false] 7 (b__law_draw ds) ds
theorem ok__law_draw (G : Facts K mg T) : FnG false P w K mg base (L2.CX P w) 1 G.f__law_draw G.fd__law_draw ["pen", "many"] (spF K T [true, false] p__law_draw) :=
  fn_ok (m := b__law_draw) (Df.of_fun G.d__law_draw) sc__law_draw rfl (fun _ => .inl rfl) fun ds cdv A outer s H F vs E hgd hr tk => by
  exact (sb_cons (ss_if (st_cmp cms_gt (se_sub hr.u1 (se_pk (pv 0)) se_i) se_i) (sb_cons (ss_set (i := 2) (se_bin ops_mod (se_callTy cs_int rfl G.n_int (by with_unfolding_all rfl) (sa_cons (se_sub hr.u1 (se_pk (pv 0)) se_i) sa_nil)) (se_pk (pv 1))) sc__law_draw.nd rfl (by first | exact Or.inl rfl | exact Or.inr rfl))
    (sb_cons (ss_six (i := 0) hr.u1 (pv 0) se_i (se_bin ops_fdv (se_callTy cs_int rfl G.n_int (by with_unfolding_all rfl) (sa_cons (se_sub hr.u1 (se_pk (pv 0)) se_i) sa_nil)) (se_pk (pv 1))))
    (sb_one (ss_ret (se_mov (pv 2)))))) sb_nil)
    (sb_cons (ss_set (i := 3) (se_sub hr.u1 (se_pk (pv 0)) se_i) sc__law_draw.nd rfl (by first | exact Or.inl rfl | exact Or.inr rfl))
    (sb_cons (ss_six (i := 0) hr.u1 (pv 0) se_i (se_bin ops_add (se_pk (pv 3)) se_i))
    (sb_cons (ss_set (i := 4) (se_bin ops_add (se_bin ops_mul se_i (se_pk (pv 3))) se_i) sc__law_draw.nd rfl (by first | exact Or.inl rfl | exact Or.inr rfl))
    (sb_cons (ss_if (st_cmp (cms_ne hr.units) (se_sub hr.u1 (se_pk (pv 0)) se_i) (se_lst sa_nil)) (sb_one (ss_set (i := 4) (se_sub hr.u1 (se_sub hr.u1 (se_pk (pv 0)) se_i) (se_bin ops_mod (se_callTy cs_int rfl G.n_int (by with_unfolding_all rfl) (sa_cons (se_pk (pv 3)) sa_nil)) (se_callB (cs_len) rfl G.n_len (by with_unfolding_all rfl) (sa_cons (se_sub hr.u1 (se_pk (pv 0)) se_i) sa_nil)))) sc__law_draw.nd rfl (by first | exact Or.inl rfl | exact Or.inr rfl))) sb_nil)
    (sb_cons (ss_if (SW.t (sw_and (st_cmp cms_lt (se_pk (pv 3)) (se_callB (cs_len) rfl G.n_len (by with_unfolding_all rfl) (sa_cons (se_sub hr.u1 (se_pk (pv 0)) se_i) sa_nil))) (sw_and1 (st_cmp cms_ge (se_callB (cs_abs) rfl G.n_abs (by with_unfolding_all rfl) (sa_cons (se_pk (pv 4)) sa_nil)) (se_bin ops_pow se_i se_i))))) (sb_cons (ss_set (i := 5) (se_bin ops_add (se_bin ops_mul se_i (se_callB (cs_abs) rfl G.n_abs (by with_unfolding_all rfl) (sa_cons (se_pk (pv 4)) sa_nil))) (se_callTy cs_int rfl G.n_int (by with_unfolding_all rfl) (sa_cons (se_cmp cms_lt (se_pk (pv 4)) se_i) sa_nil))) sc__law_draw.nd rfl (by first | exact Or.inl rfl | exact Or.inr rfl))
    (sb_cons (ss_six (i := 0) hr.u1 (pv 0) se_i (se_bin ops_fdv (se_pk (pv 5)) (se_pk (pv 1))))
    (sb_one (ss_ret (se_bin ops_mod (se_callTy cs_int rfl G.n_int (by with_unfolding_all rfl) (sa_cons (se_pk (pv 5)) sa_nil)) (se_pk (pv 1))))))) sb_nil)
    (sb_cons (ss_set (i := 6) (se_bin ops_mod (se_callTy cs_int rfl G.n_int (by with_unfolding_all rfl) (sa_cons (se_bin ops_pow (se_bin ops_add (se_bin ops_add (se_bin ops_mod (se_callTy cs_int rfl G.n_int (by with_unfolding_all rfl) (sa_cons (se_pk (pv 4)) sa_nil)) se_i) (se_bin ops_mul se_i (se_pk (pv 3)))) se_i) se_i) sa_nil)) se_i) sc__law_draw.nd rfl (by first | exact Or.inl rfl | exact Or.inr rfl))
    (sb_cons (ss_set (i := 6) (se_bin ops_mod (se_callTy cs_int rfl G.n_int (by with_unfolding_all rfl) (sa_cons (se_bin ops_pow (se_bin ops_add (se_bin ops_add (se_bin ops_mul (se_pk (pv 6)) (se_bin ops_add (se_bin ops_mul se_i (se_pk (pv 3))) se_i)) (se_bin ops_mul (se_bin ops_mul se_i (se_pk (pv 3))) (se_pk (pv 3)))) se_i) se_i) sa_nil)) se_i) sc__law_draw.nd rfl (by first | exact Or.inl rfl | exact Or.inr rfl))
    (sb_one (ss_ret (se_bin ops_mod (se_callTy cs_int rfl G.n_int (by with_unfolding_all rfl) (sa_cons (se_bin ops_fdv (se_pk (pv 6)) se_i) sa_nil)) (se_pk (pv 1)))))))))))))
theorem cl__law_draw_2 (G : Facts K mg T) : FnKB false P w K mg base T 1 "_law_draw" [true, false] p__law_draw 2 [] [0, 1] [] := ⟨G.f__law_draw, G.m__law_draw, G.k__law_draw, cal_of (pi := [0, 1]) G.d__law_draw (ok__law_draw G) (fun _ _ _ _ _ _ us ws h1 h2 => match us, ws, h1, h2 with | [_, _], [], _, _ => rfl)⟩
theorem sc__law_parts : FnScope ["pen", "top", "bottom", "common"] ["pen"] (defScope s__law_parts) := ⟨rfl, rfl, rfl, by decide +kernel, rfl, by decide +kernel, by decide +kernel⟩
def b__law_parts (ds : List D) : M Flw :=
    (seqM (setM 1 (subM (lstM [(bin subI (callP [true, false] p__law_draw [0, 1] [] [(pk 0), (cst (.int 9))]) (cst (.int 4))), (bin subI (callP [true, false] p__law_draw [0, 1] [] [(pk 0), (cst (.int 1999999))]) (cst (.int 999999))), (cst (.int 0))]) (callP [true, false] p__law_draw [0, 1] [] [(pk 0), (cst (.int 3))])))
    (seqM (setM 2 (subM (lstM [(cst (.int 1)), (bin addD (cst (.int 1)) (callP [true, false] p__law_draw [0, 1] [] [(pk 0), (cst (.int 12))])), (bin addD (cst (.int 1)) (callP [true, false] p__law_draw [0, 1] [] [(pk 0), (cst (.int 1000))]))]) (callP [true, false] p__law_draw [0, 1] [] [(pk 0), (cst (.int 3))])))
    (seqM (setM 3 (callP [false, false] p__law_divisor [0, 1] [] [(var 1), (var 2)]))
    (retM (tupM [(bin fdvD (pk 1) (pk 3)), (bin fdvD (pk 2) (pk 3))])))))
def p__law_parts (ds : List D) : FR := fnOf [true] 4 (b__law_parts ds) ds
theorem ok__law_parts (G : Facts K mg T) : FnG false P w K mg base (L2.CX P w) 2 G.f__law_parts G.fd__law_parts ["pen"] (spF K T [true] p__law_parts) :=
  fn_ok (m := b__law_parts) (Df.of_fun G.d__law_parts) sc__law_parts rfl (fun _ => .inl rfl) fun ds cdv A outer s H F vs E hgd hr tk => by
  exact (sb_cons (ss_set (i := 1) (se_sub hr.u1 (se_lst (sa_cons (se_bin ops_sub (se_callP (cl__law_draw_2 G) (fun z => nomatch z) (hr.mono (by decide)) tk rfl (sk_pos (sa_cons (se_pk (pv 0)) (sa_cons se_i sa_nil)))) se_i) (sa_cons (se_bin ops_sub (se_callP (cl__law_draw_2 G) (fun z => nomatch z) (hr.mono (by decide)) tk rfl (sk_pos (sa_cons (se_pk (pv 0)) (sa_cons se_i sa_nil)))) se_i) (sa_cons se_i sa_nil)))) (se_callP (cl__law_draw_2 G) (fun z => nomatch z) (hr.mono (by decide)) tk rfl (sk_pos (sa_cons (se_pk (pv 0)) (sa_cons se_i sa_nil))))) sc__law_parts.nd rfl (by first | exact Or.inl rfl | exact Or.inr rfl))
    (sb_cons (ss_set (i := 2) (se_sub hr.u1 (se_lst (sa_cons se_i (sa_cons (se_bin ops_add se_i (se_callP (cl__law_draw_2 G) (fun z => nomatch z) (hr.mono (by decide)) tk rfl (sk_pos (sa_cons (se_pk (pv 0)) (sa_cons se_i sa_nil))))) (sa_cons (se_bin ops_add se_i (se_callP (cl__law_draw_2 G) (fun z => nomatch z) (hr.mono (by decide)) tk rfl (sk_pos (sa_cons (se_pk (pv 0)) (sa_cons se_i sa_nil))))) sa_nil)))) (se_callP (cl__law_draw_2 G) (fun z => nomatch z) (hr.mono (by decide)) tk rfl (sk_pos (sa_cons (se_pk (pv 0)) (sa_cons se_i sa_nil))))) sc__law_parts.nd rfl (by first | exact Or.inl rfl | exact Or.inr rfl))
    (sb_cons (ss_set (i := 3) (se_callP (cl__law_divisor_2 G) (fun z => nomatch z) (hr.mono (by decide)) tk rfl (sk_pos (sa_cons (se_var (pv 1)) (sa_cons (se_var (pv 2)) sa_nil)))) sc__law_parts.nd rfl (by first | exact Or.inl rfl | exact Or.inr rfl))
    (sb_one (ss_ret (se_tup (sa_cons (se_bin ops_fdv (se_pk (pv 1)) (se_pk (pv 3))) (sa_cons (se_bin ops_fdv (se_pk (pv 2)) (se_pk (pv 3))) sa_nil))))))))
theorem cl__law_parts_1 (G : Facts K mg T) : FnKB false P w K mg base T 2 "_law_parts" [true] p__law_parts 1 [] [0] [] := ⟨G.f__law_parts, G.m__law_parts, G.k__law_parts, cal_of (pi := [0]) G.d__law_parts (ok__law_parts G) (fun _ _ _ _ _ _ us ws h1 h2 => match us, ws, h1, h2 with | [_], [], _, _ => rfl)⟩
theorem sc_divisor : FnScope ["one", "other"] ["one", "other"] (defScope s_divisor) := ⟨rfl, rfl, rfl, by decide +kernel, rfl, by decide +kernel, by decide +kernel⟩
def b_divisor (ds : List D) : M Flw :=
    (seqM (whlD (cmp (cmpI fun i j => decide (j < i)) (pk 1) (cst (.int 0))) (parM 0 1 [(var 1), (bin modD (pk 0) (pk 1))]) (nat_of (ds.getD 1 .non) + 1))
    (retM (mov 0)))
def p_divisor (ds : List D) : FR := fnOf [false, false] 2 (b_divisor ds) ds
theorem ok_divisor (G : Facts K mg T) : FnG false P w K mg base (L2.CX P w) 1 G.f_divisor G.fd_divisor ["one", "other"] (spF K T [false, false] p_divisor) :=
  fn_ok (m := b_divisor) (Df.of_fun G.d_divisor) sc_divisor rfl (fun _ => .inl rfl) fun ds cdv A outer s H F vs E hgd hr tk => by
  exact (sb_cons (ss_whl (passes_of rfl) (st_cmp cms_gt (se_pk (pv 1)) se_i) (sb_one (ss_par (i := 0) (j := 1) (sa_cons (se_var (pv 1)) (sa_cons (se_bin ops_mod (se_pk (pv 0)) (se_pk (pv 1))) sa_nil)) rfl sc_divisor.nd rfl rfl (by decide) rfl rfl (by with_unfolding_all rfl))))
    (sb_one (ss_ret (se_mov (pv 0)))))
theorem cl_divisor_2 (G : Facts K mg T) : FnKB false P w K mg base T 1 "divisor" [false, false] p_divisor 2 [] [0, 1] [] := ⟨G.f_divisor, G.m_divisor, G.k_divisor, cal_of (pi := [0, 1]) G.d_divisor (ok_divisor G) (fun _ _ _ _ _ _ us ws h1 h2 => match us, ws, h1, h2 with | [_, _], [], _, _ => rfl)⟩
theorem sc_is_integer : FnScope ["value"] ["value"] (defScope s_is_integer) := ⟨rfl, rfl, rfl, by decide +kernel, rfl, by decide +kernel, by decide +kernel⟩
def b_is_integer (ds : List D) : M Flw :=
    (retM (andV (isiM (isT 2 aInt) (pk 0)) (notV (isiM (isT 2 aBool) (pk 0)))))
def p_is_integer (ds : List D) : FR := fnOf [false] 1 (b_is_integer ds) ds
theorem ok_is_integer (G : Facts K mg T) : FnG false P w K mg base (L2.CX P w) 1 G.f_is_integer G.fd_is_integer ["value"] (spF K T [false] p_is_integer) :=
  fn_ok (m := b_is_integer) (Df.of_fun G.d_is_integer) sc_is_integer rfl (fun _ => .inl rfl) fun ds cdv A outer s H F vs E hgd hr tk => by
  exact (sb_one (ss_ret (se_and (se_isi1 (isd_int G.isc_Ratio G.no_int) (se_pk (pv 0)) (pe_bltn (v := .ty "int") rfl G.n_int (by with_unfolding_all rfl) rfl) (ClsV.ty _) rfl G.n_isinstance) (se_and1 (se_not (se_isi1 (isd_bool G.isc_Ratio G.no_bool) (se_pk (pv 0)) (pe_bltn (v := .ty "bool") rfl G.n_bool (by with_unfolding_all rfl) rfl) (ClsV.ty _) rfl G.n_isinstance))))))
theorem cl_is_integer_1 (G : Facts K mg T) : FnKB false P w K mg base T 1 "is_integer" [false] p_is_integer 1 [] [0] [] := ⟨G.f_is_integer, G.m_is_integer, G.k_is_integer, cal_of (pi := [0]) G.d_is_integer (ok_is_integer G) (fun _ _ _ _ _ _ us ws h1 h2 => match us, ws, h1, h2 with | [_], [], _, _ => rfl)⟩
theorem sc_Ratioq_initq : FnScope ["self", "top", "bottom", "common"] ["self", "top", "bottom"] (defScope s_Ratioq_initq) := ⟨rfl, rfl, rfl, by decide +kernel, rfl, by decide +kernel, by decide +kernel⟩
def b_Ratioq_initq (ds : List D) : M Flw :=
    (seqM (ifM (orM (notM (tst (callP [false] p_is_integer [0] [] [(var 1)]))) (orM (notM (tst (callP [false] p_is_integer [0] [] [(var 2)]))) (cmp eqD (pk 2) (cst (.int 0)))))
    (rs0 1) nxM)
    (seqM (setM 3 (callP [false, false] p_divisor [0, 1] [] [(callB absF [(pk 1)]), (callB absF [(pk 2)])]))
    (seqM (ifM (cmp (cmpI fun i j => decide (i < j)) (pk 2) (cst (.int 0)))
    (setM 1 (un negD (pk 1))) nxM)
    (seqM (fldM 0 ix_top (bin fdvD (pk 1) (pk 3)))
    (fldM 0 ix_bottom (bin fdvD (callB absF [(pk 2)]) (pk 3)))))))
def p_Ratioq_initq (ds : List D) : FR := fnOf [true, false, false] 4 (b_Ratioq_initq ds) ds
theorem ok_Ratioq_initq (G : Facts K mg T) : FnG false P w K mg base (L2.CX P w) 2 G.f_Ratioq_initq G.fd_Ratioq_initq ["self", "top", "bottom"] (spF K T [true, false, false] p_Ratioq_initq) :=
  fn_ok (m := b_Ratioq_initq) G.d_Ratioq_initq.df sc_Ratioq_initq rfl (fun _ => .inl rfl) fun ds cdv A outer s H F vs E hgd hr tk => by
  exact (sb_cons (ss_if (SW.t (sw_or (st_not (st_val (se_callP (cl_is_integer_1 G) (fun z => nomatch z) (hr.mono (by decide)) tk rfl (sk_pos (sa_cons (se_var (pv 1)) sa_nil))))) (sw_or (st_not (st_val (se_callP (cl_is_integer_1 G) (fun z => nomatch z) (hr.mono (by decide)) tk rfl (sk_pos (sa_cons (se_var (pv 2)) sa_nil))))) (sw_or1 (st_cmp (cms_eq hr.units) (se_pk (pv 2)) se_i))))) (sb_one (ss_raise0 G.ec_InvalidRatio.toX G.m_InvalidRatio rfl rfl tk)) sb_nil)
    (sb_cons (ss_set (i := 3) (se_callP (cl_divisor_2 G) (fun z => nomatch z) (hr.mono (by decide)) tk rfl (sk_pos (sa_cons (se_callB (cs_abs) rfl G.n_abs (by with_unfolding_all rfl) (sa_cons (se_pk (pv 1)) sa_nil)) (sa_cons (se_callB (cs_abs) rfl G.n_abs (by with_unfolding_all rfl) (sa_cons (se_pk (pv 2)) sa_nil)) sa_nil)))) sc_Ratioq_initq.nd rfl (by first | exact Or.inl rfl | exact Or.inr rfl))
    (sb_cons (ss_if (st_cmp cms_lt (se_pk (pv 2)) se_i) (sb_one (ss_set (i := 1) (se_neg (se_pk (pv 1))) sc_Ratioq_initq.nd rfl (by first | exact Or.inl rfl | exact Or.inr rfl))) sb_nil)
    (sb_cons (ss_fld (i := 0) (f := (PySem.Str.ofString "top")) ⟨G.at_top⟩ (pv 0) (se_bin ops_fdv (se_pk (pv 1)) (se_pk (pv 3))))
    (sb_one (ss_fld (i := 0) (f := (PySem.Str.ofString "bottom")) ⟨G.at_bottom⟩ (pv 0) (se_bin ops_fdv (se_callB (cs_abs) rfl G.n_abs (by with_unfolding_all rfl) (sa_cons (se_pk (pv 2)) sa_nil)) (se_pk (pv 3)))))))))
theorem cl_Ratioq_initq_2 (G : Facts K mg T) : MkKB false P w K mg base T 2 2 p_Ratioq_initq 2 [] [0, 1] [(.int 1)] := ⟨G.f_Ratioq_initq, G.mk_Ratioq_initq, cal_ofD (pi := [0, 1, 2]) G.d_Ratioq_initq (ok_Ratioq_initq G) (fun _ => (RpL.cons (rpi _) RpL.nil)) (fun _ _ _ _ _ _ _ us ws its h1 h2 h3 => match us, ws, its, h1, h2, h3 with | [_, _, _], [], [_], _, _, _ => ⟨_, rfl, rfl⟩)⟩
theorem cl_Ratioq_initq_1 (G : Facts K mg T) : MkKB false P w K mg base T 2 2 p_Ratioq_initq 1 [] [0, 1] [(.int 1)] := ⟨G.f_Ratioq_initq, G.mk_Ratioq_initq, cal_ofD (pi := [0, 1, 2]) G.d_Ratioq_initq (ok_Ratioq_initq G) (fun _ => (RpL.cons (rpi _) RpL.nil)) (fun _ _ _ _ _ _ _ us ws its h1 h2 h3 => match us, ws, its, h1, h2, h3 with | [_, _], [], [_], _, _, _ => ⟨_, rfl, rfl⟩)⟩
theorem sc__law_text : FnScope ["top", "bottom"] ["top", "bottom"] (defScope s__law_text) := ⟨rfl, rfl, rfl, by decide +kernel, rfl, by decide +kernel, by decide +kernel⟩
def b__law_text (ds : List D) : M Flw :=
    (retM (ifM (cmp eqD (pk 1) (cst (.int 1))) (callB strF [(pk 0)]) (bin addD (bin addD (callB strF [(pk 0)]) (cst (.str (PySem.Str.ofString "/")))) (callB strF [(pk 1)]))))
def p__law_text (ds : List D) : FR := fnOf [false, false] 2 (b__law_text ds) ds
theorem ok__law_text (G : Facts K mg T) : FnG false P w K mg base (L2.CX P w) 1 G.f__law_text G.fd__law_text ["top", "bottom"] (spF K T [false, false] p__law_text) :=
  fn_ok (m := b__law_text) (Df.of_fun G.d__law_text) sc__law_text rfl (fun _ => .inl rfl) fun ds cdv A outer s H F vs E hgd hr tk => by
  exact (sb_one (ss_ret (se_if (st_cmp (cms_eq hr.units) (se_pk (pv 1)) se_i) (se_callTy cs_str rfl G.n_str (by with_unfolding_all rfl) (sa_cons (se_pk (pv 0)) sa_nil)) (se_bin ops_add (se_bin ops_add (se_callTy cs_str rfl G.n_str (by with_unfolding_all rfl) (sa_cons (se_pk (pv 0)) sa_nil)) se_s) (se_callTy cs_str rfl G.n_str (by with_unfolding_all rfl) (sa_cons (se_pk (pv 1)) sa_nil))))))
theorem cl__law_text_2 (G : Facts K mg T) : FnKB false P w K mg base T 1 "_law_text" [false, false] p__law_text 2 [] [0, 1] [] := ⟨G.f__law_text, G.m__law_text, G.k__law_text, cal_of (pi := [0, 1]) G.d__law_text (ok__law_text G) (fun _ _ _ _ _ _ us ws h1 h2 => match us, ws, h1, h2 with | [_, _], [], _, _ => rfl)⟩
theorem sc__law_bent : FnScope ["pen", "page", "signs", "at", "sign", "way"] ["pen", "page"] (defScope s__law_bent) := ⟨rfl, rfl, rfl, by decide +kernel, rfl, by decide +kernel, by decide +kernel⟩
def b__law_bent (ds : List D) : M Flw :=
    (seqM (setM 2 (cst (.str (PySem.Str.ofString "0123456789/-+. \n_aZ"))))
    (seqM (parM 3 4 [(callP [true, false] p__law_draw [0, 1] [] [(pk 0), (bin addD (callB lenF [(pk 1)]) (cst (.int 1)))]), (subM (pk 2) (callP [true, false] p__law_draw [0, 1] [] [(pk 0), (cst (.int 19))]))])
    (seqM (setM 5 (callP [true, false] p__law_draw [0, 1] [] [(pk 0), (cst (.int 6))]))
    (seqM (ifM (cmp eqD (pk 5) (cst (.int 0)))
    (retM (bin addD (sliM (pk 1) none (some (pk 3))) (sliM (pk 1) (some (bin addD (pk 3) (cst (.int 1)))) none))) nxM)
    (seqM (ifM (cmp eqD (pk 5) (cst (.int 1)))
    (retM (bin addD (bin addD (sliM (pk 1) none (some (pk 3))) (pk 4)) (sliM (pk 1) (some (bin addD (pk 3) (cst (.int 1)))) none))) nxM)
    (seqM (ifM (cmp eqD (pk 5) (cst (.int 2)))
    (retM (bin addD (pk 1) (sliM (pk 1) (some (pk 3)) none))) nxM)
    (seqM (ifM (cmp eqD (pk 5) (cst (.int 3)))
    (retM (subM (lstM [(bin addD (pk 1) (cst (.str (PySem.Str.ofString "/1")))), (bin addD (cst (.str (PySem.Str.ofString "-"))) (pk 1)), (bin addD (cst (.str (PySem.Str.ofString "+"))) (pk 1)), (bin addD (cst (.str (PySem.Str.ofString "0"))) (pk 1)), (bin addD (pk 1) (cst (.str (PySem.Str.ofString "\n")))), (bin addD (cst (.str (PySem.Str.ofString " "))) (pk 1))]) (callP [true, false] p__law_draw [0, 1] [] [(pk 0), (cst (.int 6))]))) nxM)
    (retM (bin addD (bin addD (sliM (pk 1) none (some (pk 3))) (pk 4)) (sliM (pk 1) (some (pk 3)) none))))))))))
def p__law_bent (ds : List D) : FR := fnOf [true, false] 6 (b__law_bent ds) ds
theorem ok__law_bent (G : Facts K mg T) : FnG false P w K mg base (L2.CX P w) 2 G.f__law_bent G.fd__law_bent ["pen", "page"] (spF K T [true, false] p__law_bent) :=
  fn_ok (m := b__law_bent) (Df.of_fun G.d__law_bent) sc__law_bent rfl (fun _ => .inl rfl) fun ds cdv A outer s H F vs E hgd hr tk => by
  exact (sb_cons (ss_set (i := 2) se_s sc__law_bent.nd rfl (by first | exact Or.inl rfl | exact Or.inr rfl))
    (sb_cons (ss_par (i := 3) (j := 4) (sa_cons (se_callP (cl__law_draw_2 G) (fun z => nomatch z) (hr.mono (by decide)) tk rfl (sk_pos (sa_cons (se_pk (pv 0)) (sa_cons (se_bin ops_add (se_callB (cs_len) rfl G.n_len (by with_unfolding_all rfl) (sa_cons (se_pk (pv 1)) sa_nil)) se_i) sa_nil)))) (sa_cons (se_sub hr.u1 (se_pk (pv 2)) (se_callP (cl__law_draw_2 G) (fun z => nomatch z) (hr.mono (by decide)) tk rfl (sk_pos (sa_cons (se_pk (pv 0)) (sa_cons se_i sa_nil))))) sa_nil)) rfl sc__law_bent.nd rfl rfl (by decide) rfl rfl (by with_unfolding_all rfl))
    (sb_cons (ss_set (i := 5) (se_callP (cl__law_draw_2 G) (fun z => nomatch z) (hr.mono (by decide)) tk rfl (sk_pos (sa_cons (se_pk (pv 0)) (sa_cons se_i sa_nil)))) sc__law_bent.nd rfl (by first | exact Or.inl rfl | exact Or.inr rfl))
    (sb_cons (ss_if (st_cmp (cms_eq hr.units) (se_pk (pv 5)) se_i) (sb_one (ss_ret (se_bin ops_add (se_sli (se_pk (pv 1)) (show SP1 _ _ _ _ none none from True.intro) (show SP1 _ _ _ _ (some _) (some _) from (se_pk (pv 3)))) (se_sli (se_pk (pv 1)) (show SP1 _ _ _ _ (some _) (some _) from (se_bin ops_add (se_pk (pv 3)) se_i)) (show SP1 _ _ _ _ none none from True.intro))))) sb_nil)
    (sb_cons (ss_if (st_cmp (cms_eq hr.units) (se_pk (pv 5)) se_i) (sb_one (ss_ret (se_bin ops_add (se_bin ops_add (se_sli (se_pk (pv 1)) (show SP1 _ _ _ _ none none from True.intro) (show SP1 _ _ _ _ (some _) (some _) from (se_pk (pv 3)))) (se_pk (pv 4))) (se_sli (se_pk (pv 1)) (show SP1 _ _ _ _ (some _) (some _) from (se_bin ops_add (se_pk (pv 3)) se_i)) (show SP1 _ _ _ _ none none from True.intro))))) sb_nil)
    (sb_cons (ss_if (st_cmp (cms_eq hr.units) (se_pk (pv 5)) se_i) (sb_one (ss_ret (se_bin ops_add (se_pk (pv 1)) (se_sli (se_pk (pv 1)) (show SP1 _ _ _ _ (some _) (some _) from (se_pk (pv 3))) (show SP1 _ _ _ _ none none from True.intro))))) sb_nil)
    (sb_cons (ss_if (st_cmp (cms_eq hr.units) (se_pk (pv 5)) se_i) (sb_one (ss_ret (se_sub hr.u1 (se_lst (sa_cons (se_bin ops_add (se_pk (pv 1)) se_s) (sa_cons (se_bin ops_add se_s (se_pk (pv 1))) (sa_cons (se_bin ops_add se_s (se_pk (pv 1))) (sa_cons (se_bin ops_add se_s (se_pk (pv 1))) (sa_cons (se_bin ops_add (se_pk (pv 1)) se_s) (sa_cons (se_bin ops_add se_s (se_pk (pv 1))) sa_nil))))))) (se_callP (cl__law_draw_2 G) (fun z => nomatch z) (hr.mono (by decide)) tk rfl (sk_pos (sa_cons (se_pk (pv 0)) (sa_cons se_i sa_nil))))))) sb_nil)
    (sb_one (ss_ret (se_bin ops_add (se_bin ops_add (se_sli (se_pk (pv 1)) (show SP1 _ _ _ _ none none from True.intro) (show SP1 _ _ _ _ (some _) (some _) from (se_pk (pv 3)))) (se_pk (pv 4))) (se_sli (se_pk (pv 1)) (show SP1 _ _ _ _ (some _) (some _) from (se_pk (pv 3))) (show SP1 _ _ _ _ none none from True.intro))))))))))))
theorem cl__law_bent_2 (G : Facts K mg T) : FnKB false P w K mg base T 2 "_law_bent" [true, false] p__law_bent 2 [] [0, 1] [] := ⟨G.f__law_bent, G.m__law_bent, G.k__law_bent, cal_of (pi := [0, 1]) G.d__law_bent (ok__law_bent G) (fun _ _ _ _ _ _ us ws h1 h2 => match us, ws, h1, h2 with | [_, _], [], _, _ => rfl)⟩
theorem sc__law_far : FnScope ["pen", "long_one", "some"] ["pen"] (defScope s__law_far) := ⟨rfl, rfl, rfl, by decide +kernel, rfl, by decide +kernel, by decide +kernel⟩
def b__law_far (ds : List D) : M Flw :=
    (seqM (setM 1 (bin mulD (cst (.str (PySem.Str.ofString "123456789"))) (cst (.int 7))))
    (seqM (setM 2 (lstM [(sliM (pk 1) none (some (cst (.int 60)))), (sliM (pk 1) none (some (cst (.int 61)))), (bin addD (cst (.str (PySem.Str.ofString "-"))) (sliM (pk 1) none (some (cst (.int 60))))), (bin addD (cst (.str (PySem.Str.ofString "-"))) (sliM (pk 1) none (some (cst (.int 61))))), (bin addD (cst (.str (PySem.Str.ofString "1/"))) (sliM (pk 1) none (some (cst (.int 60)))))]))
    (seqM (setM 2 (bin addD (pk 2) (lstM [(bin addD (cst (.str (PySem.Str.ofString "1/"))) (sliM (pk 1) none (some (cst (.int 61))))), (bin mulD (cst (.str (PySem.Str.ofString "3"))) (cst (.int 4000))), (bin addD (cst (.str (PySem.Str.ofString "1/"))) (bin mulD (cst (.str (PySem.Str.ofString "3"))) (cst (.int 3000)))), (bin addD (bin mulD (cst (.str (PySem.Str.ofString "3"))) (cst (.int 3000))) (cst (.str (PySem.Str.ofString "/7")))), (cst (.str (PySem.Str.ofString "0/7"))), (cst (.str (PySem.Str.ofString "-1/1"))), (cst (.str (PySem.Str.ofString "1//2")))])))
    (seqM (setM 2 (bin addD (pk 2) (lstM [(cst (.str (PySem.Str.ofString "1/-2"))), (cst (.str (PySem.Str.ofString "-"))), (cst (.str (PySem.Str.ofString "/"))), (cst (.str (PySem.Str.ofString "1/"))), (cst (.str (PySem.Str.ofString "/2"))), (cst (.str (PySem.Str.ofString ""))), (cst (.str (PySem.Str.ofString "2/4"))), (cst (.str (PySem.Str.ofString "6/3"))), (cst (.str (PySem.Str.ofString "0"))), (cst (.str (PySem.Str.ofString "-0"))), (cst (.str (PySem.Str.ofString "1/0"))), (cst .non), (cst (.int 7)), (cst (.bl true)), (lstM [(cst (.int 1))]), (makP 2 p_Ratioq_initq [0, 1] [(.int 1)] [(cst (.int 1)), (cst (.int 2))])])))
    (retM (subM (pk 2) (callP [true, false] p__law_draw [0, 1] [] [(pk 0), (cst (.int 28))])))))))
def p__law_far (ds : List D) : FR := fnOf [true] 3 (b__law_far ds) ds
theorem ok__law_far (G : Facts K mg T) : FnG false P w K mg base (L2.CX P w) 4 G.f__law_far G.fd__law_far ["pen"] (spF K T [true] p__law_far) :=
  fn_ok (m := b__law_far) (Df.of_fun G.d__law_far) sc__law_far rfl (fun _ => .inl rfl) fun ds cdv A outer s H F vs E hgd hr tk => by
  exact (sb_cons (ss_set (i := 1) (se_bin ops_mul se_s se_i) sc__law_far.nd rfl (by first | exact Or.inl rfl | exact Or.inr rfl))
    (sb_cons (ss_set (i := 2) (se_lst (sa_cons (se_sli (se_pk (pv 1)) (show SP1 _ _ _ _ none none from True.intro) (show SP1 _ _ _ _ (some _) (some _) from se_i)) (sa_cons (se_sli (se_pk (pv 1)) (show SP1 _ _ _ _ none none from True.intro) (show SP1 _ _ _ _ (some _) (some _) from se_i)) (sa_cons (se_bin ops_add se_s (se_sli (se_pk (pv 1)) (show SP1 _ _ _ _ none none from True.intro) (show SP1 _ _ _ _ (some _) (some _) from se_i))) (sa_cons (se_bin ops_add se_s (se_sli (se_pk (pv 1)) (show SP1 _ _ _ _ none none from True.intro) (show SP1 _ _ _ _ (some _) (some _) from se_i))) (sa_cons (se_bin ops_add se_s (se_sli (se_pk (pv 1)) (show SP1 _ _ _ _ none none from True.intro) (show SP1 _ _ _ _ (some _) (some _) from se_i))) sa_nil)))))) sc__law_far.nd rfl (by first | exact Or.inl rfl | exact Or.inr rfl))
    (sb_cons (ss_set (i := 2) (se_bin ops_add (se_pk (pv 2)) (se_lst (sa_cons (se_bin ops_add se_s (se_sli (se_pk (pv 1)) (show SP1 _ _ _ _ none none from True.intro) (show SP1 _ _ _ _ (some _) (some _) from se_i))) (sa_cons (se_bin ops_mul se_s se_i) (sa_cons (se_bin ops_add se_s (se_bin ops_mul se_s se_i)) (sa_cons (se_bin ops_add (se_bin ops_mul se_s se_i) se_s) (sa_cons se_s (sa_cons se_s (sa_cons se_s sa_nil))))))))) sc__law_far.nd rfl (by first | exact Or.inl rfl | exact Or.inr rfl))
    (sb_cons (ss_set (i := 2) (se_bin ops_add (se_pk (pv 2)) (se_lst (sa_cons se_s (sa_cons se_s (sa_cons se_s (sa_cons se_s (sa_cons se_s (sa_cons se_s (sa_cons se_s (sa_cons se_s (sa_cons se_s (sa_cons se_s (sa_cons se_s (sa_cons se_n (sa_cons se_i (sa_cons se_b (sa_cons (se_lst (sa_cons se_i sa_nil)) (sa_cons (se_make (cl_Ratioq_initq_2 G) (fun z => nomatch z) (hr.mono (by decide)) tk rfl G.m_Ratio (sk_pos (sa_cons se_i (sa_cons se_i sa_nil)))) sa_nil)))))))))))))))))) sc__law_far.nd rfl (by first | exact Or.inl rfl | exact Or.inr rfl))
    (sb_one (ss_ret (se_sub hr.u1 (se_pk (pv 2)) (se_callP (cl__law_draw_2 G) (fun z => nomatch z) (hr.mono (by decide)) tk rfl (sk_pos (sa_cons (se_pk (pv 0)) (sa_cons se_i sa_nil)))))))))))
theorem cl__law_far_1 (G : Facts K mg T) : FnKB false P w K mg base T 4 "_law_far" [true] p__law_far 1 [] [0] [] := ⟨G.f__law_far, G.m__law_far, G.k__law_far, cal_of (pi := [0]) G.d__law_far (ok__law_far G) (fun _ _ _ _ _ _ us ws h1 h2 => match us, ws, h1, h2 with | [_], [], _, _ => rfl)⟩
theorem sc_Ratioq_eqq : FnScope ["self", "other"] ["self", "other"] (defScope s_Ratioq_eqq) := ⟨rfl, rfl, rfl, by decide +kernel, rfl, by decide +kernel, by decide +kernel⟩
def b_Ratioq_eqq (ds : List D) : M Flw :=
    (seqM (ifM (notM (tst (isiM (isO 2) (pk 1))))
    (retM (cst (.bl false))) nxM)
    (retM (andV (asV (cmp eqD (attM ix_top (pk 0)) (attM ix_top (pk 1)))) (asV (cmp eqD (attM ix_bottom (pk 0)) (attM ix_bottom (pk 1)))))))
def p_Ratioq_eqq (ds : List D) : FR := fnOf [false, false] 2 (b_Ratioq_eqq ds) ds
theorem ok_Ratioq_eqq (G : Facts K mg T) : FnG false P w K mg base (L2.CX P w) 1 G.f_Ratioq_eqq G.fd_Ratioq_eqq ["self", "other"] (spF K T [false, false] p_Ratioq_eqq) :=
  fn_ok (m := b_Ratioq_eqq) (Df.of_fun G.d_Ratioq_eqq) sc_Ratioq_eqq rfl (fun _ => .inl rfl) fun ds cdv A outer s H F vs E hgd hr tk => by
  exact (sb_cons (ss_if (st_not (st_val (se_isi1 (isd_own G.isc_Ratio G.ic_Ratio G.ty_Ratio) (se_pk (pv 1)) (pe_glob (v := .ref (T.cl 2)) rfl G.m_Ratio rfl) (ClsV.own _) rfl G.n_isinstance))) (sb_one (ss_ret se_b)) sb_nil)
    (sb_one (ss_ret (se_and (se_cmp (cms_eq hr.units) (se_att (f := (PySem.Str.ofString "top")) ⟨G.at_top⟩ (se_pk (pv 0))) (se_att (f := (PySem.Str.ofString "top")) ⟨G.at_top⟩ (se_pk (pv 1)))) (se_and1 (se_cmp (cms_eq hr.units) (se_att (f := (PySem.Str.ofString "bottom")) ⟨G.at_bottom⟩ (se_pk (pv 0))) (se_att (f := (PySem.Str.ofString "bottom")) ⟨G.at_bottom⟩ (se_pk (pv 1)))))))))
theorem du_Ratioq_eqq (G : Facts K mg T) : DuKB P w K mg base T 1 2 "__eq__" 2 p_Ratioq_eqq := ⟨G.f_Ratioq_eqq, G.fi_Ratioq_eqq, G.if_Ratioq_eqq, cal_of (bs := [false, false]) (pi := [0, 1]) G.d_Ratioq_eqq (ok_Ratioq_eqq G) (fun _ _ _ _ _ _ us ws h1 h2 => match us, ws, h1, h2 with | [_, _], [], _, _ => rfl)⟩
theorem sc_Ratioq_strq : FnScope ["self"] ["self"] (defScope s_Ratioq_strq) := ⟨rfl, rfl, rfl, by decide +kernel, rfl, by decide +kernel, by decide +kernel⟩
def b_Ratioq_strq (ds : List D) : M Flw :=
    (seqM (ifM (cmp eqD (attM ix_bottom (pk 0)) (cst (.int 1)))
    (retM (callB strF [(attM ix_top (pk 0))])) nxM)
    (retM (fstM [(fmtM (attM ix_top (pk 0))), (litM (PySem.Str.ofString "/")), (fmtM (attM ix_bottom (pk 0)))])))
def p_Ratioq_strq (ds : List D) : FR := fnOf [false] 1 (b_Ratioq_strq ds) ds
theorem ok_Ratioq_strq (G : Facts K mg T) : FnG false P w K mg base (L2.CX P w) 1 G.f_Ratioq_strq G.fd_Ratioq_strq ["self"] (spF K T [false] p_Ratioq_strq) :=
  fn_ok (m := b_Ratioq_strq) (Df.of_fun G.d_Ratioq_strq) sc_Ratioq_strq rfl (fun _ => .inl rfl) fun ds cdv A outer s H F vs E hgd hr tk => by
  exact (sb_cons (ss_if (st_cmp (cms_eq hr.units) (se_att (f := (PySem.Str.ofString "bottom")) ⟨G.at_bottom⟩ (se_pk (pv 0))) se_i) (sb_one (ss_ret (se_callTy cs_str rfl G.n_str (by with_unfolding_all rfl) (sa_cons (se_att (f := (PySem.Str.ofString "top")) ⟨G.at_top⟩ (se_pk (pv 0))) sa_nil)))) sb_nil)
    (sb_one (ss_ret (se_fst (SFs.cons (sf_fmt (se_att (f := (PySem.Str.ofString "top")) ⟨G.at_top⟩ (se_pk (pv 0)))) (SFs.cons sf_lit (SFs.cons (sf_fmt (se_att (f := (PySem.Str.ofString "bottom")) ⟨G.at_bottom⟩ (se_pk (pv 0)))) SFs.nil)))))))
theorem du_Ratioq_strq (G : Facts K mg T) : DuKB P w K mg base T 1 2 "__str__" 1 p_Ratioq_strq := ⟨G.f_Ratioq_strq, G.fi_Ratioq_strq, G.if_Ratioq_strq, cal_of (bs := [false]) (pi := [0]) G.d_Ratioq_strq (ok_Ratioq_strq G) (fun _ _ _ _ _ _ us ws h1 h2 => match us, ws, h1, h2 with | [_], [], _, _ => rfl)⟩
theorem sc_Ratioq_reprq : FnScope ["self"] ["self"] (defScope s_Ratioq_reprq) := ⟨rfl, rfl, rfl, by decide +kernel, rfl, by decide +kernel, by decide +kernel⟩
def b_Ratioq_reprq (ds : List D) : M Flw :=
    (retM (fstM [(litM (PySem.Str.ofString "Ratio(")), (fmtM (attM ix_top (pk 0))), (litM (PySem.Str.ofString ", ")), (fmtM (attM ix_bottom (pk 0))), (litM (PySem.Str.ofString ")"))]))
def p_Ratioq_reprq (ds : List D) : FR := fnOf [false] 1 (b_Ratioq_reprq ds) ds
theorem ok_Ratioq_reprq (G : Facts K mg T) : FnG false P w K mg base (L2.CX P w) 1 G.f_Ratioq_reprq G.fd_Ratioq_reprq ["self"] (spF K T [false] p_Ratioq_reprq) :=
  fn_ok (m := b_Ratioq_reprq) (Df.of_fun G.d_Ratioq_reprq) sc_Ratioq_reprq rfl (fun _ => .inl rfl) fun ds cdv A outer s H F vs E hgd hr tk => by
  exact (sb_one (ss_ret (se_fst (SFs.cons sf_lit (SFs.cons (sf_fmt (se_att (f := (PySem.Str.ofString "top")) ⟨G.at_top⟩ (se_pk (pv 0)))) (SFs.cons sf_lit (SFs.cons (sf_fmt (se_att (f := (PySem.Str.ofString "bottom")) ⟨G.at_bottom⟩ (se_pk (pv 0)))) (SFs.cons sf_lit SFs.nil))))))))
theorem du_Ratioq_reprq (G : Facts K mg T) : DuKB P w K mg base T 1 2 "__repr__" 1 p_Ratioq_reprq := ⟨G.f_Ratioq_reprq, G.fi_Ratioq_reprq, G.if_Ratioq_reprq, cal_of (bs := [false]) (pi := [0]) G.d_Ratioq_reprq (ok_Ratioq_reprq G) (fun _ _ _ _ _ _ us ws h1 h2 => match us, ws, h1, h2 with | [_], [], _, _ => rfl)⟩
theorem sc_is_written : FnScope ["word", "sign"] ["word"] (defScope s_is_written) := ⟨rfl, rfl, rfl, by decide +kernel, rfl, by decide +kernel, by decide +kernel⟩
def b_is_written (ds : List D) : M Flw :=
    (seqM (ifM (orM (notM (chnM (cmpI fun i j => decide (i ≤ j)) (cmpI fun i j => decide (i ≤ j)) (cst (.int 1)) (callB lenF [(pk 0)]) (cst (.int 60)))) (andM (cmp eqD (subM (pk 0) (cst (.int 0))) (cst (.str (PySem.Str.ofString "0")))) (cmp neD (pk 0) (cst (.str (PySem.Str.ofString "0"))))))
    (retM (cst (.bl false))) nxM)
    (retM (callB allF [(lcM [1] (Tg.nm 1) (seqI (var 0)) yesM (asV (cmp inD (pk 1) (cst (.str (PySem.Str.ofString "0123456789"))))))])))
def p_is_written (ds : List D) : FR := fnOf [false] 2 (b_is_written ds) ds
theorem ok_is_written (G : Facts K mg T) : FnG false P w K mg base (L2.CX P w) 1 G.f_is_written G.fd_is_written ["word"] (spF K T [false] p_is_written) :=
  fn_ok (m := b_is_written) (Df.of_fun G.d_is_written) sc_is_written rfl (fun _ => .inl rfl) fun ds cdv A outer s H F vs E hgd hr tk => by
  exact (sb_cons (ss_if (SW.t (sw_or (st_not (st_chn cms_le cms_le se_i (se_callB (cs_len) rfl G.n_len (by with_unfolding_all rfl) (sa_cons (se_pk (pv 0)) sa_nil)) (se_gi G.g_MOST_FIGURES))) (sw_or1 (SW.t (sw_and (st_cmp (cms_eq hr.units) (se_sub hr.u1 (se_pk (pv 0)) se_i) se_s) (sw_and1 (st_cmp (cms_ne hr.units) (se_pk (pv 0)) se_s))))))) (sb_one (ss_ret se_b)) sb_nil)
    (sb_one (ss_ret (se_callB (cs_all rfl) rfl G.n_all (by with_unfolding_all rfl) (sa_cons (se_lc rfl sc_is_written.nd (own := [((PySem.Str.ofString "sign"), 1)]) (si_seq (se_var (pv 0))) (show BlkOk (["word", "sign"] : List Str) (defScope s_is_written) _ _ from by exact ⟨rfl, by decide +kernel, by decide +kernel, by decide +kernel, by decide +kernel⟩) ⟨fun s H C cl fp => (stg_nm sc_is_written.nd (i := 1) rfl (by first | exact Or.inl rfl | exact Or.inr rfl)), fun s H C cl fp c => sc_nil, fun s H C cl fp c => (se_cmp cms_in (se_pk (pv 1)) (se_gs G.g_FIGURES))⟩ (by decide)) sa_nil)))))
theorem cl_is_written_1 (G : Facts K mg T) : FnKB false P w K mg base T 1 "is_written" [false] p_is_written 1 [] [0] [] := ⟨G.f_is_written, G.m_is_written, G.k_is_written, cal_of (pi := [0]) G.d_is_written (ok_is_written G) (fun _ _ _ _ _ _ us ws h1 h2 => match us, ws, h1, h2 with | [_], [], _, _ => rfl)⟩
theorem sc_is_ratio_text : FnScope ["text", "top", "slash", "bottom"] ["text"] (defScope s_is_ratio_text) := ⟨rfl, rfl, rfl, by decide +kernel, rfl, by decide +kernel, by decide +kernel⟩
def b_is_ratio_text (ds : List D) : M Flw :=
    (seqM (unpM [1, 2, 3] (mthM "str" partD (pk 0) [(cst (.str (PySem.Str.ofString "/")))]))
    (seqM (ifM (andM (cmp eqD (pk 2) (cst (.str (PySem.Str.ofString "/")))) (orM (notM (tst (callP [false] p_is_written [0] [] [(var 3)]))) (cmp inD (pk 3) (tupM [(cst (.str (PySem.Str.ofString "0"))), (cst (.str (PySem.Str.ofString "1")))]))))
    (retM (cst (.bl false))) nxM)
    (seqM (ifM (cmp eqD (sliM (pk 1) none (some (cst (.int 1)))) (cst (.str (PySem.Str.ofString "-"))))
    (retM (andV (callP [false] p_is_written [0] [] [(sliM (pk 1) (some (cst (.int 1))) none)]) (asV (cmp neD (pk 1) (cst (.str (PySem.Str.ofString "-0"))))))) nxM)
    (retM (callP [false] p_is_written [0] [] [(var 1)])))))
def p_is_ratio_text (ds : List D) : FR := fnOf [false] 4 (b_is_ratio_text ds) ds
theorem ok_is_ratio_text (G : Facts K mg T) : FnG false P w K mg base (L2.CX P w) 2 G.f_is_ratio_text G.fd_is_ratio_text ["text"] (spF K T [false] p_is_ratio_text) :=
  fn_ok (m := b_is_ratio_text) (Df.of_fun G.d_is_ratio_text) sc_is_ratio_text rfl (fun _ => .inl rfl) fun ds cdv A outer s H F vs E hgd hr tk => by
  exact (sb_cons (ss_unp (se_mth ms_partition PySem.F.plainAttrs_str PySem.F.slot_str_partition PySem.F.type_str_partition (se_pk (pv 0)) (sa_cons se_s sa_nil)) rfl (sts_cons sc_is_ratio_text.nd (i := 1) rfl (by first | exact Or.inl rfl | exact Or.inr rfl) (sts_cons sc_is_ratio_text.nd (i := 2) rfl (by first | exact Or.inl rfl | exact Or.inr rfl) (sts_cons sc_is_ratio_text.nd (i := 3) rfl (by first | exact Or.inl rfl | exact Or.inr rfl) sts_nil))) rfl)
    (sb_cons (ss_if (SW.t (sw_and (st_cmp (cms_eq hr.units) (se_pk (pv 2)) se_s) (sw_and1 (SW.t (sw_or (st_not (st_val (se_callP (cl_is_written_1 G) (fun z => nomatch z) (hr.mono (by decide)) tk rfl (sk_pos (sa_cons (se_var (pv 3)) sa_nil))))) (sw_or1 (st_cmp cms_in (se_pk (pv 3)) (se_tup (sa_cons se_s (sa_cons se_s sa_nil)))))))))) (sb_one (ss_ret se_b)) sb_nil)
    (sb_cons (ss_if (st_cmp (cms_eq hr.units) (se_sli (se_pk (pv 1)) (show SP1 _ _ _ _ none none from True.intro) (show SP1 _ _ _ _ (some _) (some _) from se_i)) se_s) (sb_one (ss_ret (se_and (se_callP (cl_is_written_1 G) (fun z => nomatch z) (hr.mono (by decide)) tk rfl (sk_pos (sa_cons (se_sli (se_pk (pv 1)) (show SP1 _ _ _ _ (some _) (some _) from se_i) (show SP1 _ _ _ _ none none from True.intro)) sa_nil))) (se_and1 (se_cmp (cms_ne hr.units) (se_pk (pv 1)) se_s))))) sb_nil)
    (sb_one (ss_ret (se_callP (cl_is_written_1 G) (fun z => nomatch z) (hr.mono (by decide)) tk rfl (sk_pos (sa_cons (se_var (pv 1)) sa_nil))))))))
theorem cl_is_ratio_text_1 (G : Facts K mg T) : FnKB false P w K mg base T 2 "is_ratio_text" [false] p_is_ratio_text 1 [] [0] [] := ⟨G.f_is_ratio_text, G.m_is_ratio_text, G.k_is_ratio_text, cal_of (pi := [0]) G.d_is_ratio_text (ok_is_ratio_text G) (fun _ _ _ _ _ _ us ws h1 h2 => match us, ws, h1, h2 with | [_], [], _, _ => rfl)⟩
theorem sc_Ratio_read : FnScope ["cls", "text", "top", "slash", "bottom", "found"] ["cls", "text"] (defScope s_Ratio_read) := ⟨rfl, rfl, rfl, by decide +kernel, rfl, by decide +kernel, by decide +kernel⟩
def b_Ratio_read (ds : List D) : M Flw :=
    (seqM (ifM (orM (notM (tst (isiM (isT 2 aStr) (pk 1)))) (notM (tst (callP [false] p_is_ratio_text [0] [] [(var 1)]))))
    (rs0 1) nxM)
    (seqM (unpM [2, 3, 4] (mthM "str" partD (pk 1) [(cst (.str (PySem.Str.ofString "/")))]))
    (seqM (setM 5 (makL 0 2 p_Ratioq_initq [0, 1] [(.int 1)] [(callB intF [(pk 2)]), (ifM (cmp eqD (pk 3) (cst (.str (PySem.Str.ofString "/")))) (callB intF [(pk 4)]) (cst (.int 1)))]))
    (seqM (ifM (cmp neD (callB (ostrF 2 p_Ratioq_strq) [(pk 5)]) (pk 1))
    (rs0 1) nxM)
    (retM (mov 5))))))
def p_Ratio_read (ds : List D) : FR := fnOf [false, false] 6 (b_Ratio_read ds) ds
theorem ok_Ratio_read (G : Facts K mg T) : FnG false P w K mg base (L2.CX P w) 4 G.f_Ratio_read G.fd_Ratio_read ["cls", "text"] (spF K T [false, false] p_Ratio_read) :=
  fn_ok (m := b_Ratio_read) (Df.of_fun G.d_Ratio_read) sc_Ratio_read rfl (fun _ => .inl rfl) fun ds cdv A outer s H F vs E hgd hr tk => by
  exact (sb_cons (ss_if (SW.t (sw_or (st_not (st_val (se_isi1 (isd_str G.isc_Ratio G.no_str) (se_pk (pv 1)) (pe_bltn (v := .ty "str") rfl G.n_str (by with_unfolding_all rfl) rfl) (ClsV.ty _) rfl G.n_isinstance))) (sw_or1 (st_not (st_val (se_callP (cl_is_ratio_text_1 G) (fun z => nomatch z) (hr.mono (by decide)) tk rfl (sk_pos (sa_cons (se_var (pv 1)) sa_nil)))))))) (sb_one (ss_raise0 G.ec_InvalidRatio.toX G.m_InvalidRatio rfl rfl tk)) sb_nil)
    (sb_cons (ss_unp (se_mth ms_partition PySem.F.plainAttrs_str PySem.F.slot_str_partition PySem.F.type_str_partition (se_pk (pv 1)) (sa_cons se_s sa_nil)) rfl (sts_cons sc_Ratio_read.nd (i := 2) rfl (by first | exact Or.inl rfl | exact Or.inr rfl) (sts_cons sc_Ratio_read.nd (i := 3) rfl (by first | exact Or.inl rfl | exact Or.inr rfl) (sts_cons sc_Ratio_read.nd (i := 4) rfl (by first | exact Or.inl rfl | exact Or.inr rfl) sts_nil))) rfl)
    (sb_cons (ss_set (i := 5) (se_makeL (i := 0) (cl_Ratioq_initq_2 G) (fun z => nomatch z) (hr.mono (by decide)) tk rfl (Or.inl rfl) (sk_pos (sa_cons (se_callTy cs_int rfl G.n_int (by with_unfolding_all rfl) (sa_cons (se_pk (pv 2)) sa_nil)) (sa_cons (se_if (st_cmp (cms_eq hr.units) (se_pk (pv 3)) se_s) (se_callTy cs_int rfl G.n_int (by with_unfolding_all rfl) (sa_cons (se_pk (pv 4)) sa_nil)) se_i) sa_nil)))) sc_Ratio_read.nd rfl (by first | exact Or.inl rfl | exact Or.inr rfl))
    (sb_cons (ss_if (st_cmp (cms_ne hr.units) (se_callTy (cs_ostr (du_Ratioq_strq G) (hr.mono (by decide)) tk) rfl G.n_str (by with_unfolding_all rfl) (sa_cons (se_pk (pv 5)) sa_nil)) (se_pk (pv 1))) (sb_one (ss_raise0 G.ec_InvalidRatio.toX G.m_InvalidRatio rfl rfl tk)) sb_nil)
    (sb_one (ss_ret (se_mov (pv 5))))))))
theorem cl_Ratio_read_1 (G : Facts K mg T) : CmKB false P w K mg base T 4 2 "read" [false, false] p_Ratio_read 1 [] [0, 1] [] := let ⟨mc, q, h1, h2⟩ := G.cm_Ratio_read; ⟨mc, q, G.f_Ratio_read, h1, h2, cal_of (pi := [0, 1]) G.d_Ratio_read (ok_Ratio_read G) (fun _ _ _ _ _ _ us ws h1 h2 => match us, ws, h1, h2 with | [_, _], [], _, _ => rfl)⟩
theorem cl_Ratio_read_0_text (G : Facts K mg T) : CmKB false P w K mg base T 4 2 "read" [false, false] p_Ratio_read 0 ["text"] [0, 1] [] := let ⟨mc, q, h1, h2⟩ := G.cm_Ratio_read; ⟨mc, q, G.f_Ratio_read, h1, h2, cal_of (pi := [0, 1]) G.d_Ratio_read (ok_Ratio_read G) (fun _ _ _ _ _ _ us ws h1 h2 => match us, ws, h1, h2 with | [_], [_], _, _ => rfl)⟩
theorem sc__law_told : FnScope ["value", "found", "error"] ["value"] (defScope s__law_told) := ⟨rfl, rfl, rfl, by decide +kernel, rfl, by decide +kernel, by decide +kernel⟩
def b__law_told (ds : List D) : M Flw :=
    (seqM (tryM 2 ct_InvalidRatio (setM 1 (cmetP 2 [false, false] p_Ratio_read [0, 1] [] (cst (.cls 2)) [(var 0)])) (fun e => (retM (ifM (andM (tst (iseM 2 ie_FaceError e)) (tst (iseM 2 ie_ValueError e))) (cst .non) (cst (.str (PySem.Str.ofString "odd")))))))
    (retM (ifM (tst (isiM (isO 2) (pk 1))) (tupM [(attM ix_top (pk 1)), (attM ix_bottom (pk 1))]) (cst (.str (PySem.Str.ofString "odd"))))))
def p__law_told (ds : List D) : FR := fnOf [false] 3 (b__law_told ds) ds
theorem ok__law_told (G : Facts K mg T) : FnG false P w K mg base (L2.CX P w) 5 G.f__law_told G.fd__law_told ["value"] (spF K T [false] p__law_told) :=
  fn_ok (m := b__law_told) (Df.of_fun G.d__law_told) sc__law_told rfl (fun _ => .inl rfl) fun ds cdv A outer s H F vs E hgd hr tk => by
  exact (sb_cons (ss_try_as (i := 2) rfl rfl sc__law_told.nd rfl rfl ⟨rfl, by decide, Or.inl G.m_InvalidRatio⟩ tk G.ct_InvalidRatio (fun W' pn xe tk' po => (sb_one (ss_set (i := 1) (se_cmet (cl_Ratio_read_1 G) (fun z => nomatch z) (hr.mono (by decide)) tk' (se_gc G.m_Ratio) (sk_pos (sa_cons (se_var (pv 0)) sa_nil))) sc__law_told.nd rfl (by first | exact Or.inl rfl | exact Or.inr rfl)))) (fun e a oe dd pn F1 hz hd xr => (sb_one (ss_ret (se_if (SW.t (sw_and (st_val (se_ise (f := ie_FaceError) ⟨G.ise_FaceError⟩ hz hd xr (pv 2) (pe_glob (v := .ref (T.cl 0)) rfl G.m_FaceError rfl) (ClsV.own _) rfl G.n_isinstance)) (sw_and1 (st_val (se_ise (f := ie_ValueError) ⟨G.ise_ValueError⟩ hz hd xr (pv 2) (pe_bltn (v := .ty "ValueError") rfl G.n_ValueError (by with_unfolding_all rfl) rfl) (ClsV.ty _) rfl G.n_isinstance))))) se_n se_s)))))
    (sb_one (ss_ret (se_if (st_val (se_isi1 (isd_own G.isc_Ratio G.ic_Ratio G.ty_Ratio) (se_pk (pv 1)) (pe_glob (v := .ref (T.cl 2)) rfl G.m_Ratio rfl) (ClsV.own _) rfl G.n_isinstance)) (se_tup (sa_cons (se_att (f := (PySem.Str.ofString "top")) ⟨G.at_top⟩ (se_pk (pv 1))) (sa_cons (se_att (f := (PySem.Str.ofString "bottom")) ⟨G.at_bottom⟩ (se_pk (pv 1))) sa_nil))) se_s))))
theorem cl__law_told_1 (G : Facts K mg T) : FnKB false P w K mg base T 5 "_law_told" [false] p__law_told 1 [] [0] [] := ⟨G.f__law_told, G.m__law_told, G.k__law_told, cal_of (pi := [0]) G.d__law_told (ok__law_told G) (fun _ _ _ _ _ _ us ws h1 h2 => match us, ws, h1, h2 with | [_], [], _, _ => rfl)⟩
theorem sc__law_whole : FnScope ["word", "sign"] ["word"] (defScope s__law_whole) := ⟨rfl, rfl, rfl, by decide +kernel, rfl, by decide +kernel, by decide +kernel⟩
def b__law_whole (ds : List D) : M Flw :=
    (seqM (ifM (orM (cmp eqD (pk 0) (cst (.str (PySem.Str.ofString "")))) (orM (cmp (cmpI fun i j => decide (j < i)) (callB lenF [(pk 0)]) (cst (.int 60))) (cmp neD (lcM [1] (Tg.nm 1) (seqI (var 0)) (cmp ninD (pk 1) (cst (.str (PySem.Str.ofString "0123456789")))) (var 1)) (lstM []))))
    (retM (cst (.bl false))) nxM)
    (retM (orV (asV (cmp eqD (pk 0) (cst (.str (PySem.Str.ofString "0"))))) (asV (cmp neD (subM (pk 0) (cst (.int 0))) (cst (.str (PySem.Str.ofString "0"))))))))
def p__law_whole (ds : List D) : FR := fnOf [false] 2 (b__law_whole ds) ds
theorem ok__law_whole (G : Facts K mg T) : FnG false P w K mg base (L2.CX P w) 1 G.f__law_whole G.fd__law_whole ["word"] (spF K T [false] p__law_whole) :=
  fn_ok (m := b__law_whole) (Df.of_fun G.d__law_whole) sc__law_whole rfl (fun _ => .inl rfl) fun ds cdv A outer s H F vs E hgd hr tk => by
  exact (sb_cons (ss_if (SW.t (sw_or (st_cmp (cms_eq hr.units) (se_pk (pv 0)) se_s) (sw_or (st_cmp cms_gt (se_callB (cs_len) rfl G.n_len (by with_unfolding_all rfl) (sa_cons (se_pk (pv 0)) sa_nil)) se_i) (sw_or1 (st_cmp (cms_ne hr.units) (se_lc rfl sc__law_whole.nd (own := [((PySem.Str.ofString "sign"), 1)]) (si_seq (se_var (pv 0))) (show BlkOk (["word", "sign"] : List Str) (defScope s__law_whole) _ _ from by exact ⟨rfl, by decide +kernel, by decide +kernel, by decide +kernel, by decide +kernel⟩) ⟨fun s H C cl fp => (stg_nm sc__law_whole.nd (i := 1) rfl (by first | exact Or.inl rfl | exact Or.inr rfl)), fun s H C cl fp c => (sc_one (st_cmp cms_nin (se_pk (pv 1)) se_s)), fun s H C cl fp c => (se_var (pv 1))⟩ (by decide)) (se_lst sa_nil)))))) (sb_one (ss_ret se_b)) sb_nil)
    (sb_one (ss_ret (se_or (se_cmp (cms_eq hr.units) (se_pk (pv 0)) se_s) (se_and1 (se_cmp (cms_ne hr.units) (se_sub hr.u1 (se_pk (pv 0)) se_i) se_s))))))
theorem cl__law_whole_1 (G : Facts K mg T) : FnKB false P w K mg base T 1 "_law_whole" [false] p__law_whole 1 [] [0] [] := ⟨G.f__law_whole, G.m__law_whole, G.k__law_whole, cal_of (pi := [0]) G.d__law_whole (ok__law_whole G) (fun _ _ _ _ _ _ us ws h1 h2 => match us, ws, h1, h2 with | [_], [], _, _ => rfl)⟩
theorem sc__law_read : FnScope ["value", "words", "top"] ["value"] (defScope s__law_read) := ⟨rfl, rfl, rfl, by decide +kernel, rfl, by decide +kernel, by decide +kernel⟩
def b__law_read (ds : List D) : M Flw :=
    (seqM (ifM (notM (tst (isiM (isT 2 aStr) (pk 0))))
    (retM (cst .non)) nxM)
    (seqM (setM 1 (mthM "str" splitD (pk 0) [(cst (.str (PySem.Str.ofString "/")))]))
    (seqM (setM 2 (ifM (cmp eqD (sliM (subM (pk 1) (cst (.int 0))) none (some (cst (.int 1)))) (cst (.str (PySem.Str.ofString "-")))) (sliM (subM (pk 1) (cst (.int 0))) (some (cst (.int 1))) none) (subM (pk 1) (cst (.int 0)))))
    (seqM (ifM (orM (cmp (cmpI fun i j => decide (j < i)) (callB lenF [(pk 1)]) (cst (.int 2))) (orM (notM (tst (callP [false] p__law_whole [0] [] [(var 2)]))) (cmp eqD (subM (pk 1) (cst (.int 0))) (cst (.str (PySem.Str.ofString "-0"))))))
    (retM (cst .non)) nxM)
    (seqM (ifM (cmp eqD (callB lenF [(pk 1)]) (cst (.int 1)))
    (retM (tupM [(callB intF [(subM (pk 1) (cst (.int 0)))]), (cst (.int 1))])) nxM)
    (seqM (ifM (orM (notM (tst (callP [false] p__law_whole [0] [] [(subM (pk 1) (cst (.int 1)))]))) (cmp inD (subM (pk 1) (cst (.int 1))) (tupM [(cst (.str (PySem.Str.ofString "0"))), (cst (.str (PySem.Str.ofString "1")))])))
    (retM (cst .non)) nxM)
    (seqM (ifM (cmp neD (callP [false, false] p__law_divisor [0, 1] [] [(callB intF [(subM (pk 1) (cst (.int 0)))]), (callB intF [(subM (pk 1) (cst (.int 1)))])]) (cst (.int 1)))
    (retM (cst .non)) nxM)
    (retM (tupM [(callB intF [(subM (pk 1) (cst (.int 0)))]), (callB intF [(subM (pk 1) (cst (.int 1)))])])))))))))
def p__law_read (ds : List D) : FR := fnOf [false] 3 (b__law_read ds) ds
theorem ok__law_read (G : Facts K mg T) : FnG false P w K mg base (L2.CX P w) 2 G.f__law_read G.fd__law_read ["value"] (spF K T [false] p__law_read) :=
  fn_ok (m := b__law_read) (Df.of_fun G.d__law_read) sc__law_read rfl (fun _ => .inl rfl) fun ds cdv A outer s H F vs E hgd hr tk => by
  exact (sb_cons (ss_if (st_not (st_val (se_isi1 (isd_str G.isc_Ratio G.no_str) (se_pk (pv 0)) (pe_bltn (v := .ty "str") rfl G.n_str (by with_unfolding_all rfl) rfl) (ClsV.ty _) rfl G.n_isinstance))) (sb_one (ss_ret se_n)) sb_nil)
    (sb_cons (ss_set (i := 1) (se_mth ms_split PySem.F.plainAttrs_str PySem.F.slot_str_split PySem.F.type_str_split (se_pk (pv 0)) (sa_cons se_s sa_nil)) sc__law_read.nd rfl (by first | exact Or.inl rfl | exact Or.inr rfl))
    (sb_cons (ss_set (i := 2) (se_if (st_cmp (cms_eq hr.units) (se_sli (se_sub hr.u1 (se_pk (pv 1)) se_i) (show SP1 _ _ _ _ none none from True.intro) (show SP1 _ _ _ _ (some _) (some _) from se_i)) se_s) (se_sli (se_sub hr.u1 (se_pk (pv 1)) se_i) (show SP1 _ _ _ _ (some _) (some _) from se_i) (show SP1 _ _ _ _ none none from True.intro)) (se_sub hr.u1 (se_pk (pv 1)) se_i)) sc__law_read.nd rfl (by first | exact Or.inl rfl | exact Or.inr rfl))
    (sb_cons (ss_if (SW.t (sw_or (st_cmp cms_gt (se_callB (cs_len) rfl G.n_len (by with_unfolding_all rfl) (sa_cons (se_pk (pv 1)) sa_nil)) se_i) (sw_or (st_not (st_val (se_callP (cl__law_whole_1 G) (fun z => nomatch z) (hr.mono (by decide)) tk rfl (sk_pos (sa_cons (se_var (pv 2)) sa_nil))))) (sw_or1 (st_cmp (cms_eq hr.units) (se_sub hr.u1 (se_pk (pv 1)) se_i) se_s))))) (sb_one (ss_ret se_n)) sb_nil)
    (sb_cons (ss_if (st_cmp (cms_eq hr.units) (se_callB (cs_len) rfl G.n_len (by with_unfolding_all rfl) (sa_cons (se_pk (pv 1)) sa_nil)) se_i) (sb_one (ss_ret (se_tup (sa_cons (se_callTy cs_int rfl G.n_int (by with_unfolding_all rfl) (sa_cons (se_sub hr.u1 (se_pk (pv 1)) se_i) sa_nil)) (sa_cons se_i sa_nil))))) sb_nil)
    (sb_cons (ss_if (SW.t (sw_or (st_not (st_val (se_callP (cl__law_whole_1 G) (fun z => nomatch z) (hr.mono (by decide)) tk rfl (sk_pos (sa_cons (se_sub hr.u1 (se_pk (pv 1)) se_i) sa_nil))))) (sw_or1 (st_cmp cms_in (se_sub hr.u1 (se_pk (pv 1)) se_i) (se_tup (sa_cons se_s (sa_cons se_s sa_nil))))))) (sb_one (ss_ret se_n)) sb_nil)
    (sb_cons (ss_if (st_cmp (cms_ne hr.units) (se_callP (cl__law_divisor_2 G) (fun z => nomatch z) (hr.mono (by decide)) tk rfl (sk_pos (sa_cons (se_callTy cs_int rfl G.n_int (by with_unfolding_all rfl) (sa_cons (se_sub hr.u1 (se_pk (pv 1)) se_i) sa_nil)) (sa_cons (se_callTy cs_int rfl G.n_int (by with_unfolding_all rfl) (sa_cons (se_sub hr.u1 (se_pk (pv 1)) se_i) sa_nil)) sa_nil)))) se_i) (sb_one (ss_ret se_n)) sb_nil)
    (sb_one (ss_ret (se_tup (sa_cons (se_callTy cs_int rfl G.n_int (by with_unfolding_all rfl) (sa_cons (se_sub hr.u1 (se_pk (pv 1)) se_i) sa_nil)) (sa_cons (se_callTy cs_int rfl G.n_int (by with_unfolding_all rfl) (sa_cons (se_sub hr.u1 (se_pk (pv 1)) se_i) sa_nil)) sa_nil))))))))))))
theorem cl__law_read_1 (G : Facts K mg T) : FnKB false P w K mg base T 2 "_law_read" [false] p__law_read 1 [] [0] [] := ⟨G.f__law_read, G.m__law_read, G.k__law_read, cal_of (pi := [0]) G.d__law_read (ok__law_read G) (fun _ _ _ _ _ _ us ws h1 h2 => match us, ws, h1, h2 with | [_], [], _, _ => rfl)⟩
theorem sc__law_part_one : FnScope ["script", "pen", "turn", "top", "bottom", "number", "due", "values", "value"] ["script"] (defScope s__law_part_one) := ⟨rfl, rfl, rfl, by decide +kernel, rfl, by decide +kernel, by decide +kernel⟩
def b__law_part_one (ds : List D) : M Flw :=
    (seqM (setM 1 (callP [false] p__law_pen [0] [] [(var 0)]))
    (seqM (forM (Tg.nm 2) (rngI rngD1 [(cst (.int 8))])
    (seqM (unpM [3, 4] (callP [true] p__law_parts [0] [] [(pk 1)]))
    (seqM (parM 5 6 [(makP 2 p_Ratioq_initq [0, 1] [(.int 1)] [(var 3), (var 4)]), (callP [false, false] p__law_text [0, 1] [] [(var 3), (var 4)])])
    (seqM (ifM (orM (cmp neD (callB (ostrF 2 p_Ratioq_strq) [(pk 5)]) (pk 6)) (cmp neD (callB (reprF (insG 2 p_Ratioq_reprq)) [(pk 5)]) (bin addD (bin addD (bin addD (bin addD (cst (.str (PySem.Str.ofString "Ratio("))) (callB strF [(pk 3)])) (cst (.str (PySem.Str.ofString ", ")))) (callB strF [(pk 4)])) (cst (.str (PySem.Str.ofString ")"))))))
    (retM (cst (.bl false))) nxM)
    (seqM (setM 7 (lstM [(var 6), (callP [true, false] p__law_bent [0, 1] [] [(pk 1), (var 6)]), (callP [true] p__law_far [0] [] [(pk 1)])]))
    (seqM (dropM (mutM 7 "list" appD [(callP [true, false] p__law_bent [0, 1] [] [(pk 1), (subM (pk 7) (cst (.int 1)))])]))
    (seqM (forM (Tg.nm 8) (seqI (var 7))
    (ifM (cmp neD (callB (reprF noG) [(callP [false] p__law_told [0] [] [(var 8)])]) (callB (reprF noG) [(callP [false] p__law_read [0] [] [(var 8)])]))
    (retM (cst (.bl false))) nxM))
    (ifM (orM (cmp (oneD 2 p_Ratioq_eqq) (cmetP 2 [false, false] p_Ratio_read [0, 1] [] (cst (.cls 2)) [(var 6)]) (pk 5)) (cmp neD (callB (ostrF 2 p_Ratioq_strq) [(pk 5)]) (pk 6)))
    (retM (cst (.bl false))) nxM))))))))
    (retM (cst (.bl true)))))
def p__law_part_one (ds : List D) : FR := fnOf [false] 9 (b__law_part_one ds) ds
theorem ok__law_part_one (G : Facts K mg T) : FnG true P w K mg base (L2.CX P w) 13 G.f__law_part_one G.fd__law_part_one ["script"] (spF K T [false] p__law_part_one) :=
  fn_ok (m := b__law_part_one) (Df.of_fun G.d__law_part_one) sc__law_part_one rfl (fun _ => .inl rfl) fun ds cdv A outer s H F vs E hgd hr tk => by
  exact (sb_cons (ss_set (i := 1) (se_callP (cl__law_pen_1 G) (fun z => nomatch z) (hr.mono (by decide)) tk rfl (sk_pos (sa_cons (se_var (pv 0)) sa_nil))) sc__law_part_one.nd rfl (by first | exact Or.inl rfl | exact Or.inr rfl))
    (sb_cons (ss_for (passes_of rfl) rfl (si_rng1 (sa_cons se_i sa_nil) rfl G.n_range) (stg_nm sc__law_part_one.nd (i := 2) rfl (by first | exact Or.inl rfl | exact Or.inr rfl)) (sb_cons (ss_unp (se_callP (cl__law_parts_1 G) (fun z => nomatch z) (hr.mono (by decide)) tk rfl (sk_pos (sa_cons (se_pk (pv 1)) sa_nil))) rfl (sts_cons sc__law_part_one.nd (i := 3) rfl (by first | exact Or.inl rfl | exact Or.inr rfl) (sts_cons sc__law_part_one.nd (i := 4) rfl (by first | exact Or.inl rfl | exact Or.inr rfl) sts_nil)) rfl)
    (sb_cons (ss_par (i := 5) (j := 6) (sa_cons (se_make (cl_Ratioq_initq_2 G) (fun z => nomatch z) (hr.mono (by decide)) tk rfl G.m_Ratio (sk_pos (sa_cons (se_var (pv 3)) (sa_cons (se_var (pv 4)) sa_nil)))) (sa_cons (se_callP (cl__law_text_2 G) (fun z => nomatch z) (hr.mono (by decide)) tk rfl (sk_pos (sa_cons (se_var (pv 3)) (sa_cons (se_var (pv 4)) sa_nil)))) sa_nil)) rfl sc__law_part_one.nd rfl rfl (by decide) rfl rfl (by with_unfolding_all rfl))
    (sb_cons (ss_if (SW.t (sw_or (st_cmp (cms_ne hr.units) (se_callTy (cs_ostr (du_Ratioq_strq G) (hr.mono (by decide)) tk) rfl G.n_str (by with_unfolding_all rfl) (sa_cons (se_pk (pv 5)) sa_nil)) (se_pk (pv 6))) (sw_or1 (st_cmp (cms_ne hr.units) (se_callB (cs_repr (rpc_ins (du_Ratioq_reprq G) tk) (hr.mono (by decide)) (hgd rfl)) rfl G.n_repr (by with_unfolding_all rfl) (sa_cons (se_pk (pv 5)) sa_nil)) (se_bin ops_add (se_bin ops_add (se_bin ops_add (se_bin ops_add se_s (se_callTy cs_str rfl G.n_str (by with_unfolding_all rfl) (sa_cons (se_pk (pv 3)) sa_nil))) se_s) (se_callTy cs_str rfl G.n_str (by with_unfolding_all rfl) (sa_cons (se_pk (pv 4)) sa_nil))) se_s))))) (sb_one (ss_ret se_b)) sb_nil)
    (sb_cons (ss_set (i := 7) (se_lst (sa_cons (se_var (pv 6)) (sa_cons (se_callP (cl__law_bent_2 G) (fun z => nomatch z) (hr.mono (by decide)) tk rfl (sk_pos (sa_cons (se_pk (pv 1)) (sa_cons (se_var (pv 6)) sa_nil)))) (sa_cons (se_callP (cl__law_far_1 G) (fun z => nomatch z) (hr.mono (by decide)) tk rfl (sk_pos (sa_cons (se_pk (pv 1)) sa_nil))) sa_nil)))) sc__law_part_one.nd rfl (by first | exact Or.inl rfl | exact Or.inr rfl))
    (sb_cons (ss_expr (se_mut (i := 7) mu_append PySem.F.plainAttrs_list PySem.F.slot_list_append PySem.F.type_list_append (pv 7) (sa_cons (se_callP (cl__law_bent_2 G) (fun z => nomatch z) (hr.mono (by decide)) tk rfl (sk_pos (sa_cons (se_pk (pv 1)) (sa_cons (se_sub hr.u1 (se_pk (pv 7)) se_i) sa_nil)))) sa_nil)))
    (sb_cons (ss_for (passes_of rfl) rfl (si_seq (se_var (pv 7))) (stg_nm sc__law_part_one.nd (i := 8) rfl (by first | exact Or.inl rfl | exact Or.inr rfl)) (sb_one (ss_if (st_cmp (cms_ne hr.units) (se_callB (cs_repr (k := 0) rpc_no (hr.mono (by decide)) (hgd rfl)) rfl G.n_repr (by with_unfolding_all rfl) (sa_cons (se_callP (cl__law_told_1 G) (fun z => nomatch z) (hr.mono (by decide)) tk rfl (sk_pos (sa_cons (se_var (pv 8)) sa_nil))) sa_nil)) (se_callB (cs_repr (k := 0) rpc_no (hr.mono (by decide)) (hgd rfl)) rfl G.n_repr (by with_unfolding_all rfl) (sa_cons (se_callP (cl__law_read_1 G) (fun z => nomatch z) (hr.mono (by decide)) tk rfl (sk_pos (sa_cons (se_var (pv 8)) sa_nil))) sa_nil))) (sb_one (ss_ret se_b)) sb_nil)))
    (sb_one (ss_if (SW.t (sw_or (st_cmp (cms_one (du_Ratioq_eqq G) ⟨G.ne_Ratio, G.ob_Ratio⟩ (hr.mono (by decide)) tk) (se_cmet (cl_Ratio_read_0_text G) (fun z => nomatch z) (hr.mono (by decide)) tk (se_gc G.m_Ratio) (sk_kw (sy_cons (se_var (pv 6)) sy_nil))) (se_pk (pv 5))) (sw_or1 (st_cmp (cms_ne hr.units) (se_callTy (cs_ostr (du_Ratioq_strq G) (hr.mono (by decide)) tk) rfl G.n_str (by with_unfolding_all rfl) (sa_cons (se_pk (pv 5)) sa_nil)) (se_pk (pv 6)))))) (sb_one (ss_ret se_b)) sb_nil)))))))))
    (sb_one (ss_ret se_b))))
theorem cl__law_part_one_1 (G : Facts K mg T) : FnKB true P w K mg base T 13 "_law_part_one" [false] p__law_part_one 1 [] [0] [] := ⟨G.f__law_part_one, G.m__law_part_one, G.k__law_part_one, cal_of (pi := [0]) G.d__law_part_one (ok__law_part_one G) (fun _ _ _ _ _ _ us ws h1 h2 => match us, ws, h1, h2 with | [_], [], _, _ => rfl)⟩
theorem sc_Ratio_of : FnScope ["cls", "number"] ["cls", "number"] (defScope s_Ratio_of) := ⟨rfl, rfl, rfl, by decide +kernel, rfl, by decide +kernel, by decide +kernel⟩
def b_Ratio_of (ds : List D) : M Flw :=
    (seqM (ifM (tst (isiM (isO 2) (pk 1)))
    (retM (mov 1)) nxM)
    (retM (makP 2 p_Ratioq_initq [0, 1] [(.int 1)] [(var 1)])))
def p_Ratio_of (ds : List D) : FR := fnOf [false, false] 2 (b_Ratio_of ds) ds
theorem ok_Ratio_of (G : Facts K mg T) : FnG false P w K mg base (L2.CX P w) 4 G.f_Ratio_of G.fd_Ratio_of ["cls", "number"] (spF K T [false, false] p_Ratio_of) :=
  fn_ok (m := b_Ratio_of) (Df.of_fun G.d_Ratio_of) sc_Ratio_of rfl (fun _ => .inl rfl) fun ds cdv A outer s H F vs E hgd hr tk => by
  exact (sb_cons (ss_if (st_val (se_isi1 (isd_own G.isc_Ratio G.ic_Ratio G.ty_Ratio) (se_pk (pv 1)) (pe_glob (v := .ref (T.cl 2)) rfl G.m_Ratio rfl) (ClsV.own _) rfl G.n_isinstance)) (sb_one (ss_ret (se_mov (pv 1)))) sb_nil)
    (sb_one (ss_ret (se_make (cl_Ratioq_initq_1 G) (fun z => nomatch z) (hr.mono (by decide)) tk rfl G.m_Ratio (sk_pos (sa_cons (se_var (pv 1)) sa_nil))))))
theorem cl_Ratio_of_1 (G : Facts K mg T) : CmKB false P w K mg base T 4 2 "of" [false, false] p_Ratio_of 1 [] [0, 1] [] := let ⟨mc, q, h1, h2⟩ := G.cm_Ratio_of; ⟨mc, q, G.f_Ratio_of, h1, h2, cal_of (pi := [0, 1]) G.d_Ratio_of (ok_Ratio_of G) (fun _ _ _ _ _ _ us ws h1 h2 => match us, ws, h1, h2 with | [_, _], [], _, _ => rfl)⟩
theorem sc_Ratio_under : FnScope ["self", "other"] ["self", "other"] (defScope s_Ratio_under) := ⟨rfl, rfl, rfl, by decide +kernel, rfl, by decide +kernel, by decide +kernel⟩
def b_Ratio_under (ds : List D) : M Flw :=
    (retM (asV (cmp (cmpI fun i j => decide (i < j)) (bin mulD (attM ix_top (pk 0)) (attM ix_bottom (pk 1))) (bin mulD (attM ix_top (pk 1)) (attM ix_bottom (pk 0))))))
def p_Ratio_under (ds : List D) : FR := fnOf [false, false] 2 (b_Ratio_under ds) ds
theorem ok_Ratio_under (G : Facts K mg T) : FnG false P w K mg base (L2.CX P w) 1 G.f_Ratio_under G.fd_Ratio_under ["self", "other"] (spF K T [false, false] p_Ratio_under) :=
  fn_ok (m := b_Ratio_under) (Df.of_fun G.d_Ratio_under) sc_Ratio_under rfl (fun _ => .inl rfl) fun ds cdv A outer s H F vs E hgd hr tk => by
  exact (sb_one (ss_ret (se_cmp cms_lt (se_bin ops_mul (se_att (f := (PySem.Str.ofString "top")) ⟨G.at_top⟩ (se_pk (pv 0))) (se_att (f := (PySem.Str.ofString "bottom")) ⟨G.at_bottom⟩ (se_pk (pv 1)))) (se_bin ops_mul (se_att (f := (PySem.Str.ofString "top")) ⟨G.at_top⟩ (se_pk (pv 1))) (se_att (f := (PySem.Str.ofString "bottom")) ⟨G.at_bottom⟩ (se_pk (pv 0)))))))
theorem cl_Ratio_under_1 (G : Facts K mg T) : MtKB false P w K mg base T 1 2 "under" [false, false] p_Ratio_under 1 [] [0, 1] [] := ⟨G.cls_Ratio, by rw [G.an_Ratio]; decide +kernel, G.f_Ratio_under, G.me_Ratio_under, cal_of (pi := [0, 1]) G.d_Ratio_under (ok_Ratio_under G) (fun _ _ _ _ _ _ us ws h1 h2 => match us, ws, h1, h2 with | [_, _], [], _, _ => rfl)⟩
theorem sc_ascending : FnScope ["numbers", "found", "number", "ratio", "at"] ["numbers"] (defScope s_ascending) := ⟨rfl, rfl, rfl, by decide +kernel, rfl, by decide +kernel, by decide +kernel⟩
def b_ascending (ds : List D) : M Flw :=
    (seqM (setM 1 (lstM []))
    (seqM (forM (Tg.nm 2) (seqI (var 0))
    (seqM (setM 3 (cmetP 2 [false, false] p_Ratio_of [0, 1] [] (cst (.cls 2)) [(var 2)]))
    (seqM (setM 4 (cst (.int 0)))
    (seqM (whlD (andM (cmp (cmpI fun i j => decide (i < j)) (pk 4) (callB lenF [(pk 1)])) (tst (methP 2 [false, false] p_Ratio_under [0, 1] [] (subM (pk 1) (pk 4)) [(var 3)]))) (augM 4 iaddD (cst (.int 1))) 1000)
    (ifM (orM (cmp eqD (pk 4) (callB lenF [(pk 1)])) (tst (methP 2 [false, false] p_Ratio_under [0, 1] [] (var 3) [(subM (pk 1) (pk 4))])))
    (dropM (mutM 1 "list" insD [(var 4), (var 3)])) nxM)))))
    (retM (mov 1))))
def p_ascending (ds : List D) : FR := fnOf [false] 5 (b_ascending ds) ds
theorem ok_ascending (G : Facts K mg T) : FnG false P w K mg base (L2.CX P w) 5 G.f_ascending G.fd_ascending ["numbers"] (spF K T [false] p_ascending) :=
  fn_ok (m := b_ascending) (Df.of_fun G.d_ascending) sc_ascending rfl (fun _ => .inl rfl) fun ds cdv A outer s H F vs E hgd hr tk => by
  exact (sb_cons (ss_set (i := 1) (se_lst sa_nil) sc_ascending.nd rfl (by first | exact Or.inl rfl | exact Or.inr rfl))
    (sb_cons (ss_for (passes_of rfl) rfl (si_seq (se_var (pv 0))) (stg_nm sc_ascending.nd (i := 2) rfl (by first | exact Or.inl rfl | exact Or.inr rfl)) (sb_cons (ss_set (i := 3) (se_cmet (cl_Ratio_of_1 G) (fun z => nomatch z) (hr.mono (by decide)) tk (se_gc G.m_Ratio) (sk_pos (sa_cons (se_var (pv 2)) sa_nil))) sc_ascending.nd rfl (by first | exact Or.inl rfl | exact Or.inr rfl))
    (sb_cons (ss_set (i := 4) se_i sc_ascending.nd rfl (by first | exact Or.inl rfl | exact Or.inr rfl))
    (sb_cons (ss_whl (passes_of rfl) (SW.t (sw_and (st_cmp cms_lt (se_pk (pv 4)) (se_callB (cs_len) rfl G.n_len (by with_unfolding_all rfl) (sa_cons (se_pk (pv 1)) sa_nil))) (sw_and1 (st_val (se_meth (cl_Ratio_under_1 G) (fun z => nomatch z) (hr.mono (by decide)) tk (se_sub hr.u1 (se_pk (pv 1)) (se_pk (pv 4))) (sk_pos (sa_cons (se_var (pv 3)) sa_nil))))))) (sb_one (ss_aug (i := 4) ops_iadd se_i sc_ascending.nd rfl (by first | exact Or.inl rfl | exact Or.inr rfl))))
    (sb_one (ss_if (SW.t (sw_or (st_cmp (cms_eq hr.units) (se_pk (pv 4)) (se_callB (cs_len) rfl G.n_len (by with_unfolding_all rfl) (sa_cons (se_pk (pv 1)) sa_nil))) (sw_or1 (st_val (se_meth (cl_Ratio_under_1 G) (fun z => nomatch z) (hr.mono (by decide)) tk (se_var (pv 3)) (sk_pos (sa_cons (se_sub hr.u1 (se_pk (pv 1)) (se_pk (pv 4))) sa_nil))))))) (sb_one (ss_expr (se_mut (i := 1) mu_insert PySem.F.plainAttrs_list PySem.F.slot_list_insert PySem.F.type_list_insert (pv 1) (sa_cons (se_var (pv 4)) (sa_cons (se_var (pv 3)) sa_nil))))) sb_nil))))))
    (sb_one (ss_ret (se_mov (pv 1))))))
theorem cl_ascending_1 (G : Facts K mg T) : FnKB false P w K mg base T 5 "ascending" [false] p_ascending 1 [] [0] [] := ⟨G.f_ascending, G.m_ascending, G.k_ascending, cal_of (pi := [0]) G.d_ascending (ok_ascending G) (fun _ _ _ _ _ _ us ws h1 h2 => match us, ws, h1, h2 with | [_], [], _, _ => rfl)⟩
theorem cl_ascending_0_numbers (G : Facts K mg T) : FnKB false P w K mg base T 5 "ascending" [false] p_ascending 0 ["numbers"] [0] [] := ⟨G.f_ascending, G.m_ascending, G.k_ascending, cal_of (pi := [0]) G.d_ascending (ok_ascending G) (fun _ _ _ _ _ _ us ws h1 h2 => match us, ws, h1, h2 with | [], [_], _, _ => rfl)⟩
theorem sc__law_before : FnScope ["one", "other"] ["one", "other"] (defScope s__law_before) := ⟨rfl, rfl, rfl, by decide +kernel, rfl, by decide +kernel, by decide +kernel⟩
def b__law_before (ds : List D) : M Flw :=
    (retM (asV (cmp (cmpI fun i j => decide (i < j)) (bin mulD (subM (pk 0) (cst (.int 0))) (subM (pk 1) (cst (.int 1)))) (bin mulD (subM (pk 1) (cst (.int 0))) (subM (pk 0) (cst (.int 1)))))))
def p__law_before (ds : List D) : FR := fnOf [false, false] 2 (b__law_before ds) ds
theorem ok__law_before (G : Facts K mg T) : FnG false P w K mg base (L2.CX P w) 1 G.f__law_before G.fd__law_before ["one", "other"] (spF K T [false, false] p__law_before) :=
  fn_ok (m := b__law_before) (Df.of_fun G.d__law_before) sc__law_before rfl (fun _ => .inl rfl) fun ds cdv A outer s H F vs E hgd hr tk => by
  exact (sb_one (ss_ret (se_cmp cms_lt (se_bin ops_mul (se_sub hr.u1 (se_pk (pv 0)) se_i) (se_sub hr.u1 (se_pk (pv 1)) se_i)) (se_bin ops_mul (se_sub hr.u1 (se_pk (pv 1)) se_i) (se_sub hr.u1 (se_pk (pv 0)) se_i)))))
theorem cl__law_before_2 (G : Facts K mg T) : FnKB false P w K mg base T 1 "_law_before" [false, false] p__law_before 2 [] [0, 1] [] := ⟨G.f__law_before, G.m__law_before, G.k__law_before, cal_of (pi := [0, 1]) G.d__law_before (ok__law_before G) (fun _ _ _ _ _ _ us ws h1 h2 => match us, ws, h1, h2 with | [_, _], [], _, _ => rfl)⟩
theorem sc__law_sorted : FnScope ["parts", "found", "part", "ahead", "one", "behind"] ["parts"] (defScope s__law_sorted) := ⟨rfl, rfl, rfl, by decide +kernel, rfl, by decide +kernel, by decide +kernel⟩
def b__law_sorted (ds : List D) : M Flw :=
    (seqM (setM 1 (lstM []))
    (seqM (forM (Tg.nm 2) (seqI (var 0))
    (seqM (setM 3 (lcM [4] (Tg.nm 4) (seqI (var 1)) (tst (callP [false, false] p__law_before [0, 1] [] [(var 4), (var 2)])) (var 4)))
    (seqM (setM 5 (lcM [4] (Tg.nm 4) (seqI (var 1)) (tst (callP [false, false] p__law_before [0, 1] [] [(var 2), (var 4)])) (var 4)))
    (setM 1 (bin addD (bin addD (pk 3) (lstM [(var 2)])) (pk 5))))))
    (retM (mov 1))))
def p__law_sorted (ds : List D) : FR := fnOf [false] 6 (b__law_sorted ds) ds
theorem ok__law_sorted (G : Facts K mg T) : FnG false P w K mg base (L2.CX P w) 2 G.f__law_sorted G.fd__law_sorted ["parts"] (spF K T [false] p__law_sorted) :=
  fn_ok (m := b__law_sorted) (Df.of_fun G.d__law_sorted) sc__law_sorted rfl (fun _ => .inl rfl) fun ds cdv A outer s H F vs E hgd hr tk => by
  exact (sb_cons (ss_set (i := 1) (se_lst sa_nil) sc__law_sorted.nd rfl (by first | exact Or.inl rfl | exact Or.inr rfl))
    (sb_cons (ss_for (passes_of rfl) rfl (si_seq (se_var (pv 0))) (stg_nm sc__law_sorted.nd (i := 2) rfl (by first | exact Or.inl rfl | exact Or.inr rfl)) (sb_cons (ss_setLc (i := 3) rfl sc__law_sorted.nd rfl rfl (by with_unfolding_all rfl) (own := [((PySem.Str.ofString "one"), 4)]) (si_seq (se_var (pv 1))) (show BlkOk (["parts", "found", "part", "ahead", "one", "behind"] : List Str) (defScope s__law_sorted) _ _ from by exact ⟨rfl, by decide +kernel, by decide +kernel, by decide +kernel, by decide +kernel⟩) ⟨fun s H C cl fp => (stg_nm sc__law_sorted.nd (i := 4) rfl (by first | exact Or.inl rfl | exact Or.inr rfl)), fun s H C cl fp c => (sc_one (st_val (se_callP (cl__law_before_2 G) (fun z => nomatch z) (hr.mono (by decide)) takes0 rfl (sk_pos (sa_cons (se_var (pv 4)) (sa_cons (se_var (pv 2)) sa_nil)))))), fun s H C cl fp c => (se_var (pv 4))⟩ (by decide))
    (sb_cons (ss_setLc (i := 5) rfl sc__law_sorted.nd rfl rfl (by with_unfolding_all rfl) (own := [((PySem.Str.ofString "one"), 4)]) (si_seq (se_var (pv 1))) (show BlkOk (["parts", "found", "part", "ahead", "one", "behind"] : List Str) (defScope s__law_sorted) _ _ from by exact ⟨rfl, by decide +kernel, by decide +kernel, by decide +kernel, by decide +kernel⟩) ⟨fun s H C cl fp => (stg_nm sc__law_sorted.nd (i := 4) rfl (by first | exact Or.inl rfl | exact Or.inr rfl)), fun s H C cl fp c => (sc_one (st_val (se_callP (cl__law_before_2 G) (fun z => nomatch z) (hr.mono (by decide)) takes0 rfl (sk_pos (sa_cons (se_var (pv 2)) (sa_cons (se_var (pv 4)) sa_nil)))))), fun s H C cl fp c => (se_var (pv 4))⟩ (by decide))
    (sb_one (ss_set (i := 1) (se_bin ops_add (se_bin ops_add (se_pk (pv 3)) (se_lst (sa_cons (se_var (pv 2)) sa_nil))) (se_pk (pv 5))) sc__law_sorted.nd rfl (by first | exact Or.inl rfl | exact Or.inr rfl))))))
    (sb_one (ss_ret (se_mov (pv 1))))))
theorem cl__law_sorted_1 (G : Facts K mg T) : FnKB false P w K mg base T 2 "_law_sorted" [false] p__law_sorted 1 [] [0] [] := ⟨G.f__law_sorted, G.m__law_sorted, G.k__law_sorted, cal_of (pi := [0]) G.d__law_sorted (ok__law_sorted G) (fun _ _ _ _ _ _ us ws h1 h2 => match us, ws, h1, h2 with | [_], [], _, _ => rfl)⟩
theorem sc__law_parts_b : FnScope ["pen", "top"] ["pen"] (defScope s__law_parts_b) := ⟨rfl, rfl, rfl, by decide +kernel, rfl, by decide +kernel, by decide +kernel⟩
def b__law_parts_b (ds : List D) : M Flw :=
    (seqM (setM 1 (subM (lstM [(bin subI (callP [true, false] p__law_draw [0, 1] [] [(pk 0), (cst (.int 7))]) (cst (.int 3))), (bin subI (callP [true, false] p__law_draw [0, 1] [] [(pk 0), (cst (.int 1999999))]) (cst (.int 999999)))]) (callB intF [(asV (cmp eqD (callP [true, false] p__law_draw [0, 1] [] [(pk 0), (cst (.int 4))]) (cst (.int 0))))])))
    (retM (tupM [(var 1), (subM (lstM [(cst (.int 1)), (cst (.int 2)), (cst (.int 3)), (cst (.int 4)), (bin addD (cst (.int 1)) (callP [true, false] p__law_draw [0, 1] [] [(pk 0), (cst (.int 1000))]))]) (callP [true, false] p__law_draw [0, 1] [] [(pk 0), (cst (.int 5))]))])))
def p__law_parts_b (ds : List D) : FR := fnOf [true] 2 (b__law_parts_b ds) ds
theorem ok__law_parts_b (G : Facts K mg T) : FnG false P w K mg base (L2.CX P w) 2 G.f__law_parts_b G.fd__law_parts_b ["pen"] (spF K T [true] p__law_parts_b) :=
  fn_ok (m := b__law_parts_b) (Df.of_fun G.d__law_parts_b) sc__law_parts_b rfl (fun _ => .inl rfl) fun ds cdv A outer s H F vs E hgd hr tk => by
  exact (sb_cons (ss_set (i := 1) (se_sub hr.u1 (se_lst (sa_cons (se_bin ops_sub (se_callP (cl__law_draw_2 G) (fun z => nomatch z) (hr.mono (by decide)) tk rfl (sk_pos (sa_cons (se_pk (pv 0)) (sa_cons se_i sa_nil)))) se_i) (sa_cons (se_bin ops_sub (se_callP (cl__law_draw_2 G) (fun z => nomatch z) (hr.mono (by decide)) tk rfl (sk_pos (sa_cons (se_pk (pv 0)) (sa_cons se_i sa_nil)))) se_i) sa_nil))) (se_callTy cs_int rfl G.n_int (by with_unfolding_all rfl) (sa_cons (se_cmp (cms_eq hr.units) (se_callP (cl__law_draw_2 G) (fun z => nomatch z) (hr.mono (by decide)) tk rfl (sk_pos (sa_cons (se_pk (pv 0)) (sa_cons se_i sa_nil)))) se_i) sa_nil))) sc__law_parts_b.nd rfl (by first | exact Or.inl rfl | exact Or.inr rfl))
    (sb_one (ss_ret (se_tup (sa_cons (se_var (pv 1)) (sa_cons (se_sub hr.u1 (se_lst (sa_cons se_i (sa_cons se_i (sa_cons se_i (sa_cons se_i (sa_cons (se_bin ops_add se_i (se_callP (cl__law_draw_2 G) (fun z => nomatch z) (hr.mono (by decide)) tk rfl (sk_pos (sa_cons (se_pk (pv 0)) (sa_cons se_i sa_nil))))) sa_nil)))))) (se_callP (cl__law_draw_2 G) (fun z => nomatch z) (hr.mono (by decide)) tk rfl (sk_pos (sa_cons (se_pk (pv 0)) (sa_cons se_i sa_nil))))) sa_nil))))))
theorem cl__law_parts_b_1 (G : Facts K mg T) : FnKB false P w K mg base T 2 "_law_parts_b" [true] p__law_parts_b 1 [] [0] [] := ⟨G.f__law_parts_b, G.m__law_parts_b, G.k__law_parts_b, cal_of (pi := [0]) G.d__law_parts_b (ok__law_parts_b G) (fun _ _ _ _ _ _ us ws h1 h2 => match us, ws, h1, h2 with | [_], [], _, _ => rfl)⟩
theorem sc__law_number : FnScope ["pen", "part", "top", "bottom", "often"] ["pen", "part"] (defScope s__law_number) := ⟨rfl, rfl, rfl, by decide +kernel, rfl, by decide +kernel, by decide +kernel⟩
def b__law_number (ds : List D) : M Flw :=
    (seqM (unpM [2, 3] (pk 1))
    (seqM (ifM (andM (cmp eqD (pk 3) (cst (.int 1))) (cmp eqD (callP [true, false] p__law_draw [0, 1] [] [(pk 0), (cst (.int 2))]) (cst (.int 0))))
    (retM (mov 2)) nxM)
    (seqM (setM 4 (subM (lstM [(cst (.int 1)), (cst (.int 1)), (cst (.int 2)), (cst (.int 3))]) (callP [true, false] p__law_draw [0, 1] [] [(pk 0), (cst (.int 4))])))
    (retM (makP 2 p_Ratioq_initq [0, 1] [(.int 1)] [(bin mulD (pk 2) (pk 4)), (bin mulD (pk 3) (pk 4))])))))
def p__law_number (ds : List D) : FR := fnOf [true, false] 5 (b__law_number ds) ds
theorem ok__law_number (G : Facts K mg T) : FnG false P w K mg base (L2.CX P w) 4 G.f__law_number G.fd__law_number ["pen", "part"] (spF K T [true, false] p__law_number) :=
  fn_ok (m := b__law_number) (Df.of_fun G.d__law_number) sc__law_number rfl (fun _ => .inl rfl) fun ds cdv A outer s H F vs E hgd hr tk => by
  exact (sb_cons (ss_unp (se_pk (pv 1)) rfl (sts_cons sc__law_number.nd (i := 2) rfl (by first | exact Or.inl rfl | exact Or.inr rfl) (sts_cons sc__law_number.nd (i := 3) rfl (by first | exact Or.inl rfl | exact Or.inr rfl) sts_nil)) rfl)
    (sb_cons (ss_if (SW.t (sw_and (st_cmp (cms_eq hr.units) (se_pk (pv 3)) se_i) (sw_and1 (st_cmp (cms_eq hr.units) (se_callP (cl__law_draw_2 G) (fun z => nomatch z) (hr.mono (by decide)) tk rfl (sk_pos (sa_cons (se_pk (pv 0)) (sa_cons se_i sa_nil)))) se_i)))) (sb_one (ss_ret (se_mov (pv 2)))) sb_nil)
    (sb_cons (ss_set (i := 4) (se_sub hr.u1 (se_lst (sa_cons se_i (sa_cons se_i (sa_cons se_i (sa_cons se_i sa_nil))))) (se_callP (cl__law_draw_2 G) (fun z => nomatch z) (hr.mono (by decide)) tk rfl (sk_pos (sa_cons (se_pk (pv 0)) (sa_cons se_i sa_nil))))) sc__law_number.nd rfl (by first | exact Or.inl rfl | exact Or.inr rfl))
    (sb_one (ss_ret (se_make (cl_Ratioq_initq_2 G) (fun z => nomatch z) (hr.mono (by decide)) tk rfl G.m_Ratio (sk_pos (sa_cons (se_bin ops_mul (se_pk (pv 2)) (se_pk (pv 4))) (sa_cons (se_bin ops_mul (se_pk (pv 3)) (se_pk (pv 4))) sa_nil)))))))))
theorem cl__law_number_2 (G : Facts K mg T) : FnKB false P w K mg base T 4 "_law_number" [true, false] p__law_number 2 [] [0, 1] [] := ⟨G.f__law_number, G.m__law_number, G.k__law_number, cal_of (pi := [0, 1]) G.d__law_number (ok__law_number G) (fun _ _ _ _ _ _ us ws h1 h2 => match us, ws, h1, h2 with | [_, _], [], _, _ => rfl)⟩
theorem sc__law_are : FnScope ["found", "parts", "one", "due", "part"] ["found", "parts"] (defScope s__law_are) := ⟨rfl, rfl, rfl, by decide +kernel, rfl, by decide +kernel, by decide +kernel⟩
def b__law_are (ds : List D) : M Flw :=
    (seqM (ifM (orM (notM (tst (isiM (isT 2 aList) (pk 0)))) (cmp neD (lcM [2] (Tg.nm 2) (seqI (var 0)) (notM (tst (isiM (isO 2) (pk 2)))) (var 2)) (lstM [])))
    (retM (cst (.bl false))) nxM)
    (seqM (setM 3 (lcM [4] (Tg.nm 4) (seqI (var 1)) yesM (makP 2 p_Ratioq_initq [0, 1] [(.int 1)] [(subM (pk 4) (cst (.int 0))), (subM (pk 4) (cst (.int 1)))])))
    (retM (asV (cmp (eqlD 2 p_Ratioq_eqq) (pk 0) (pk 3))))))
def p__law_are (ds : List D) : FR := fnOf [false, false] 5 (b__law_are ds) ds
theorem ok__law_are (G : Facts K mg T) : FnG false P w K mg base (L2.CX P w) 4 G.f__law_are G.fd__law_are ["found", "parts"] (spF K T [false, false] p__law_are) :=
  fn_ok (m := b__law_are) (Df.of_fun G.d__law_are) sc__law_are rfl (fun _ => .inl rfl) fun ds cdv A outer s H F vs E hgd hr tk => by
  exact (sb_cons (ss_if (SW.t (sw_or (st_not (st_val (se_isi1 (isd_list G.isc_Ratio G.no_list) (se_pk (pv 0)) (pe_bltn (v := .ty "list") rfl G.n_list (by with_unfolding_all rfl) rfl) (ClsV.ty _) rfl G.n_isinstance))) (sw_or1 (st_cmp (cms_ne hr.units) (se_lc rfl sc__law_are.nd (own := [((PySem.Str.ofString "one"), 2)]) (si_seq (se_var (pv 0))) (show BlkOk (["found", "parts", "one", "due", "part"] : List Str) (defScope s__law_are) _ _ from by exact ⟨rfl, by decide +kernel, by decide +kernel, by decide +kernel, by decide +kernel⟩) ⟨fun s H C cl fp => (stg_nm sc__law_are.nd (i := 2) rfl (by first | exact Or.inl rfl | exact Or.inr rfl)), fun s H C cl fp c => (sc_one (st_not (st_val (se_isi1 (isd_own G.isc_Ratio G.ic_Ratio G.ty_Ratio) (se_pk (pv 2)) (pe_glob (v := .ref (T.cl 2)) rfl G.m_Ratio rfl) (ClsV.own _) rfl G.n_isinstance)))), fun s H C cl fp c => (se_var (pv 2))⟩ (by decide)) (se_lst sa_nil))))) (sb_one (ss_ret se_b)) sb_nil)
    (sb_cons (ss_setLc (i := 3) rfl sc__law_are.nd rfl rfl (by with_unfolding_all rfl) (own := [((PySem.Str.ofString "part"), 4)]) (si_seq (se_var (pv 1))) (show BlkOk (["found", "parts", "one", "due", "part"] : List Str) (defScope s__law_are) _ _ from by exact ⟨rfl, by decide +kernel, by decide +kernel, by decide +kernel, by decide +kernel⟩) ⟨fun s H C cl fp => (stg_nm sc__law_are.nd (i := 4) rfl (by first | exact Or.inl rfl | exact Or.inr rfl)), fun s H C cl fp c => sc_nil, fun s H C cl fp c => (se_make (cl_Ratioq_initq_2 G) (fun z => nomatch z) (hr.mono (by decide)) takes0 rfl G.m_Ratio (sk_pos (sa_cons (se_sub hr.u1 (se_pk (pv 4)) se_i) (sa_cons (se_sub hr.u1 (se_pk (pv 4)) se_i) sa_nil))))⟩ (by decide))
    (sb_one (ss_ret (se_cmp (cms_eql (du_Ratioq_eqq G) (hr.mono (by decide)) tk) (se_pk (pv 0)) (se_pk (pv 3)))))))
theorem cl__law_are_2 (G : Facts K mg T) : FnKB false P w K mg base T 4 "_law_are" [false, false] p__law_are 2 [] [0, 1] [] := ⟨G.f__law_are, G.m__law_are, G.k__law_are, cal_of (pi := [0, 1]) G.d__law_are (ok__law_are G) (fun _ _ _ _ _ _ us ws h1 h2 => match us, ws, h1, h2 with | [_, _], [], _, _ => rfl)⟩
theorem sc_least : FnScope ["numbers", "found", "number"] ["numbers"] (defScope s_least) := ⟨rfl, rfl, rfl, by decide +kernel, rfl, by decide +kernel, by decide +kernel⟩
def b_least (ds : List D) : M Flw :=
    (seqM (setM 1 (cmetP 2 [false, false] p_Ratio_of [0, 1] [] (cst (.cls 2)) [(subM (pk 0) (cst (.int 0)))]))
    (seqM (forM (Tg.nm 2) (seqI (var 0))
    (ifM (tst (methP 2 [false, false] p_Ratio_under [0, 1] [] (cmetP 2 [false, false] p_Ratio_of [0, 1] [] (cst (.cls 2)) [(var 2)]) [(var 1)]))
    (setM 1 (cmetP 2 [false, false] p_Ratio_of [0, 1] [] (cst (.cls 2)) [(var 2)])) nxM))
    (retM (mov 1))))
def p_least (ds : List D) : FR := fnOf [false] 3 (b_least ds) ds
theorem ok_least (G : Facts K mg T) : FnG false P w K mg base (L2.CX P w) 5 G.f_least G.fd_least ["numbers"] (spF K T [false] p_least) :=
  fn_ok (m := b_least) (Df.of_fun G.d_least) sc_least rfl (fun _ => .inl rfl) fun ds cdv A outer s H F vs E hgd hr tk => by
  exact (sb_cons (ss_set (i := 1) (se_cmet (cl_Ratio_of_1 G) (fun z => nomatch z) (hr.mono (by decide)) tk (se_gc G.m_Ratio) (sk_pos (sa_cons (se_sub hr.u1 (se_pk (pv 0)) se_i) sa_nil))) sc_least.nd rfl (by first | exact Or.inl rfl | exact Or.inr rfl))
    (sb_cons (ss_for (passes_of rfl) rfl (si_seq (se_var (pv 0))) (stg_nm sc_least.nd (i := 2) rfl (by first | exact Or.inl rfl | exact Or.inr rfl)) (sb_one (ss_if (st_val (se_meth (cl_Ratio_under_1 G) (fun z => nomatch z) (hr.mono (by decide)) tk (se_cmet (cl_Ratio_of_1 G) (fun z => nomatch z) (hr.mono (by decide)) tk (se_gc G.m_Ratio) (sk_pos (sa_cons (se_var (pv 2)) sa_nil))) (sk_pos (sa_cons (se_var (pv 1)) sa_nil)))) (sb_one (ss_set (i := 1) (se_cmet (cl_Ratio_of_1 G) (fun z => nomatch z) (hr.mono (by decide)) tk (se_gc G.m_Ratio) (sk_pos (sa_cons (se_var (pv 2)) sa_nil))) sc_least.nd rfl (by first | exact Or.inl rfl | exact Or.inr rfl))) sb_nil)))
    (sb_one (ss_ret (se_mov (pv 1))))))
theorem cl_least_1 (G : Facts K mg T) : FnKB false P w K mg base T 5 "least" [false] p_least 1 [] [0] [] := ⟨G.f_least, G.m_least, G.k_least, cal_of (pi := [0]) G.d_least (ok_least G) (fun _ _ _ _ _ _ us ws h1 h2 => match us, ws, h1, h2 with | [_], [], _, _ => rfl)⟩
theorem cl_least_0_numbers (G : Facts K mg T) : FnKB false P w K mg base T 5 "least" [false] p_least 0 ["numbers"] [0] [] := ⟨G.f_least, G.m_least, G.k_least, cal_of (pi := [0]) G.d_least (ok_least G) (fun _ _ _ _ _ _ us ws h1 h2 => match us, ws, h1, h2 with | [], [_], _, _ => rfl)⟩
theorem sc_greatest : FnScope ["numbers", "found", "number"] ["numbers"] (defScope s_greatest) := ⟨rfl, rfl, rfl, by decide +kernel, rfl, by decide +kernel, by decide +kernel⟩
def b_greatest (ds : List D) : M Flw :=
    (seqM (setM 1 (cmetP 2 [false, false] p_Ratio_of [0, 1] [] (cst (.cls 2)) [(subM (pk 0) (cst (.int 0)))]))
    (seqM (forM (Tg.nm 2) (seqI (var 0))
    (ifM (tst (methP 2 [false, false] p_Ratio_under [0, 1] [] (var 1) [(cmetP 2 [false, false] p_Ratio_of [0, 1] [] (cst (.cls 2)) [(var 2)])]))
    (setM 1 (cmetP 2 [false, false] p_Ratio_of [0, 1] [] (cst (.cls 2)) [(var 2)])) nxM))
    (retM (mov 1))))
def p_greatest (ds : List D) : FR := fnOf [false] 3 (b_greatest ds) ds
theorem ok_greatest (G : Facts K mg T) : FnG false P w K mg base (L2.CX P w) 5 G.f_greatest G.fd_greatest ["numbers"] (spF K T [false] p_greatest) :=
  fn_ok (m := b_greatest) (Df.of_fun G.d_greatest) sc_greatest rfl (fun _ => .inl rfl) fun ds cdv A outer s H F vs E hgd hr tk => by
  exact (sb_cons (ss_set (i := 1) (se_cmet (cl_Ratio_of_1 G) (fun z => nomatch z) (hr.mono (by decide)) tk (se_gc G.m_Ratio) (sk_pos (sa_cons (se_sub hr.u1 (se_pk (pv 0)) se_i) sa_nil))) sc_greatest.nd rfl (by first | exact Or.inl rfl | exact Or.inr rfl))
    (sb_cons (ss_for (passes_of rfl) rfl (si_seq (se_var (pv 0))) (stg_nm sc_greatest.nd (i := 2) rfl (by first | exact Or.inl rfl | exact Or.inr rfl)) (sb_one (ss_if (st_val (se_meth (cl_Ratio_under_1 G) (fun z => nomatch z) (hr.mono (by decide)) tk (se_var (pv 1)) (sk_pos (sa_cons (se_cmet (cl_Ratio_of_1 G) (fun z => nomatch z) (hr.mono (by decide)) tk (se_gc G.m_Ratio) (sk_pos (sa_cons (se_var (pv 2)) sa_nil))) sa_nil)))) (sb_one (ss_set (i := 1) (se_cmet (cl_Ratio_of_1 G) (fun z => nomatch z) (hr.mono (by decide)) tk (se_gc G.m_Ratio) (sk_pos (sa_cons (se_var (pv 2)) sa_nil))) sc_greatest.nd rfl (by first | exact Or.inl rfl | exact Or.inr rfl))) sb_nil)))
    (sb_one (ss_ret (se_mov (pv 1))))))
theorem cl_greatest_1 (G : Facts K mg T) : FnKB false P w K mg base T 5 "greatest" [false] p_greatest 1 [] [0] [] := ⟨G.f_greatest, G.m_greatest, G.k_greatest, cal_of (pi := [0]) G.d_greatest (ok_greatest G) (fun _ _ _ _ _ _ us ws h1 h2 => match us, ws, h1, h2 with | [_], [], _, _ => rfl)⟩
theorem cl_greatest_0_numbers (G : Facts K mg T) : FnKB false P w K mg base T 5 "greatest" [false] p_greatest 0 ["numbers"] [0] [] := ⟨G.f_greatest, G.m_greatest, G.k_greatest, cal_of (pi := [0]) G.d_greatest (ok_greatest G) (fun _ _ _ _ _ _ us ws h1 h2 => match us, ws, h1, h2 with | [], [_], _, _ => rfl)⟩
theorem sc__law_part_two : FnScope ["script", "pen", "turn", "parts", "at", "some", "part", "kept", "due"] ["script"] (defScope s__law_part_two) := ⟨rfl, rfl, rfl, by decide +kernel, rfl, by decide +kernel, by decide +kernel⟩
def b__law_part_two (ds : List D) : M Flw :=
    (seqM (setM 1 (callP [false] p__law_pen [0] [] [(var 0)]))
    (seqM (ifM (cmp neD (callP [false] p_ascending [0] [] [(lstM [])]) (lstM []))
    (retM (cst (.bl false))) nxM)
    (seqM (forM (Tg.nm 2) (rngI rngD1 [(cst (.int 6))])
    (seqM (setM 3 (lcM [4] (Tg.nm 4) (rngI rngD1 [(bin addD (cst (.int 1)) (callP [true, false] p__law_draw [0, 1] [] [(pk 1), (cst (.int 7))]))]) yesM (callP [true] p__law_parts_b [0] [] [(pk 1)])))
    (seqM (setM 3 (bin addD (pk 3) (sliM (pk 3) none (some (callP [true, false] p__law_draw [0, 1] [] [(pk 1), (cst (.int 3))])))))
    (seqM (setM 5 (lcM [6] (Tg.nm 6) (seqI (var 3)) yesM (callP [true, false] p__law_number [0, 1] [] [(pk 1), (var 6)])))
    (seqM (setM 7 (callB (reprF (insG 2 p_Ratioq_reprq)) [(pk 5)]))
    (seqM (setM 8 (callP [false] p__law_sorted [0] [] [(var 3)]))
    (seqM (ifM (orM (notM (tst (callP [false, false] p__law_are [0, 1] [] [(callP [false] p_ascending [0] [] [(var 5)]), (var 8)]))) (notM (tst (callP [false, false] p__law_are [0, 1] [] [(callP [false] p_ascending [0] [] [(un revD (pk 5))]), (var 8)]))))
    (retM (cst (.bl false))) nxM)
    (seqM (ifM (notM (tst (callP [false, false] p__law_are [0, 1] [] [(lstM [(callP [false] p_least [0] [] [(var 5)]), (callP [false] p_greatest [0] [] [(var 5)])]), (lstM [(subM (pk 8) (cst (.int 0))), (subM (pk 8) (un negD (cst (.int 1))))])])))
    (retM (cst (.bl false))) nxM)
    (seqM (ifM (notM (tst (callP [false, false] p__law_are [0, 1] [] [(lstM [(callP [false] p_least [0] [] [(un revD (pk 5))]), (callP [false] p_greatest [0] [] [(un revD (pk 5))])]), (lstM [(subM (pk 8) (cst (.int 0))), (subM (pk 8) (un negD (cst (.int 1))))])])))
    (retM (cst (.bl false))) nxM)
    (ifM (cmp neD (callB (reprF (insG 2 p_Ratioq_reprq)) [(pk 5)]) (pk 7))
    (retM (cst (.bl false))) nxM))))))))))
    (retM (cst (.bl true))))))
def p__law_part_two (ds : List D) : FR := fnOf [false] 9 (b__law_part_two ds) ds
theorem ok__law_part_two (G : Facts K mg T) : FnG true P w K mg base (L2.CX P w) 13 G.f__law_part_two G.fd__law_part_two ["script"] (spF K T [false] p__law_part_two) :=
  fn_ok (m := b__law_part_two) (Df.of_fun G.d__law_part_two) sc__law_part_two rfl (fun _ => .inl rfl) fun ds cdv A outer s H F vs E hgd hr tk => by
  exact (sb_cons (ss_set (i := 1) (se_callP (cl__law_pen_1 G) (fun z => nomatch z) (hr.mono (by decide)) tk rfl (sk_pos (sa_cons (se_var (pv 0)) sa_nil))) sc__law_part_two.nd rfl (by first | exact Or.inl rfl | exact Or.inr rfl))
    (sb_cons (ss_if (st_cmp (cms_ne hr.units) (se_callP (cl_ascending_1 G) (fun z => nomatch z) (hr.mono (by decide)) tk rfl (sk_pos (sa_cons (se_lst sa_nil) sa_nil))) (se_lst sa_nil)) (sb_one (ss_ret se_b)) sb_nil)
    (sb_cons (ss_for (passes_of rfl) rfl (si_rng1 (sa_cons se_i sa_nil) rfl G.n_range) (stg_nm sc__law_part_two.nd (i := 2) rfl (by first | exact Or.inl rfl | exact Or.inr rfl)) (sb_cons (ss_setLc (i := 3) rfl sc__law_part_two.nd rfl rfl (by with_unfolding_all rfl) (own := [((PySem.Str.ofString "at"), 4)]) (si_rng1 (sa_cons (se_bin ops_add se_i (se_callP (cl__law_draw_2 G) (fun z => nomatch z) (hr.mono (by decide)) tk rfl (sk_pos (sa_cons (se_pk (pv 1)) (sa_cons se_i sa_nil))))) sa_nil) rfl G.n_range) (show BlkOk (["script", "pen", "turn", "parts", "at", "some", "part", "kept", "due"] : List Str) (defScope s__law_part_two) _ _ from by exact ⟨rfl, by decide +kernel, by decide +kernel, by decide +kernel, by decide +kernel⟩) ⟨fun s H C cl fp => (stg_nm sc__law_part_two.nd (i := 4) rfl (by first | exact Or.inl rfl | exact Or.inr rfl)), fun s H C cl fp c => sc_nil, fun s H C cl fp c => (se_callP (cl__law_parts_b_1 G) (fun z => nomatch z) (hr.mono (by decide)) takes0 rfl (sk_pos (sa_cons (se_pk (pv 1)) sa_nil)))⟩ (by decide))
    (sb_cons (ss_set (i := 3) (se_bin ops_add (se_pk (pv 3)) (se_sli (se_pk (pv 3)) (show SP1 _ _ _ _ none none from True.intro) (show SP1 _ _ _ _ (some _) (some _) from (se_callP (cl__law_draw_2 G) (fun z => nomatch z) (hr.mono (by decide)) tk rfl (sk_pos (sa_cons (se_pk (pv 1)) (sa_cons se_i sa_nil))))))) sc__law_part_two.nd rfl (by first | exact Or.inl rfl | exact Or.inr rfl))
    (sb_cons (ss_setLc (i := 5) rfl sc__law_part_two.nd rfl rfl (by with_unfolding_all rfl) (own := [((PySem.Str.ofString "part"), 6)]) (si_seq (se_var (pv 3))) (show BlkOk (["script", "pen", "turn", "parts", "at", "some", "part", "kept", "due"] : List Str) (defScope s__law_part_two) _ _ from by exact ⟨rfl, by decide +kernel, by decide +kernel, by decide +kernel, by decide +kernel⟩) ⟨fun s H C cl fp => (stg_nm sc__law_part_two.nd (i := 6) rfl (by first | exact Or.inl rfl | exact Or.inr rfl)), fun s H C cl fp c => sc_nil, fun s H C cl fp c => (se_callP (cl__law_number_2 G) (fun z => nomatch z) (hr.mono (by decide)) takes0 rfl (sk_pos (sa_cons (se_pk (pv 1)) (sa_cons (se_var (pv 6)) sa_nil))))⟩ (by decide))
    (sb_cons (ss_set (i := 7) (se_callB (cs_repr (rpc_ins (du_Ratioq_reprq G) tk) (hr.mono (by decide)) (hgd rfl)) rfl G.n_repr (by with_unfolding_all rfl) (sa_cons (se_pk (pv 5)) sa_nil)) sc__law_part_two.nd rfl (by first | exact Or.inl rfl | exact Or.inr rfl))
    (sb_cons (ss_set (i := 8) (se_callP (cl__law_sorted_1 G) (fun z => nomatch z) (hr.mono (by decide)) tk rfl (sk_pos (sa_cons (se_var (pv 3)) sa_nil))) sc__law_part_two.nd rfl (by first | exact Or.inl rfl | exact Or.inr rfl))
    (sb_cons (ss_if (SW.t (sw_or (st_not (st_val (se_callP (cl__law_are_2 G) (fun z => nomatch z) (hr.mono (by decide)) tk rfl (sk_pos (sa_cons (se_callP (cl_ascending_1 G) (fun z => nomatch z) (hr.mono (by decide)) tk rfl (sk_pos (sa_cons (se_var (pv 5)) sa_nil))) (sa_cons (se_var (pv 8)) sa_nil)))))) (sw_or1 (st_not (st_val (se_callP (cl__law_are_2 G) (fun z => nomatch z) (hr.mono (by decide)) tk rfl (sk_pos (sa_cons (se_callP (cl_ascending_0_numbers G) (fun z => nomatch z) (hr.mono (by decide)) tk rfl (sk_kw (sy_cons (se_rev (se_pk (pv 5))) sy_nil))) (sa_cons (se_var (pv 8)) sa_nil))))))))) (sb_one (ss_ret se_b)) sb_nil)
    (sb_cons (ss_if (st_not (st_val (se_callP (cl__law_are_2 G) (fun z => nomatch z) (hr.mono (by decide)) tk rfl (sk_pos (sa_cons (se_lst (sa_cons (se_callP (cl_least_1 G) (fun z => nomatch z) (hr.mono (by decide)) tk rfl (sk_pos (sa_cons (se_var (pv 5)) sa_nil))) (sa_cons (se_callP (cl_greatest_1 G) (fun z => nomatch z) (hr.mono (by decide)) tk rfl (sk_pos (sa_cons (se_var (pv 5)) sa_nil))) sa_nil))) (sa_cons (se_lst (sa_cons (se_sub hr.u1 (se_pk (pv 8)) se_i) (sa_cons (se_sub hr.u1 (se_pk (pv 8)) (se_neg se_i)) sa_nil))) sa_nil)))))) (sb_one (ss_ret se_b)) sb_nil)
    (sb_cons (ss_if (st_not (st_val (se_callP (cl__law_are_2 G) (fun z => nomatch z) (hr.mono (by decide)) tk rfl (sk_pos (sa_cons (se_lst (sa_cons (se_callP (cl_least_0_numbers G) (fun z => nomatch z) (hr.mono (by decide)) tk rfl (sk_kw (sy_cons (se_rev (se_pk (pv 5))) sy_nil))) (sa_cons (se_callP (cl_greatest_0_numbers G) (fun z => nomatch z) (hr.mono (by decide)) tk rfl (sk_kw (sy_cons (se_rev (se_pk (pv 5))) sy_nil))) sa_nil))) (sa_cons (se_lst (sa_cons (se_sub hr.u1 (se_pk (pv 8)) se_i) (sa_cons (se_sub hr.u1 (se_pk (pv 8)) (se_neg se_i)) sa_nil))) sa_nil)))))) (sb_one (ss_ret se_b)) sb_nil)
    (sb_one (ss_if (st_cmp (cms_ne hr.units) (se_callB (cs_repr (rpc_ins (du_Ratioq_reprq G) tk) (hr.mono (by decide)) (hgd rfl)) rfl G.n_repr (by with_unfolding_all rfl) (sa_cons (se_pk (pv 5)) sa_nil)) (se_pk (pv 7))) (sb_one (ss_ret se_b)) sb_nil)))))))))))
    (sb_one (ss_ret se_b)))))
theorem cl__law_part_two_1 (G : Facts K mg T) : FnKB true P w K mg base T 13 "_law_part_two" [false] p__law_part_two 1 [] [0] [] := ⟨G.f__law_part_two, G.m__law_part_two, G.k__law_part_two, cal_of (pi := [0]) G.d__law_part_two (ok__law_part_two G) (fun _ _ _ _ _ _ us ws h1 h2 => match us, ws, h1, h2 with | [_], [], _, _ => rfl)⟩
theorem sc_law : FnScope ["script"] ["script"] (defScope s_law) := ⟨rfl, rfl, rfl, by decide +kernel, rfl, by decide +kernel, by decide +kernel⟩
def b_law (ds : List D) : M Flw :=
    (retM (andV (callP [false] p__law_part_one [0] [] [(var 0)]) (callP [false] p__law_part_two [0] [] [(var 0)])))
def p_law (ds : List D) : FR := fnOf [false] 1 (b_law ds) ds
theorem ok_law (G : Facts K mg T) : FnG true P w K mg base (L2.CX P w) 14 G.f_law G.fd_law ["script"] (spF K T [false] p_law) :=
  fn_ok (m := b_law) (Df.of_fun G.d_law) sc_law rfl (fun _ => .inl rfl) fun ds cdv A outer s H F vs E hgd hr tk => by
  exact (sb_one (ss_ret (se_and (se_callP (cl__law_part_one_1 G) hgd (hr.mono (by decide)) tk rfl (sk_pos (sa_cons (se_var (pv 0)) sa_nil))) (se_and1 (se_callP (cl__law_part_two_1 G) hgd (hr.mono (by decide)) tk rfl (sk_pos (sa_cons (se_var (pv 0)) sa_nil)))))))
end
end Fw
end

section
set_option maxRecDepth 100000
set_option maxHeartbeats 4000000
namespace Fw
open PySem L2
theorem fnOf_eq (bs : List Bool) (n : Nat) (m : M Flw) (ds : List D) (h : ds.length = bs.length) : fnOf bs n m ds = finF bs (m (initS bs ds ++ List.replicate (n - bs.length) Slot.un)) := if_pos h
theorem neD_int (i j : Int) : neD (.int i) (.int j) = some (!(i == j)) := rfl
theorem eqD_int (i j : Int) : eqD (.int i) (.int j) = some (i == j) := rfl
theorem neD_str (i j : Str) : neD (.str i) (.str j) = some (!(i == j)) := rfl
theorem eqD_str (i j : Str) : eqD (.str i) (.str j) = some (i == j) := rfl
theorem intF_int (i : Int) : intF [.int i] = some (.vl (.int i)) := rfl
theorem intF_bl (b : Bool) : intF [.bl b] = some (.vl (.int (if b then 1 else 0))) := rfl
theorem addD_int (i j : Int) : addD (.int i) (.int j) = some (.vl (.int (i + j))) := rfl
theorem subI_int (i j : Int) : subI (.int i) (.int j) = some (.vl (.int (i - j))) := rfl
theorem bits64 {i : Int} (h : i.natAbs < 2 ^ 1048578) : (Builtin.Int.intBits i : Int) ≤ 1048578 := Int.ofNat_le.mpr (PyProof.Rows.intBits_le h)
theorem mulD_ok {i j : Int} (hi : Builtin.Int.intBits i ≤ 1048578) (hj : Builtin.Int.intBits j ≤ 1048578) : mulD (.int i) (.int j) = some (.vl (.int (i * j))) := if_pos (by omega)
theorem ib {i : Int} (h : i.natAbs < 2 ^ 64) : Builtin.Int.intBits i ≤ 1048578 := Nat.le_trans (PyProof.Rows.intBits_le h) (by decide)
theorem mulD_sm {i j : Int} (hi : i.natAbs < 2 ^ 64) (hj : j.natAbs < 2 ^ 64) : mulD (.int i) (.int j) = some (.vl (.int (i * j))) := mulD_ok (ib hi) (ib hj)
theorem powD_ok {i j : Int} (hi : i.natAbs < 2 ^ 64) (h0 : 0 ≤ j) (h1 : j ≤ 1000000) : powD (.int i) (.int j) = some (.vl (.int (i ^ j.toNat))) := if_pos ⟨h0, h1, hi⟩
theorem modD_ok {i j : Int} (h : 0 < j) : modD (.int i) (.int j) = some (.vl (.int (i % j))) := if_pos h
theorem fdvD_ok {i j : Int} (h : 0 < j) (h' : j.natAbs.log2 < 9000) : fdvD (.int i) (.int j) = some (.vl (.int (i / j))) := if_pos ⟨h, h'⟩
theorem absF_int (i : Int) : absF [.int i] = some (.vl (.int (i.natAbs : Int))) := by
  show some (T1.vl (.int (if i < 0 then -i else i))) = _
  have : (if i < 0 then -i else i) = (i.natAbs : Int) := by split <;> omega
  rw [this]
theorem sub0 (a : D) (l : List D) : subD (.lst (a :: l)) (.int 0) = some (.vl a) := by
  show (atI (a :: l) 0).map T1.vl = _
  unfold atI ixN
  rw [if_pos (by decide), if_pos (by simp only [List.length_cons]; omega)] <;> rfl
theorem subT0 (a b : D) : subD (.tup [a, b]) (.int 0) = some (.vl a) := rfl
theorem subT1 (a b : D) : subD (.tup [a, b]) (.int 1) = some (.vl b) := rfl
theorem subL {ds : List D} {i : Nat} {d : D} (h : ds[i]? = some d) : subD (.lst ds) (.int (i : Int)) = some (.vl d) := by
  show (atI ds (i : Int)).map T1.vl = _
  have hi := (List.getElem?_eq_some_iff.mp h).1
  unfold atI ixN
  rw [if_pos (by omega), if_pos (by omega)]
  show (ds[(i : Int).toNat]?).map T1.vl = _
  rw [Int.toNat_natCast, h] <;> rfl
/-! ### the divisor -/
theorem gcd_step {a b : Int} (ha : 0 ≤ a) (hb : 0 ≤ b) : Int.gcd b (a % b) = Int.gcd a b := by
  obtain ⟨m, rfl⟩ := Int.eq_ofNat_of_zero_le ha
  obtain ⟨n, rfl⟩ := Int.eq_ofNat_of_zero_le hb
  rw [← Int.natCast_emod, Int.gcd_natCast_natCast, Int.gcd_natCast_natCast, Nat.gcd_comm n, Nat.gcd_comm m, ← Nat.gcd_rec n m]
theorem div_loop : ∀ (n : Nat) (a b : Int), 0 ≤ a → 0 ≤ b → b.natAbs < n → whlD (cmp (cmpI fun i j => decide (j < i)) (pk 1) (cst (.int 0))) (parM 0 1 [(var 1), (bin modD (pk 0) (pk 1))]) n [.val (.int a), .val (.int b)] = .ok .nx [.val (.int (Int.gcd a b)), .val (.int 0)]
  | 0, a, b, _, _, h => absurd h (Nat.not_lt_zero _)
  | n + 1, a, b, ha, hb, h => by
    unfold whlD
    by_cases h0 : 0 < b
    · have hm := Int.emod_nonneg a (show b ≠ 0 by omega)
      have hl := Int.emod_lt_of_pos a h0
      have ih := div_loop n b (a % b) hb hm (by omega)
      simp only [↓v_onS, ↓v_bnd, ↓v_ret, ↓v_stk, ↓v_lf, ↓v_rv, ↓v_var, ↓v_pk, ↓v_mov, ↓v_cst, ↓v_ops2, ↓v_ops1, ↓v_bin, ↓v_sub, ↓v_cmp, ↓v_un, ↓v_asV, ↓v_and, ↓v_or, ↓v_not, ↓v_if, ↓v_andV, ↓v_orV, ↓v_notV, ↓v_tst, ↓v_args0, ↓v_args1, ↓v_rvs0, ↓v_rvs1, ↓v_tup, ↓v_lst, ↓v_callB, ↓v_seq, ↓v_nx, ↓v_drop, ↓v_retM, ↓v_sto, ↓v_set, ↓v_att, ↓v_part0, ↓v_part1, ↓v_sli, ↓v_unp, ↓v_par, ↓v_seqI, ↓v_onVl, ↓v_rng, ↓v_for, ↓v_lc, ↓v_yes, ↓v_mth, ↓v_mut, ↓v_call, ↓v_meth, ↓v_cmet, ↓v_make, ↓v_makT, ↓v_makL, ↓v_callT, ↓v_six, ↓v_fld, ↓v_isi, ↓v_rs0, ↓v_try, ↓v_ise, ↓v_chn, ↓v_fmt, ↓v_lit, ↓v_cat0, ↓v_cat1, ↓v_fst, ↓v_ite, ↓reduceIte, fz, vlsO, vlO, sto1, bindAll, bind1, bindT, List.getElem?_cons_zero, List.getElem?_cons_succ, List.set_cons_zero, List.set_cons_succ, Option.map_some, Option.map_none, Option.bind_some, Option.bind_none, isTup, picks_1, picks_2, picks_21, resO, pks, putB, setO, List.nodup_cons, List.nodup_nil, List.not_mem_nil, not_false_eq_true, and_true, List.map_nil, List.map_cons, List.append_nil, List.cons_append, List.nil_append, isIns, isCls, BEq.rfl, capN, capS, Bool.false_eq_true, Bool.not_true, Bool.not_false, cmpI, modD, h0, decide_true]
      rw [ih, gcd_step ha hb]
    · have e : b = 0 := by omega
      subst e
      simp only [↓v_onS, ↓v_bnd, ↓v_ret, ↓v_stk, ↓v_lf, ↓v_rv, ↓v_var, ↓v_pk, ↓v_mov, ↓v_cst, ↓v_ops2, ↓v_ops1, ↓v_bin, ↓v_sub, ↓v_cmp, ↓v_un, ↓v_asV, ↓v_and, ↓v_or, ↓v_not, ↓v_if, ↓v_andV, ↓v_orV, ↓v_notV, ↓v_tst, ↓v_args0, ↓v_args1, ↓v_rvs0, ↓v_rvs1, ↓v_tup, ↓v_lst, ↓v_callB, ↓v_seq, ↓v_nx, ↓v_drop, ↓v_retM, ↓v_sto, ↓v_set, ↓v_att, ↓v_part0, ↓v_part1, ↓v_sli, ↓v_unp, ↓v_par, ↓v_seqI, ↓v_onVl, ↓v_rng, ↓v_for, ↓v_lc, ↓v_yes, ↓v_mth, ↓v_mut, ↓v_call, ↓v_meth, ↓v_cmet, ↓v_make, ↓v_makT, ↓v_makL, ↓v_callT, ↓v_six, ↓v_fld, ↓v_isi, ↓v_rs0, ↓v_try, ↓v_ise, ↓v_chn, ↓v_fmt, ↓v_lit, ↓v_cat0, ↓v_cat1, ↓v_fst, ↓v_ite, ↓reduceIte, fz, vlsO, vlO, sto1, bindAll, bind1, bindT, List.getElem?_cons_zero, List.getElem?_cons_succ, List.set_cons_zero, List.set_cons_succ, Option.map_some, Option.map_none, Option.bind_some, Option.bind_none, isTup, picks_1, picks_2, picks_21, resO, pks, putB, setO, List.nodup_cons, List.nodup_nil, List.not_mem_nil, not_false_eq_true, and_true, List.map_nil, List.map_cons, List.append_nil, List.cons_append, List.nil_append, isIns, isCls, BEq.rfl, capN, capS, Bool.false_eq_true, Bool.not_true, Bool.not_false, cmpI, decide_false, Int.lt_irrefl]
      rw [Int.gcd_zero_right, Int.natAbs_of_nonneg ha]
theorem p_divisor_eq {a b : Int} (ha : 0 ≤ a) (hb : 0 ≤ b) : p_divisor [.int a, .int b] = .ok false (.int (Int.gcd a b)) [] := by
  unfold p_divisor
  rw [fnOf_eq _ _ _ _ rfl]
  show finF _ (b_divisor _ [.val (.int a), .val (.int b)]) = _
  unfold b_divisor
  simp only [↓v_onS, ↓v_bnd, ↓v_ret, ↓v_stk, ↓v_lf, ↓v_rv, ↓v_var, ↓v_pk, ↓v_mov, ↓v_cst, ↓v_ops2, ↓v_ops1, ↓v_bin, ↓v_sub, ↓v_cmp, ↓v_un, ↓v_asV, ↓v_and, ↓v_or, ↓v_not, ↓v_if, ↓v_andV, ↓v_orV, ↓v_notV, ↓v_tst, ↓v_args0, ↓v_args1, ↓v_rvs0, ↓v_rvs1, ↓v_tup, ↓v_lst, ↓v_callB, ↓v_seq, ↓v_nx, ↓v_drop, ↓v_retM, ↓v_sto, ↓v_set, ↓v_att, ↓v_part0, ↓v_part1, ↓v_sli, ↓v_unp, ↓v_par, ↓v_seqI, ↓v_onVl, ↓v_rng, ↓v_for, ↓v_lc, ↓v_yes, ↓v_mth, ↓v_mut, ↓v_call, ↓v_meth, ↓v_cmet, ↓v_make, ↓v_makT, ↓v_makL, ↓v_callT, ↓v_six, ↓v_fld, ↓v_isi, ↓v_rs0, ↓v_try, ↓v_ise, ↓v_chn, ↓v_fmt, ↓v_lit, ↓v_cat0, ↓v_cat1, ↓v_fst, ↓v_ite, ↓reduceIte, fz, vlsO, vlO, sto1, bindAll, bind1, bindT, List.getElem?_cons_zero, List.getElem?_cons_succ, List.set_cons_zero, List.set_cons_succ, Option.map_some, Option.map_none, Option.bind_some, Option.bind_none, isTup, picks_1, picks_2, picks_21, resO, pks, putB, setO, List.nodup_cons, List.nodup_nil, List.not_mem_nil, not_false_eq_true, and_true, List.map_nil, List.map_cons, List.append_nil, List.cons_append, List.nil_append, isIns, isCls, BEq.rfl, capN, capS, Bool.false_eq_true, Bool.not_true, Bool.not_false]
  rw [div_loop _ a b ha hb (by show _ < _; simp [nat_of])]
  simp only [↓v_onS, ↓v_bnd, ↓v_ret, ↓v_stk, ↓v_lf, ↓v_rv, ↓v_var, ↓v_pk, ↓v_mov, ↓v_cst, ↓v_ops2, ↓v_ops1, ↓v_bin, ↓v_sub, ↓v_cmp, ↓v_un, ↓v_asV, ↓v_and, ↓v_or, ↓v_not, ↓v_if, ↓v_andV, ↓v_orV, ↓v_notV, ↓v_tst, ↓v_args0, ↓v_args1, ↓v_rvs0, ↓v_rvs1, ↓v_tup, ↓v_lst, ↓v_callB, ↓v_seq, ↓v_nx, ↓v_drop, ↓v_retM, ↓v_sto, ↓v_set, ↓v_att, ↓v_part0, ↓v_part1, ↓v_sli, ↓v_unp, ↓v_par, ↓v_seqI, ↓v_onVl, ↓v_rng, ↓v_for, ↓v_lc, ↓v_yes, ↓v_mth, ↓v_mut, ↓v_call, ↓v_meth, ↓v_cmet, ↓v_make, ↓v_makT, ↓v_makL, ↓v_callT, ↓v_six, ↓v_fld, ↓v_isi, ↓v_rs0, ↓v_try, ↓v_ise, ↓v_chn, ↓v_fmt, ↓v_lit, ↓v_cat0, ↓v_cat1, ↓v_fst, ↓v_ite, ↓reduceIte, fz, vlsO, vlO, sto1, bindAll, bind1, bindT, List.getElem?_cons_zero, List.getElem?_cons_succ, List.set_cons_zero, List.set_cons_succ, Option.map_some, Option.map_none, Option.bind_some, Option.bind_none, isTup, picks_1, picks_2, picks_21, resO, pks, putB, setO, List.nodup_cons, List.nodup_nil, List.not_mem_nil, not_false_eq_true, and_true, List.map_nil, List.map_cons, List.append_nil, List.cons_append, List.nil_append, isIns, isCls, BEq.rfl, capN, capS, Bool.false_eq_true, Bool.not_true, Bool.not_false, finF, outsO]
theorem ldiv_loop (u v : Slot) : ∀ (n : Nat) (a b : Int), 0 ≤ a → 0 ≤ b → b.natAbs < n → whlD (cmp neD (pk 3) (cst (.int 0))) (parM 2 3 [(var 3), (bin modD (callB intF [(pk 2)]) (pk 3))]) n [u, v, .val (.int a), .val (.int b)] = .ok .nx [u, v, .val (.int (Int.gcd a b)), .val (.int 0)]
  | 0, a, b, _, _, h => absurd h (Nat.not_lt_zero _)
  | n + 1, a, b, ha, hb, h => by
    unfold whlD
    by_cases h0 : b = 0
    · subst h0
      simp only [↓v_onS, ↓v_bnd, ↓v_ret, ↓v_stk, ↓v_lf, ↓v_rv, ↓v_var, ↓v_pk, ↓v_mov, ↓v_cst, ↓v_ops2, ↓v_ops1, ↓v_bin, ↓v_sub, ↓v_cmp, ↓v_un, ↓v_asV, ↓v_and, ↓v_or, ↓v_not, ↓v_if, ↓v_andV, ↓v_orV, ↓v_notV, ↓v_tst, ↓v_args0, ↓v_args1, ↓v_rvs0, ↓v_rvs1, ↓v_tup, ↓v_lst, ↓v_callB, ↓v_seq, ↓v_nx, ↓v_drop, ↓v_retM, ↓v_sto, ↓v_set, ↓v_att, ↓v_part0, ↓v_part1, ↓v_sli, ↓v_unp, ↓v_par, ↓v_seqI, ↓v_onVl, ↓v_rng, ↓v_for, ↓v_lc, ↓v_yes, ↓v_mth, ↓v_mut, ↓v_call, ↓v_meth, ↓v_cmet, ↓v_make, ↓v_makT, ↓v_makL, ↓v_callT, ↓v_six, ↓v_fld, ↓v_isi, ↓v_rs0, ↓v_try, ↓v_ise, ↓v_chn, ↓v_fmt, ↓v_lit, ↓v_cat0, ↓v_cat1, ↓v_fst, ↓v_ite, ↓reduceIte, fz, vlsO, vlO, sto1, bindAll, bind1, bindT, List.getElem?_cons_zero, List.getElem?_cons_succ, List.set_cons_zero, List.set_cons_succ, Option.map_some, Option.map_none, Option.bind_some, Option.bind_none, isTup, picks_1, picks_2, picks_21, resO, pks, putB, setO, List.nodup_cons, List.nodup_nil, List.not_mem_nil, not_false_eq_true, and_true, List.map_nil, List.map_cons, List.append_nil, List.cons_append, List.nil_append, isIns, isCls, BEq.rfl, capN, capS, Bool.false_eq_true, Bool.not_true, Bool.not_false, neD_int]
      rw [Int.gcd_zero_right, Int.natAbs_of_nonneg ha] <;> rfl
    · have hm := Int.emod_nonneg a h0
      have hl := Int.emod_lt_of_pos a (show 0 < b by omega)
      have ih := ldiv_loop u v n b (a % b) hb hm (by omega)
      have e0 : (b == 0) = false := beq_false_of_ne h0
      simp only [↓v_onS, ↓v_bnd, ↓v_ret, ↓v_stk, ↓v_lf, ↓v_rv, ↓v_var, ↓v_pk, ↓v_mov, ↓v_cst, ↓v_ops2, ↓v_ops1, ↓v_bin, ↓v_sub, ↓v_cmp, ↓v_un, ↓v_asV, ↓v_and, ↓v_or, ↓v_not, ↓v_if, ↓v_andV, ↓v_orV, ↓v_notV, ↓v_tst, ↓v_args0, ↓v_args1, ↓v_rvs0, ↓v_rvs1, ↓v_tup, ↓v_lst, ↓v_callB, ↓v_seq, ↓v_nx, ↓v_drop, ↓v_retM, ↓v_sto, ↓v_set, ↓v_att, ↓v_part0, ↓v_part1, ↓v_sli, ↓v_unp, ↓v_par, ↓v_seqI, ↓v_onVl, ↓v_rng, ↓v_for, ↓v_lc, ↓v_yes, ↓v_mth, ↓v_mut, ↓v_call, ↓v_meth, ↓v_cmet, ↓v_make, ↓v_makT, ↓v_makL, ↓v_callT, ↓v_six, ↓v_fld, ↓v_isi, ↓v_rs0, ↓v_try, ↓v_ise, ↓v_chn, ↓v_fmt, ↓v_lit, ↓v_cat0, ↓v_cat1, ↓v_fst, ↓v_ite, ↓reduceIte, fz, vlsO, vlO, sto1, bindAll, bind1, bindT, List.getElem?_cons_zero, List.getElem?_cons_succ, List.set_cons_zero, List.set_cons_succ, Option.map_some, Option.map_none, Option.bind_some, Option.bind_none, isTup, picks_1, picks_2, picks_21, resO, pks, putB, setO, List.nodup_cons, List.nodup_nil, List.not_mem_nil, not_false_eq_true, and_true, List.map_nil, List.map_cons, List.append_nil, List.cons_append, List.nil_append, isIns, isCls, BEq.rfl, capN, capS, Bool.false_eq_true, Bool.not_true, Bool.not_false, neD_int, intF_int, modD_ok (show 0 < b by omega), e0]
      rw [ih, gcd_step ha hb]
theorem p_law_divisor_eq (a b : Int) : p__law_divisor [.int a, .int b] = .ok false (.int (Int.gcd a b)) [] := by
  unfold p__law_divisor
  rw [fnOf_eq _ _ _ _ rfl]
  show finF _ (b__law_divisor _ [.val (.int a), .val (.int b), .un, .un]) = _
  unfold b__law_divisor
  simp only [↓v_onS, ↓v_bnd, ↓v_ret, ↓v_stk, ↓v_lf, ↓v_rv, ↓v_var, ↓v_pk, ↓v_mov, ↓v_cst, ↓v_ops2, ↓v_ops1, ↓v_bin, ↓v_sub, ↓v_cmp, ↓v_un, ↓v_asV, ↓v_and, ↓v_or, ↓v_not, ↓v_if, ↓v_andV, ↓v_orV, ↓v_notV, ↓v_tst, ↓v_args0, ↓v_args1, ↓v_rvs0, ↓v_rvs1, ↓v_tup, ↓v_lst, ↓v_callB, ↓v_seq, ↓v_nx, ↓v_drop, ↓v_retM, ↓v_sto, ↓v_set, ↓v_att, ↓v_part0, ↓v_part1, ↓v_sli, ↓v_unp, ↓v_par, ↓v_seqI, ↓v_onVl, ↓v_rng, ↓v_for, ↓v_lc, ↓v_yes, ↓v_mth, ↓v_mut, ↓v_call, ↓v_meth, ↓v_cmet, ↓v_make, ↓v_makT, ↓v_makL, ↓v_callT, ↓v_six, ↓v_fld, ↓v_isi, ↓v_rs0, ↓v_try, ↓v_ise, ↓v_chn, ↓v_fmt, ↓v_lit, ↓v_cat0, ↓v_cat1, ↓v_fst, ↓v_ite, ↓reduceIte, fz, vlsO, vlO, sto1, bindAll, bind1, bindT, List.getElem?_cons_zero, List.getElem?_cons_succ, List.set_cons_zero, List.set_cons_succ, Option.map_some, Option.map_none, Option.bind_some, Option.bind_none, isTup, picks_1, picks_2, picks_21, resO, pks, putB, setO, List.nodup_cons, List.nodup_nil, List.not_mem_nil, not_false_eq_true, and_true, List.map_nil, List.map_cons, List.append_nil, List.cons_append, List.nil_append, isIns, isCls, BEq.rfl, capN, capS, Bool.false_eq_true, Bool.not_true, Bool.not_false, absF_int]
  rw [ldiv_loop _ _ _ (a.natAbs : Int) (b.natAbs : Int) (by omega) (by omega) (by show _ < _; simp [nat_of])]
  simp only [↓v_onS, ↓v_bnd, ↓v_ret, ↓v_stk, ↓v_lf, ↓v_rv, ↓v_var, ↓v_pk, ↓v_mov, ↓v_cst, ↓v_ops2, ↓v_ops1, ↓v_bin, ↓v_sub, ↓v_cmp, ↓v_un, ↓v_asV, ↓v_and, ↓v_or, ↓v_not, ↓v_if, ↓v_andV, ↓v_orV, ↓v_notV, ↓v_tst, ↓v_args0, ↓v_args1, ↓v_rvs0, ↓v_rvs1, ↓v_tup, ↓v_lst, ↓v_callB, ↓v_seq, ↓v_nx, ↓v_drop, ↓v_retM, ↓v_sto, ↓v_set, ↓v_att, ↓v_part0, ↓v_part1, ↓v_sli, ↓v_unp, ↓v_par, ↓v_seqI, ↓v_onVl, ↓v_rng, ↓v_for, ↓v_lc, ↓v_yes, ↓v_mth, ↓v_mut, ↓v_call, ↓v_meth, ↓v_cmet, ↓v_make, ↓v_makT, ↓v_makL, ↓v_callT, ↓v_six, ↓v_fld, ↓v_isi, ↓v_rs0, ↓v_try, ↓v_ise, ↓v_chn, ↓v_fmt, ↓v_lit, ↓v_cat0, ↓v_cat1, ↓v_fst, ↓v_ite, ↓reduceIte, fz, vlsO, vlO, sto1, bindAll, bind1, bindT, List.getElem?_cons_zero, List.getElem?_cons_succ, List.set_cons_zero, List.set_cons_succ, Option.map_some, Option.map_none, Option.bind_some, Option.bind_none, isTup, picks_1, picks_2, picks_21, resO, pks, putB, setO, List.nodup_cons, List.nodup_nil, List.not_mem_nil, not_false_eq_true, and_true, List.map_nil, List.map_cons, List.append_nil, List.cons_append, List.nil_append, isIns, isCls, BEq.rfl, capN, capS, Bool.false_eq_true, Bool.not_true, Bool.not_false, finF, outsO]
  rfl
/-! ### the pen -/
def penD (cs : List Int) (at_ gr : Int) : D := .lst [.lst (cs.map D.int), .int at_, .int gr]
structure Pen (n : Nat) (d : D) : Prop where
  ex : ∃ (cs : List Int) (at_ gr : Int), d = penD cs at_ gr ∧ 0 ≤ at_ ∧ at_ ≤ n ∧ 0 ≤ gr ∧ cs.length ≤ 63 ∧ ∀ z ∈ cs, Builtin.Int.intBits z ≤ 1048576
theorem Pen.mono {m n : Nat} {d : D} (h : Pen m d) (k : m ≤ n) : Pen n d := by
  obtain ⟨cs, a, g, e, h0, h1, h2⟩ := h.ex
  exact ⟨cs, a, g, e, h0, by omega, h2⟩
theorem pen0 (a b c : D) : subD (.lst [a, b, c]) (.int 0) = some (.vl a) := rfl
theorem pen1 (a b c : D) : subD (.lst [a, b, c]) (.int 1) = some (.vl b) := rfl
theorem pen2 (a b c : D) : subD (.lst [a, b, c]) (.int 2) = some (.vl c) := rfl
theorem set1 (a b c d : D) : setD (.lst [a, b, c]) (.int 1) d = some (.lst [a, d, c]) := rfl
theorem set2 (a b c d : D) : setD (.lst [a, b, c]) (.int 2) d = some (.lst [a, b, d]) := rfl
theorem pdL_int : ∀ cs : List Int, pdL (cs.map D.int) = some (cs.map PyData.int)
  | [] => by unfold pdL; rfl
  | c :: cs => by
    unfold pdL
    rw [List.map_cons]
    simp only [pdL_int cs, pd]
    rfl
theorem sh_int : ∀ cs : List Int, PyData.canLayAll0 (cs.map PyData.int) = true ∧ PyData.depthAll (cs.map PyData.int) = 0
  | [] => ⟨by simp [PyData.canLayAll0], by simp [PyData.depthAll]⟩
  | c :: cs => by
    obtain ⟨h1, h2⟩ := sh_int cs
    exact ⟨by simp [PyData.canLayAll0, PyData.canLay0, h1], by simp [PyData.depthAll, PyData.depth, h2]⟩
theorem ne_nil (cs : List Int) : neD (.lst (cs.map D.int)) (.lst []) = some (!cs.isEmpty) := by
  obtain ⟨h1, h2⟩ := sh_int cs
  have e : eqvD (.lst (cs.map D.int)) (.lst []) = some cs.isEmpty := by
    unfold eqvD
    simp only [pd, pdL_int, pdL, Option.map_some]
    have s1 : SeqAt.shaped (.list (cs.map PyData.int)) = true := by
      unfold SeqAt.shaped
      simp [PyData.canLay0, PyData.depth, h1, h2]
    have s2 : SeqAt.shaped (.list []) = true := by
      unfold SeqAt.shaped
      simp [PyData.canLay0, PyData.depth, PyData.canLayAll0, PyData.depthAll]
    rw [if_pos ⟨s1, s2⟩]
    cases cs <;> simp [PyData.eqv, PyData.eqvAll]
  unfold neD nevD
  rw [e] <;> rfl
theorem lenF_lst (ds : List D) : lenF [.lst ds] = some (.vl (.int ds.length)) := rfl
def mixA (c a : Int) : Int := (c % 2147483549 + 40037 * a + 41) ^ 5 % 2147483629
def mixB (c a : Int) : Int := (mixA c a * (2 * a + 23) + 50047 * a * a + 3) ^ 3 % 2147483587
end Fw
end

section
set_option maxRecDepth 100000
set_option maxHeartbeats 4000000
namespace Fw
open PySem L2
theorem mixA_bd (c a : Int) : 0 ≤ mixA c a ∧ mixA c a < 2147483629 := ⟨Int.emod_nonneg _ (by decide), Int.emod_lt_of_pos _ (by decide)⟩
structure MixF (c a : Int) : Prop where
  m1 : mulD (.int 40037) (.int a) = some (.vl (.int (40037 * a)))
  m2 : mulD (.int 2) (.int a) = some (.vl (.int (2 * a)))
  m3 : mulD (.int (mixA c a)) (.int (2 * a + 23)) = some (.vl (.int (mixA c a * (2 * a + 23))))
  m4 : mulD (.int 50047) (.int a) = some (.vl (.int (50047 * a)))
  m5 : mulD (.int (50047 * a)) (.int a) = some (.vl (.int (50047 * a * a)))
  p1 : powD (.int (c % 2147483549 + 40037 * a + 41)) (.int 5) = some (.vl (.int ((c % 2147483549 + 40037 * a + 41) ^ 5)))
  p2 : powD (.int (mixA c a * (2 * a + 23) + 50047 * a * a + 3)) (.int 3) = some (.vl (.int ((mixA c a * (2 * a + 23) + 50047 * a * a + 3) ^ 3)))
  hA : (c % 2147483549 + 40037 * a + 41) ^ 5 % 2147483629 = mixA c a
  hB : (mixA c a * (2 * a + 23) + 50047 * a * a + 3) ^ 3 % 2147483587 = mixB c a
theorem fd32 (x : Int) : fdvD (.int x) (.int 32) = some (.vl (.int (x / 32))) := fdvD_ok (by decide) (by decide +kernel)
theorem mo1 (x : Int) : modD (.int x) (.int 2147483549) = some (.vl (.int (x % 2147483549))) := modD_ok (by decide)
theorem mo2 (x : Int) : modD (.int x) (.int 2147483629) = some (.vl (.int (x % 2147483629))) := modD_ok (by decide)
theorem mo3 (x : Int) : modD (.int x) (.int 2147483587) = some (.vl (.int (x % 2147483587))) := modD_ok (by decide)
theorem mixF (c : Int) {a : Int} (h0 : 0 ≤ a) (h1 : a ≤ 1000000) : MixF c a := by
  have b1 := Int.emod_nonneg c (show (2147483549 : Int) ≠ 0 by decide)
  have b2 := Int.emod_lt_of_pos c (show (0 : Int) < 2147483549 by decide)
  obtain ⟨b3, b4⟩ := mixA_bd c a
  have hq : mixA c a * (2 * a + 23) ≤ 2147483629 * 2000023 := by
    refine Int.le_trans (Int.mul_le_mul_of_nonneg_right (c := 2 * a + 23) (b := 2147483629) (by omega) (by omega)) ?_
    exact Int.mul_le_mul_of_nonneg_left (by omega) (by decide)
  have hq0 : 0 ≤ mixA c a * (2 * a + 23) := Int.mul_nonneg b3 (by omega)
  have hr : 50047 * a * a ≤ 50047000000 * 1000000 := by
    refine Int.le_trans (Int.mul_le_mul_of_nonneg_right (c := a) (b := 50047000000) (by omega) (by omega)) ?_
    exact Int.mul_le_mul_of_nonneg_left (by omega) (by decide)
  have hr0 : 0 ≤ 50047 * a * a := Int.mul_nonneg (by omega) h0
  exact ⟨mulD_sm (by decide) (by omega), mulD_sm (by decide) (by omega), mulD_sm (by omega) (by omega), mulD_sm (by decide) (by omega), mulD_sm (by omega) (by omega),
    powD_ok (by omega) (by decide) (by decide), powD_ok (by omega) (by decide) (by decide), rfl, rfl⟩
end Fw
end

section
set_option maxRecDepth 100000
set_option maxHeartbeats 4000000
namespace Fw
open PySem L2
/-- what a draw gives -/
def Drew (n : Nat) (many : Int) (f : FR) : Prop := ∃ r pen', f = .ok false (.int r) [pen'] ∧ 0 ≤ r ∧ r < many ∧ Pen n pen'
theorem getcs {cs : List Int} (i : Nat) (h : i < cs.length) : (cs.map D.int)[i]? = some (.int cs[i]) := by
  rw [List.getElem?_map, List.getElem?_eq_getElem h] <;> rfl
theorem Pen.mk' {n : Nat} {cs : List Int} {at_ gr : Int} (h0 : 0 ≤ at_) (h1 : at_ ≤ n) (h2 : 0 ≤ gr) (h3 : cs.length ≤ 63) (h4 : ∀ z ∈ cs, Builtin.Int.intBits z ≤ 1048576) : Pen n (.lst [.lst (cs.map D.int), .int at_, .int gr]) :=
  ⟨cs, at_, gr, rfl, h0, h1, h2, h3, h4⟩
theorem draw_ok {n : Nat} {pen : D} {many : Int} (P : Pen n pen) (hn : n ≤ 1000000) (h0 : 0 < many) (h1 : many.natAbs.log2 < 9000) : Drew (n + 1) many (p__law_draw [pen, .int many]) := by
  obtain ⟨cs, at_, gr, rfl, ha, ha', hg, hl, hb⟩ := P.ex
  unfold p__law_draw
  rw [fnOf_eq _ _ _ _ rfl]
  show Drew _ _ (finF _ (b__law_draw _ [.own true (penD cs at_ gr), .val (.int many), .un, .un, .un, .un, .un]))
  unfold b__law_draw penD
  have o4 (x : Int) : modD (.int x) (.int many) = some (.vl (.int (x % many))) := modD_ok h0
  have f4 (x : Int) : fdvD (.int x) (.int many) = some (.vl (.int (x / many))) := fdvD_ok h0 h1
  have c0 : ((0 : Nat) : Int) = 0 := rfl
  have nn : neD (.lst []) (.lst []) = some false := ne_nil []
  have m1 : mulD (.int 30029) (.int at_) = some (.vl (.int (30029 * at_))) := mulD_sm (by decide) (by omega)
  have pw : powD (.int 10) (.int 18) = some (.vl (.int (10 ^ (18 : Int).toNat))) := powD_ok (by decide) (by decide) (by decide)
  by_cases hz : 0 < gr
  · simp only [↓v_onS, ↓v_bnd, ↓v_ret, ↓v_stk, ↓v_lf, ↓v_rv, ↓v_var, ↓v_pk, ↓v_mov, ↓v_cst, ↓v_ops2, ↓v_ops1, ↓v_bin, ↓v_sub, ↓v_cmp, ↓v_un, ↓v_asV, ↓v_and, ↓v_or, ↓v_not, ↓v_if, ↓v_andV, ↓v_orV, ↓v_notV, ↓v_tst, ↓v_args0, ↓v_args1, ↓v_rvs0, ↓v_rvs1, ↓v_tup, ↓v_lst, ↓v_callB, ↓v_seq, ↓v_nx, ↓v_drop, ↓v_retM, ↓v_sto, ↓v_set, ↓v_att, ↓v_part0, ↓v_part1, ↓v_sli, ↓v_unp, ↓v_par, ↓v_seqI, ↓v_onVl, ↓v_rng, ↓v_for, ↓v_lc, ↓v_yes, ↓v_mth, ↓v_mut, ↓v_call, ↓v_meth, ↓v_cmet, ↓v_make, ↓v_makT, ↓v_makL, ↓v_callT, ↓v_six, ↓v_fld, ↓v_isi, ↓v_rs0, ↓v_try, ↓v_ise, ↓v_chn, ↓v_fmt, ↓v_lit, ↓v_cat0, ↓v_cat1, ↓v_fst, ↓v_ite, ↓reduceIte, fz, vlsO, vlO, sto1, bindAll, bind1, bindT, List.getElem?_cons_zero, List.getElem?_cons_succ, List.set_cons_zero, List.set_cons_succ, Option.map_some, Option.map_none, Option.bind_some, Option.bind_none, isTup, picks_1, picks_2, picks_21, resO, pks, putB, setO, List.nodup_cons, List.nodup_nil, List.not_mem_nil, not_false_eq_true, and_true, List.map_nil, List.map_cons, List.append_nil, List.cons_append, List.nil_append, isIns, isCls, BEq.rfl, capN, capS, Bool.false_eq_true, Bool.not_true, Bool.not_false, cmpI, pen0, pen1, pen2, set1, set2, intF_int, o4, f4, hz, decide_true, finF, outsO]
    exact ⟨_, _, rfl, Int.emod_nonneg _ (by omega), Int.emod_lt_of_pos _ h0, Pen.mk' ha (by omega) (Int.ediv_nonneg hg (by omega)) hl hb⟩
  · cases cs with
    | nil =>
      have hn : ¬ at_ < (([] : List D).length : Int) := by
        rw [List.length_nil]
        omega
      have X := mixF (30029 * at_ + 59) ha (show at_ ≤ 1000000 by omega)
      simp only [↓v_onS, ↓v_bnd, ↓v_ret, ↓v_stk, ↓v_lf, ↓v_rv, ↓v_var, ↓v_pk, ↓v_mov, ↓v_cst, ↓v_ops2, ↓v_ops1, ↓v_bin, ↓v_sub, ↓v_cmp, ↓v_un, ↓v_asV, ↓v_and, ↓v_or, ↓v_not, ↓v_if, ↓v_andV, ↓v_orV, ↓v_notV, ↓v_tst, ↓v_args0, ↓v_args1, ↓v_rvs0, ↓v_rvs1, ↓v_tup, ↓v_lst, ↓v_callB, ↓v_seq, ↓v_nx, ↓v_drop, ↓v_retM, ↓v_sto, ↓v_set, ↓v_att, ↓v_part0, ↓v_part1, ↓v_sli, ↓v_unp, ↓v_par, ↓v_seqI, ↓v_onVl, ↓v_rng, ↓v_for, ↓v_lc, ↓v_yes, ↓v_mth, ↓v_mut, ↓v_call, ↓v_meth, ↓v_cmet, ↓v_make, ↓v_makT, ↓v_makL, ↓v_callT, ↓v_six, ↓v_fld, ↓v_isi, ↓v_rs0, ↓v_try, ↓v_ise, ↓v_chn, ↓v_fmt, ↓v_lit, ↓v_cat0, ↓v_cat1, ↓v_fst, ↓v_ite, ↓reduceIte, fz, vlsO, vlO, sto1, bindAll, bind1, bindT, List.getElem?_cons_zero, List.getElem?_cons_succ, List.set_cons_zero, List.set_cons_succ, Option.map_some, Option.map_none, Option.bind_some, Option.bind_none, isTup, picks_1, picks_2, picks_21, resO, pks, putB, setO, List.nodup_cons, List.nodup_nil, List.not_mem_nil, not_false_eq_true, and_true, List.map_nil, List.map_cons, List.append_nil, List.cons_append, List.nil_append, isIns, isCls, BEq.rfl, capN, capS, Bool.false_eq_true, Bool.not_true, Bool.not_false, cmpI, pen0, pen1, pen2, set1, set2, intF_int, addD_int, m1, o4, f4, hz, decide_false, nn, fd32, mo1, mo2, mo3, X.m1, X.m2, X.m3, X.m4, X.m5, X.p1, X.p2, X.hA, X.hB, finF, outsO, lenF_lst, List.map_nil, hn]
      exact ⟨_, _, rfl, Int.emod_nonneg _ (by omega), Int.emod_lt_of_pos _ h0, Pen.mk' (cs := []) (by omega) (by omega) hg (by simp) (fun _ h => (nomatch h))⟩
    | cons c0 cs =>
      have hlen : (0 : Int) < (((c0 :: cs).map D.int).length : Int) := by
        rw [List.length_map, List.length_cons]
        omega
      have hne : neD (.lst ((c0 :: cs).map D.int)) (.lst []) = some true := ne_nil (c0 :: cs)
      have om := modD_ok (i := at_) hlen
      have im := Int.emod_nonneg at_ (show (((c0 :: cs).map D.int).length : Int) ≠ 0 by omega)
      have il := Int.emod_lt_of_pos at_ hlen
      have hi : (at_ % (((c0 :: cs).map D.int).length : Int)).toNat < (c0 :: cs).length := by
        rw [List.length_map] at il im ⊢
        omega
      have hs : subD (.lst ((c0 :: cs).map D.int)) (.int (at_ % (((c0 :: cs).map D.int).length : Int))) = some (.vl (.int (c0 :: cs)[(at_ % (((c0 :: cs).map D.int).length : Int)).toNat])) := by
        have e := subL (getcs (cs := c0 :: cs) _ hi)
        rw [Int.toNat_of_nonneg im] at e
        exact e
      have hbz : Builtin.Int.intBits (c0 :: cs)[(at_ % (((c0 :: cs).map D.int).length : Int)).toNat] ≤ 1048576 := hb _ (List.getElem_mem hi)
      generalize (c0 :: cs)[(at_ % (((c0 :: cs).map D.int).length : Int)).toNat] = z at hs hbz
      generalize hcs : c0 :: cs = cc at *
      have hab : Builtin.Int.intBits (z.natAbs : Int) ≤ 1048578 := Nat.le_trans (show Builtin.Int.intBits (z.natAbs : Int) ≤ 1048576 from PySem.intBits_natAbs_le hbz) (by decide)
      have m2 : mulD (.int 2) (.int (z.natAbs : Int)) = some (.vl (.int (2 * (z.natAbs : Int)))) := mulD_ok (ib (by decide)) hab
      have X := mixF z ha (show at_ ≤ 1000000 by omega)
      by_cases c1 : at_ < ((cc.map D.int).length : Int)
      · by_cases c2 : (10 : Int) ^ (18 : Int).toNat ≤ (z.natAbs : Int)
        · simp only [↓v_onS, ↓v_bnd, ↓v_ret, ↓v_stk, ↓v_lf, ↓v_rv, ↓v_var, ↓v_pk, ↓v_mov, ↓v_cst, ↓v_ops2, ↓v_ops1, ↓v_bin, ↓v_sub, ↓v_cmp, ↓v_un, ↓v_asV, ↓v_and, ↓v_or, ↓v_not, ↓v_if, ↓v_andV, ↓v_orV, ↓v_notV, ↓v_tst, ↓v_args0, ↓v_args1, ↓v_rvs0, ↓v_rvs1, ↓v_tup, ↓v_lst, ↓v_callB, ↓v_seq, ↓v_nx, ↓v_drop, ↓v_retM, ↓v_sto, ↓v_set, ↓v_att, ↓v_part0, ↓v_part1, ↓v_sli, ↓v_unp, ↓v_par, ↓v_seqI, ↓v_onVl, ↓v_rng, ↓v_for, ↓v_lc, ↓v_yes, ↓v_mth, ↓v_mut, ↓v_call, ↓v_meth, ↓v_cmet, ↓v_make, ↓v_makT, ↓v_makL, ↓v_callT, ↓v_six, ↓v_fld, ↓v_isi, ↓v_rs0, ↓v_try, ↓v_ise, ↓v_chn, ↓v_fmt, ↓v_lit, ↓v_cat0, ↓v_cat1, ↓v_fst, ↓v_ite, ↓reduceIte, fz, vlsO, vlO, sto1, bindAll, bind1, bindT, List.getElem?_cons_zero, List.getElem?_cons_succ, List.set_cons_zero, List.set_cons_succ, Option.map_some, Option.map_none, Option.bind_some, Option.bind_none, isTup, picks_1, picks_2, picks_21, resO, pks, putB, setO, List.nodup_cons, List.nodup_nil, List.not_mem_nil, not_false_eq_true, and_true, List.map_nil, List.map_cons, List.append_nil, List.cons_append, List.nil_append, isIns, isCls, BEq.rfl, capN, capS, Bool.false_eq_true, Bool.not_true, Bool.not_false, cmpI, pen0, pen1, pen2, set1, set2, intF_int, intF_bl, addD_int, m1, o4, f4, hz, decide_false, decide_true, hne, lenF_lst, om, hs, c1, absF_int, pw, c2, m2, finF, outsO]
          exact ⟨_, _, rfl, Int.emod_nonneg _ (by omega), Int.emod_lt_of_pos _ h0, Pen.mk' (by omega) (by omega) (Int.ediv_nonneg (by split <;> omega) (by omega)) hl hb⟩
        · simp only [↓v_onS, ↓v_bnd, ↓v_ret, ↓v_stk, ↓v_lf, ↓v_rv, ↓v_var, ↓v_pk, ↓v_mov, ↓v_cst, ↓v_ops2, ↓v_ops1, ↓v_bin, ↓v_sub, ↓v_cmp, ↓v_un, ↓v_asV, ↓v_and, ↓v_or, ↓v_not, ↓v_if, ↓v_andV, ↓v_orV, ↓v_notV, ↓v_tst, ↓v_args0, ↓v_args1, ↓v_rvs0, ↓v_rvs1, ↓v_tup, ↓v_lst, ↓v_callB, ↓v_seq, ↓v_nx, ↓v_drop, ↓v_retM, ↓v_sto, ↓v_set, ↓v_att, ↓v_part0, ↓v_part1, ↓v_sli, ↓v_unp, ↓v_par, ↓v_seqI, ↓v_onVl, ↓v_rng, ↓v_for, ↓v_lc, ↓v_yes, ↓v_mth, ↓v_mut, ↓v_call, ↓v_meth, ↓v_cmet, ↓v_make, ↓v_makT, ↓v_makL, ↓v_callT, ↓v_six, ↓v_fld, ↓v_isi, ↓v_rs0, ↓v_try, ↓v_ise, ↓v_chn, ↓v_fmt, ↓v_lit, ↓v_cat0, ↓v_cat1, ↓v_fst, ↓v_ite, ↓reduceIte, fz, vlsO, vlO, sto1, bindAll, bind1, bindT, List.getElem?_cons_zero, List.getElem?_cons_succ, List.set_cons_zero, List.set_cons_succ, Option.map_some, Option.map_none, Option.bind_some, Option.bind_none, isTup, picks_1, picks_2, picks_21, resO, pks, putB, setO, List.nodup_cons, List.nodup_nil, List.not_mem_nil, not_false_eq_true, and_true, List.map_nil, List.map_cons, List.append_nil, List.cons_append, List.nil_append, isIns, isCls, BEq.rfl, capN, capS, Bool.false_eq_true, Bool.not_true, Bool.not_false, cmpI, pen0, pen1, pen2, set1, set2, intF_int, addD_int, m1, o4, f4, hz, decide_false, decide_true, hne, lenF_lst, om, hs, c1, absF_int, pw, c2, fd32, mo1, mo2, mo3, X.m1, X.m2, X.m3, X.m4, X.m5, X.p1, X.p2, X.hA, X.hB, finF, outsO]
          exact ⟨_, _, rfl, Int.emod_nonneg _ (by omega), Int.emod_lt_of_pos _ h0, Pen.mk' (by omega) (by omega) hg hl hb⟩
      · simp only [↓v_onS, ↓v_bnd, ↓v_ret, ↓v_stk, ↓v_lf, ↓v_rv, ↓v_var, ↓v_pk, ↓v_mov, ↓v_cst, ↓v_ops2, ↓v_ops1, ↓v_bin, ↓v_sub, ↓v_cmp, ↓v_un, ↓v_asV, ↓v_and, ↓v_or, ↓v_not, ↓v_if, ↓v_andV, ↓v_orV, ↓v_notV, ↓v_tst, ↓v_args0, ↓v_args1, ↓v_rvs0, ↓v_rvs1, ↓v_tup, ↓v_lst, ↓v_callB, ↓v_seq, ↓v_nx, ↓v_drop, ↓v_retM, ↓v_sto, ↓v_set, ↓v_att, ↓v_part0, ↓v_part1, ↓v_sli, ↓v_unp, ↓v_par, ↓v_seqI, ↓v_onVl, ↓v_rng, ↓v_for, ↓v_lc, ↓v_yes, ↓v_mth, ↓v_mut, ↓v_call, ↓v_meth, ↓v_cmet, ↓v_make, ↓v_makT, ↓v_makL, ↓v_callT, ↓v_six, ↓v_fld, ↓v_isi, ↓v_rs0, ↓v_try, ↓v_ise, ↓v_chn, ↓v_fmt, ↓v_lit, ↓v_cat0, ↓v_cat1, ↓v_fst, ↓v_ite, ↓reduceIte, fz, vlsO, vlO, sto1, bindAll, bind1, bindT, List.getElem?_cons_zero, List.getElem?_cons_succ, List.set_cons_zero, List.set_cons_succ, Option.map_some, Option.map_none, Option.bind_some, Option.bind_none, isTup, picks_1, picks_2, picks_21, resO, pks, putB, setO, List.nodup_cons, List.nodup_nil, List.not_mem_nil, not_false_eq_true, and_true, List.map_nil, List.map_cons, List.append_nil, List.cons_append, List.nil_append, isIns, isCls, BEq.rfl, capN, capS, Bool.false_eq_true, Bool.not_true, Bool.not_false, cmpI, pen0, pen1, pen2, set1, set2, intF_int, addD_int, m1, o4, f4, hz, decide_false, decide_true, hne, lenF_lst, om, hs, c1, fd32, mo1, mo2, mo3, X.m1, X.m2, X.m3, X.m4, X.m5, X.p1, X.p2, X.hA, X.hB, finF, outsO]
        exact ⟨_, _, rfl, Int.emod_nonneg _ (by omega), Int.emod_lt_of_pos _ h0, Pen.mk' (by omega) (by omega) hg hl hb⟩
theorem pen_ok {ns : List Int} (hl : ns.length ≤ 63) (hb : ∀ z ∈ ns, Builtin.Int.intBits z ≤ 1048576) : ∃ pen, p__law_pen [.scr ns] = .ok true pen [] ∧ Pen 0 pen := by
  unfold p__law_pen
  rw [fnOf_eq _ _ _ _ rfl]
  show ∃ pen, (finF _ (b__law_pen _ [.val (.scr ns)])) = _ ∧ _
  unfold b__law_pen
  have e : sliD (.scr ns) none (some 63) = some (.fr (.lst (ns.map D.int))) := by
    show some (T1.fr (.lst (((ns.map D.int).drop 0).take (min 63 (ns.map D.int).length - 0)))) = _
    rw [List.drop_zero, List.take_of_length_le (by rw [List.length_map]; omega)]
  have e2 : listF [.lst (ns.map D.int)] = some (.fr (.lst (ns.map D.int))) := rfl
  have e3 : ([D.lst (ns.map D.int), .int 0, .int 0]).length ≤ 100000 := by show 3 ≤ 100000; decide
  simp only [↓v_onS, ↓v_bnd, ↓v_ret, ↓v_stk, ↓v_lf, ↓v_rv, ↓v_var, ↓v_pk, ↓v_mov, ↓v_cst, ↓v_ops2, ↓v_ops1, ↓v_bin, ↓v_sub, ↓v_cmp, ↓v_un, ↓v_asV, ↓v_and, ↓v_or, ↓v_not, ↓v_if, ↓v_andV, ↓v_orV, ↓v_notV, ↓v_tst, ↓v_args0, ↓v_args1, ↓v_rvs0, ↓v_rvs1, ↓v_tup, ↓v_lst, ↓v_callB, ↓v_seq, ↓v_nx, ↓v_drop, ↓v_retM, ↓v_sto, ↓v_set, ↓v_att, ↓v_part0, ↓v_part1, ↓v_sli, ↓v_unp, ↓v_par, ↓v_seqI, ↓v_onVl, ↓v_rng, ↓v_for, ↓v_lc, ↓v_yes, ↓v_mth, ↓v_mut, ↓v_call, ↓v_meth, ↓v_cmet, ↓v_make, ↓v_makT, ↓v_makL, ↓v_callT, ↓v_six, ↓v_fld, ↓v_isi, ↓v_rs0, ↓v_try, ↓v_ise, ↓v_chn, ↓v_fmt, ↓v_lit, ↓v_cat0, ↓v_cat1, ↓v_fst, ↓v_ite, ↓reduceIte, fz, vlsO, vlO, sto1, bindAll, bind1, bindT, List.getElem?_cons_zero, List.getElem?_cons_succ, List.set_cons_zero, List.set_cons_succ, Option.map_some, Option.map_none, Option.bind_some, Option.bind_none, isTup, picks_1, picks_2, picks_21, resO, pks, putB, setO, List.nodup_cons, List.nodup_nil, List.not_mem_nil, not_false_eq_true, and_true, List.map_nil, List.map_cons, List.append_nil, List.cons_append, List.nil_append, isIns, isCls, BEq.rfl, capN, capS, Bool.false_eq_true, Bool.not_true, Bool.not_false, intD, e, e2, e3, finF, outsO]
  exact ⟨_, rfl, Pen.mk' (by omega) (by omega) (by omega) hl hb⟩
end Fw
end

section
set_option maxRecDepth 100000
set_option maxHeartbeats 4000000
namespace Fw
open PySem L2
theorem lg {m : Int} (k : Nat) (h : m.natAbs < 2 ^ k) (hk : k < 9000 := by decide) : m.natAbs.log2 < 9000 := by
  by_cases h0 : m.natAbs = 0
  · rw [h0]; decide
  · exact Nat.lt_of_lt_of_le ((Nat.log2_lt h0).mpr h) (by omega)
theorem pick3 {a b c : Int} {r : Int} (h0 : 0 ≤ r) (h1 : r < 3) : ∃ t, subD (.lst [.int a, .int b, .int c]) (.int r) = some (.vl (.int t)) ∧ (t = a ∨ t = b ∨ t = c) := by
  have : r = 0 ∨ r = 1 ∨ r = 2 := by omega
  rcases this with rfl | rfl | rfl
  · exact ⟨a, rfl, .inl rfl⟩
  · exact ⟨b, rfl, .inr (.inl rfl)⟩
  · exact ⟨c, rfl, .inr (.inr rfl)⟩
theorem gcd_pos' {t b : Int} (h : b ≠ 0) : (0 : Int) < (Int.gcd t b : Int) := by
  have : Int.gcd t b ≠ 0 := fun z => h (Int.gcd_eq_zero_iff.mp z).2
  omega
theorem gcd_le' {t b : Int} (h : b ≠ 0) : Int.gcd t b ≤ b.natAbs := Nat.le_of_dvd (by omega) (Nat.gcd_dvd_right _ _)
/-- a top and a bottom of at most these sizes -/
structure Pt (p q : Int) : Prop where
  b0 : 1 ≤ q
  b1 : q ≤ 3000
  t1 : p.natAbs ≤ 3000000
theorem parts_ok {n : Nat} {pen : D} (P : Pen n pen) (hn : n ≤ 900000) : ∃ p q pen', p__law_parts [pen] = .ok true (.tup [.int p, .int q]) [pen'] ∧ Pen (n + 6) pen' ∧ Pt p q ∧ Int.gcd p q = 1 := by
  obtain ⟨r1, n1, e1, l1, u1, P1⟩ := draw_ok P (many := 9) (by omega) (by decide) (by decide +kernel)
  obtain ⟨r2, n2, e2, l2, u2, P2⟩ := draw_ok P1 (many := 1999999) (by omega) (by decide) (lg 64 (by decide))
  obtain ⟨r3, n3, e3, l3, u3, P3⟩ := draw_ok P2 (many := 3) (by omega) (by decide) (by decide +kernel)
  obtain ⟨r4, n4, e4, l4, u4, P4⟩ := draw_ok P3 (many := 12) (by omega) (by decide) (by decide +kernel)
  obtain ⟨r5, n5, e5, l5, u5, P5⟩ := draw_ok P4 (many := 1000) (by omega) (by decide) (by decide +kernel)
  obtain ⟨r6, n6, e6, l6, u6, P6⟩ := draw_ok P5 (many := 3) (by omega) (by decide) (by decide +kernel)
  obtain ⟨t, et, ht⟩ := pick3 (a := r1 - 4) (b := r2 - 999999) (c := 0) l3 u3
  obtain ⟨b, eb, hb⟩ := pick3 (a := 1) (b := 1 + r4) (c := 1 + r5) l6 u6
  have b1 : 1 ≤ b := by rcases hb with h | h | h <;> omega
  have b2 : b ≤ 1000 := by rcases hb with h | h | h <;> omega
  have t1 : t.natAbs ≤ 999999 := by rcases ht with h | h | h <;> omega
  have g0 := gcd_pos' (t := t) (b := b) (by omega)
  have g1 := gcd_le' (t := t) (b := b) (by omega)
  have f (x : Int) : fdvD (.int x) (.int (Int.gcd t b)) = some (.vl (.int (x / (Int.gcd t b : Int)))) := fdvD_ok g0 (lg 64 (by omega))
  unfold p__law_parts
  rw [fnOf_eq _ _ _ _ rfl]
  show ∃ p q pen', finF _ (b__law_parts _ [.own true pen, .un, .un, .un]) = _ ∧ _
  unfold b__law_parts
  simp only [↓v_onS, ↓v_bnd, ↓v_ret, ↓v_stk, ↓v_lf, ↓v_rv, ↓v_var, ↓v_pk, ↓v_mov, ↓v_cst, ↓v_ops2, ↓v_ops1, ↓v_bin, ↓v_sub, ↓v_cmp, ↓v_un, ↓v_asV, ↓v_and, ↓v_or, ↓v_not, ↓v_if, ↓v_andV, ↓v_orV, ↓v_notV, ↓v_tst, ↓v_args0, ↓v_args1, ↓v_rvs0, ↓v_rvs1, ↓v_tup, ↓v_lst, ↓v_callB, ↓v_seq, ↓v_nx, ↓v_drop, ↓v_retM, ↓v_sto, ↓v_set, ↓v_att, ↓v_part0, ↓v_part1, ↓v_sli, ↓v_unp, ↓v_par, ↓v_seqI, ↓v_onVl, ↓v_rng, ↓v_for, ↓v_lc, ↓v_yes, ↓v_mth, ↓v_mut, ↓v_call, ↓v_meth, ↓v_cmet, ↓v_make, ↓v_makT, ↓v_makL, ↓v_callT, ↓v_six, ↓v_fld, ↓v_isi, ↓v_rs0, ↓v_try, ↓v_ise, ↓v_chn, ↓v_fmt, ↓v_lit, ↓v_cat0, ↓v_cat1, ↓v_fst, ↓v_ite, ↓reduceIte, fz, vlsO, vlO, sto1, bindAll, bind1, bindT, List.getElem?_cons_zero, List.getElem?_cons_succ, List.set_cons_zero, List.set_cons_succ, Option.map_some, Option.map_none, Option.bind_some, Option.bind_none, isTup, picks_1, picks_2, picks_21, resO, pks, putB, setO, List.nodup_cons, List.nodup_nil, List.not_mem_nil, not_false_eq_true, and_true, List.map_nil, List.map_cons, List.append_nil, List.cons_append, List.nil_append, isIns, isCls, BEq.rfl, capN, capS, Bool.false_eq_true, Bool.not_true, Bool.not_false, e1, e2, e3, e4, e5, e6, subI_int, addD_int, et, eb, p_law_divisor_eq, f, finF, outsO]
  refine ⟨_, _, _, rfl, P6, ⟨?_, ?_, ?_⟩, ?_⟩
  · have := Int.le_ediv_of_mul_le (a := 1) g0 (show 1 * (Int.gcd t b : Int) ≤ b by omega)
    exact this
  · exact Int.le_trans (Int.ediv_le_self _ (by omega)) (by omega)
  · rw [Int.natAbs_ediv_of_dvd (Int.gcd_dvd_left ..)]
    exact Nat.le_trans (Nat.div_le_self _ _) (by omega)
  · exact Int.gcd_ediv_gcd_ediv_gcd (by omega)
theorem p_is_integer_int (i : Int) : p_is_integer [.int i] = .ok false (.bl true) [] := rfl
/-- the fraction of a top and a bottom -/
def nT (t b : Int) : Int := (if b < 0 then -t else t) / (Int.gcd t b : Int)
def nB (t b : Int) : Int := (b.natAbs : Int) / (Int.gcd t b : Int)
theorem init_ok {t b : Int} (hb : b ≠ 0) (hs : b.natAbs < 2 ^ 8000) : p_Ratioq_initq [.ins 2 [], .int t, .int b] = .ok false .non [.ins 2 [.int (nT t b), .int (nB t b)]] := by
  have g0 := gcd_pos' (t := t) (b := b) hb
  have g1 := gcd_le' (t := t) (b := b) hb
  have f (x : Int) : fdvD (.int x) (.int (Int.gcd t b)) = some (.vl (.int (x / (Int.gcd t b : Int)))) := fdvD_ok g0 (lg 8000 (by omega))
  have ef (a c : Int) : p_divisor [.int (a.natAbs : Int), .int (c.natAbs : Int)] = .ok false (.int (Int.gcd a c)) [] := by
    rw [p_divisor_eq (by omega) (by omega)]
    rfl
  have e0 : (b == 0) = false := beq_false_of_ne hb
  have x1 (y : Int) : fldD ix_top (.int y) (.ins 2 []) = some (.ins 2 [.int y]) := rfl
  have x2 (x y : Int) : fldD ix_bottom (.int y) (.ins 2 [.int x]) = some (.ins 2 [.int x, .int y]) := rfl
  unfold p_Ratioq_initq
  rw [fnOf_eq _ _ _ _ rfl]
  show finF _ (b_Ratioq_initq _ [.own true (.ins 2 []), .val (.int t), .val (.int b), .un]) = _
  unfold b_Ratioq_initq
  by_cases h : b < 0
  · simp only [↓v_onS, ↓v_bnd, ↓v_ret, ↓v_stk, ↓v_lf, ↓v_rv, ↓v_var, ↓v_pk, ↓v_mov, ↓v_cst, ↓v_ops2, ↓v_ops1, ↓v_bin, ↓v_sub, ↓v_cmp, ↓v_un, ↓v_asV, ↓v_and, ↓v_or, ↓v_not, ↓v_if, ↓v_andV, ↓v_orV, ↓v_notV, ↓v_tst, ↓v_args0, ↓v_args1, ↓v_rvs0, ↓v_rvs1, ↓v_tup, ↓v_lst, ↓v_callB, ↓v_seq, ↓v_nx, ↓v_drop, ↓v_retM, ↓v_sto, ↓v_set, ↓v_att, ↓v_part0, ↓v_part1, ↓v_sli, ↓v_unp, ↓v_par, ↓v_seqI, ↓v_onVl, ↓v_rng, ↓v_for, ↓v_lc, ↓v_yes, ↓v_mth, ↓v_mut, ↓v_call, ↓v_meth, ↓v_cmet, ↓v_make, ↓v_makT, ↓v_makL, ↓v_callT, ↓v_six, ↓v_fld, ↓v_isi, ↓v_rs0, ↓v_try, ↓v_ise, ↓v_chn, ↓v_fmt, ↓v_lit, ↓v_cat0, ↓v_cat1, ↓v_fst, ↓v_ite, ↓reduceIte, fz, vlsO, vlO, sto1, bindAll, bind1, bindT, List.getElem?_cons_zero, List.getElem?_cons_succ, List.set_cons_zero, List.set_cons_succ, Option.map_some, Option.map_none, Option.bind_some, Option.bind_none, isTup, picks_1, picks_2, picks_21, resO, pks, putB, setO, List.nodup_cons, List.nodup_nil, List.not_mem_nil, not_false_eq_true, and_true, List.map_nil, List.map_cons, List.append_nil, List.cons_append, List.nil_append, isIns, isCls, BEq.rfl, capN, capS, Bool.false_eq_true, Bool.not_true, Bool.not_false, p_is_integer_int, truD, eqD_int, e0, absF_int, ef, cmpI, h, decide_true, negD, f, x1, x2, finF, outsO, nT, nB]
  · simp only [↓v_onS, ↓v_bnd, ↓v_ret, ↓v_stk, ↓v_lf, ↓v_rv, ↓v_var, ↓v_pk, ↓v_mov, ↓v_cst, ↓v_ops2, ↓v_ops1, ↓v_bin, ↓v_sub, ↓v_cmp, ↓v_un, ↓v_asV, ↓v_and, ↓v_or, ↓v_not, ↓v_if, ↓v_andV, ↓v_orV, ↓v_notV, ↓v_tst, ↓v_args0, ↓v_args1, ↓v_rvs0, ↓v_rvs1, ↓v_tup, ↓v_lst, ↓v_callB, ↓v_seq, ↓v_nx, ↓v_drop, ↓v_retM, ↓v_sto, ↓v_set, ↓v_att, ↓v_part0, ↓v_part1, ↓v_sli, ↓v_unp, ↓v_par, ↓v_seqI, ↓v_onVl, ↓v_rng, ↓v_for, ↓v_lc, ↓v_yes, ↓v_mth, ↓v_mut, ↓v_call, ↓v_meth, ↓v_cmet, ↓v_make, ↓v_makT, ↓v_makL, ↓v_callT, ↓v_six, ↓v_fld, ↓v_isi, ↓v_rs0, ↓v_try, ↓v_ise, ↓v_chn, ↓v_fmt, ↓v_lit, ↓v_cat0, ↓v_cat1, ↓v_fst, ↓v_ite, ↓reduceIte, fz, vlsO, vlO, sto1, bindAll, bind1, bindT, List.getElem?_cons_zero, List.getElem?_cons_succ, List.set_cons_zero, List.set_cons_succ, Option.map_some, Option.map_none, Option.bind_some, Option.bind_none, isTup, picks_1, picks_2, picks_21, resO, pks, putB, setO, List.nodup_cons, List.nodup_nil, List.not_mem_nil, not_false_eq_true, and_true, List.map_nil, List.map_cons, List.append_nil, List.cons_append, List.nil_append, isIns, isCls, BEq.rfl, capN, capS, Bool.false_eq_true, Bool.not_true, Bool.not_false, p_is_integer_int, truD, eqD_int, e0, absF_int, ef, cmpI, h, decide_false, negD, f, x1, x2, finF, outsO, nT, nB]
end Fw
end

section
set_option maxRecDepth 100000
set_option maxHeartbeats 4000000
namespace Fw
open PySem L2 SX
/-! ### numbers as texts -/
def numZ (i : Int) : List Nat := if i < 0 then 45 :: TL.numL i.natAbs else TL.numL i.natAbs
theorem sO (x : String) : Str.ofString x = S (x.toList.map Char.toNat) := Str.ofString_eq_toList x
theorem num_Z (i : Int) : Str.ofString (toString i) = S (numZ i) := by
  unfold numZ
  by_cases h : i < 0
  · rw [if_pos h, sO, Int.toString_eq_repr, Int.repr_eq_if, if_neg (by omega)]
    rw [String.toList_append, List.map_append, Nat.toList_repr]
    have e : (-i).toNat = i.natAbs := by omega
    rw [e] <;> rfl
  · rw [if_neg h]
    obtain ⟨m, rfl⟩ := Int.eq_ofNat_of_zero_le (show 0 ≤ i by omega)
    exact num_S m
theorem numL_le {n : Nat} (k : Nat) (hk : 0 < k) (h : n < 10 ^ k) : (TL.numL n).length ≤ k := TL.numL_len hk h
theorem strF_int {i : Int} (h : i.natAbs.log2 < 1920) : strF [.int i] = some (.vl (.str (S (numZ i)))) := by
  show (if i.natAbs.log2 < 1920 then some (T1.vl (.str (Str.ofString (toString i)))) else none) = _
  rw [if_pos h, num_Z]
theorem fmtD_int {i : Int} (h : i.natAbs.log2 < 1920) : fmtD (.int i) = some (S (numZ i)) := by
  show (if i.natAbs.log2 < 1920 then some (Str.ofString (toString i)) else none) = _
  rw [if_pos h, num_Z]
theorem addD_S {a b : List Nat} (h : a.length + b.length ≤ 1000000) : addD (.str (S a)) (.str (S b)) = some (.vl (.str (S (a ++ b)))) := by
  show (if (S a).length + (S b).length ≤ 1000000 then some (T1.vl (.str (S a ++ S b))) else none) = _
  rw [S_len, S_len, if_pos h, S_cat]
theorem lg' {m : Int} (k : Nat) (h : m.natAbs < 2 ^ k) (hk : k < 1920 := by decide) : m.natAbs.log2 < 1920 := by
  by_cases h0 : m.natAbs = 0
  · rw [h0]; decide
  · exact Nat.lt_of_lt_of_le ((Nat.log2_lt h0).mpr h) (by omega)
theorem numZ_len {i : Int} (h : i.natAbs < 10 ^ 61) : (numZ i).length ≤ 62 := by
  have := numL_le 61 (by decide) h
  unfold numZ
  split
  · rw [List.length_cons]; omega
  · omega
theorem tenE {n : Nat} (h : n < 10 ^ 61) : n < 2 ^ 204 := Nat.lt_trans h (by decide)
/-- the text of a top and a bottom -/
def txt (t b : Int) : List Nat := if b = 1 then numZ t else numZ t ++ [47] ++ numZ b
theorem txt_len {t b : Int} (h : t.natAbs < 10 ^ 61) (h' : b.natAbs < 10 ^ 61) : (txt t b).length ≤ 200 := by
  have := numZ_len h
  have := numZ_len h'
  unfold txt
  split
  · omega
  · simp only [List.length_append, List.length_singleton]; omega
theorem sl : Str.ofString "/" = S [47] := by decide +kernel
theorem emp (a : Str) : Str.empty ++ a = a := by
  have e := S_cat [] a.cps.toList
  rw [S_tl] at e
  exact e.trans (by rw [List.nil_append, S_tl])
theorem law_text_ok {t b : Int} (h : t.natAbs < 10 ^ 61) (h' : b.natAbs < 10 ^ 61) : p__law_text [.int t, .int b] = .ok false (.str (S (txt t b))) [] := by
  have l1 := numZ_len h
  have l2 := numZ_len h'
  have a1 : addD (.str (S (numZ t))) (.str (S [47])) = some (.vl (.str (S (numZ t ++ [47])))) := addD_S (by simp only [List.length_singleton]; omega)
  have a2 : addD (.str (S (numZ t ++ [47]))) (.str (S (numZ b))) = some (.vl (.str (S (numZ t ++ [47] ++ numZ b)))) := addD_S (by simp only [List.length_append, List.length_singleton]; omega)
  unfold p__law_text
  rw [fnOf_eq _ _ _ _ rfl]
  show finF _ (b__law_text _ [.val (.int t), .val (.int b)]) = _
  unfold b__law_text txt
  by_cases hb : b = 1
  · have eb : (b == 1) = true := beq_iff_eq.mpr hb
    simp only [↓v_onS, ↓v_bnd, ↓v_ret, ↓v_stk, ↓v_lf, ↓v_rv, ↓v_var, ↓v_pk, ↓v_mov, ↓v_cst, ↓v_ops2, ↓v_ops1, ↓v_bin, ↓v_sub, ↓v_cmp, ↓v_un, ↓v_asV, ↓v_and, ↓v_or, ↓v_not, ↓v_if, ↓v_andV, ↓v_orV, ↓v_notV, ↓v_tst, ↓v_args0, ↓v_args1, ↓v_rvs0, ↓v_rvs1, ↓v_tup, ↓v_lst, ↓v_callB, ↓v_seq, ↓v_nx, ↓v_drop, ↓v_retM, ↓v_sto, ↓v_set, ↓v_att, ↓v_part0, ↓v_part1, ↓v_sli, ↓v_unp, ↓v_par, ↓v_seqI, ↓v_onVl, ↓v_rng, ↓v_for, ↓v_lc, ↓v_yes, ↓v_mth, ↓v_mut, ↓v_call, ↓v_meth, ↓v_cmet, ↓v_make, ↓v_makT, ↓v_makL, ↓v_callT, ↓v_six, ↓v_fld, ↓v_isi, ↓v_rs0, ↓v_try, ↓v_ise, ↓v_chn, ↓v_fmt, ↓v_lit, ↓v_cat0, ↓v_cat1, ↓v_fst, ↓v_ite, ↓reduceIte, fz, vlsO, vlO, sto1, bindAll, bind1, bindT, List.getElem?_cons_zero, List.getElem?_cons_succ, List.set_cons_zero, List.set_cons_succ, Option.map_some, Option.map_none, Option.bind_some, Option.bind_none, isTup, picks_1, picks_2, picks_21, resO, pks, putB, setO, List.nodup_cons, List.nodup_nil, List.not_mem_nil, not_false_eq_true, and_true, List.map_nil, List.map_cons, List.append_nil, List.cons_append, List.nil_append, isIns, isCls, BEq.rfl, capN, capS, Bool.false_eq_true, Bool.not_true, Bool.not_false, eqD_int, eb, strF_int (lg' 204 (tenE h)), finF, outsO, hb]
  · have eb : (b == 1) = false := beq_false_of_ne hb
    simp only [↓v_onS, ↓v_bnd, ↓v_ret, ↓v_stk, ↓v_lf, ↓v_rv, ↓v_var, ↓v_pk, ↓v_mov, ↓v_cst, ↓v_ops2, ↓v_ops1, ↓v_bin, ↓v_sub, ↓v_cmp, ↓v_un, ↓v_asV, ↓v_and, ↓v_or, ↓v_not, ↓v_if, ↓v_andV, ↓v_orV, ↓v_notV, ↓v_tst, ↓v_args0, ↓v_args1, ↓v_rvs0, ↓v_rvs1, ↓v_tup, ↓v_lst, ↓v_callB, ↓v_seq, ↓v_nx, ↓v_drop, ↓v_retM, ↓v_sto, ↓v_set, ↓v_att, ↓v_part0, ↓v_part1, ↓v_sli, ↓v_unp, ↓v_par, ↓v_seqI, ↓v_onVl, ↓v_rng, ↓v_for, ↓v_lc, ↓v_yes, ↓v_mth, ↓v_mut, ↓v_call, ↓v_meth, ↓v_cmet, ↓v_make, ↓v_makT, ↓v_makL, ↓v_callT, ↓v_six, ↓v_fld, ↓v_isi, ↓v_rs0, ↓v_try, ↓v_ise, ↓v_chn, ↓v_fmt, ↓v_lit, ↓v_cat0, ↓v_cat1, ↓v_fst, ↓v_ite, ↓reduceIte, fz, vlsO, vlO, sto1, bindAll, bind1, bindT, List.getElem?_cons_zero, List.getElem?_cons_succ, List.set_cons_zero, List.set_cons_succ, Option.map_some, Option.map_none, Option.bind_some, Option.bind_none, isTup, picks_1, picks_2, picks_21, resO, pks, putB, setO, List.nodup_cons, List.nodup_nil, List.not_mem_nil, not_false_eq_true, and_true, List.map_nil, List.map_cons, List.append_nil, List.cons_append, List.nil_append, isIns, isCls, BEq.rfl, capN, capS, Bool.false_eq_true, Bool.not_true, Bool.not_false, eqD_int, eb, strF_int (lg' 204 (tenE h)), strF_int (lg' 204 (tenE h')), sl, a1, a2, finF, outsO, hb]
theorem at_top (t b : Int) : attD ix_top (.ins 2 [.int t, .int b]) = some (.int t) := rfl
theorem at_bottom (t b : Int) : attD ix_bottom (.ins 2 [.int t, .int b]) = some (.int b) := rfl
theorem str_ok {t b : Int} (h : t.natAbs < 10 ^ 61) (h' : b.natAbs < 10 ^ 61) : p_Ratioq_strq [.ins 2 [.int t, .int b]] = .ok false (.str (S (txt t b))) [] := by
  have l1 := numZ_len h
  have l2 := numZ_len h'
  unfold p_Ratioq_strq
  rw [fnOf_eq _ _ _ _ rfl]
  show finF _ (b_Ratioq_strq _ [.val (.ins 2 [.int t, .int b])]) = _
  unfold b_Ratioq_strq txt
  by_cases hb : b = 1
  · have eb : (b == 1) = true := beq_iff_eq.mpr hb
    simp only [↓v_onS, ↓v_bnd, ↓v_ret, ↓v_stk, ↓v_lf, ↓v_rv, ↓v_var, ↓v_pk, ↓v_mov, ↓v_cst, ↓v_ops2, ↓v_ops1, ↓v_bin, ↓v_sub, ↓v_cmp, ↓v_un, ↓v_asV, ↓v_and, ↓v_or, ↓v_not, ↓v_if, ↓v_andV, ↓v_orV, ↓v_notV, ↓v_tst, ↓v_args0, ↓v_args1, ↓v_rvs0, ↓v_rvs1, ↓v_tup, ↓v_lst, ↓v_callB, ↓v_seq, ↓v_nx, ↓v_drop, ↓v_retM, ↓v_sto, ↓v_set, ↓v_att, ↓v_part0, ↓v_part1, ↓v_sli, ↓v_unp, ↓v_par, ↓v_seqI, ↓v_onVl, ↓v_rng, ↓v_for, ↓v_lc, ↓v_yes, ↓v_mth, ↓v_mut, ↓v_call, ↓v_meth, ↓v_cmet, ↓v_make, ↓v_makT, ↓v_makL, ↓v_callT, ↓v_six, ↓v_fld, ↓v_isi, ↓v_rs0, ↓v_try, ↓v_ise, ↓v_chn, ↓v_fmt, ↓v_lit, ↓v_cat0, ↓v_cat1, ↓v_fst, ↓v_ite, ↓reduceIte, fz, vlsO, vlO, sto1, bindAll, bind1, bindT, List.getElem?_cons_zero, List.getElem?_cons_succ, List.set_cons_zero, List.set_cons_succ, Option.map_some, Option.map_none, Option.bind_some, Option.bind_none, isTup, picks_1, picks_2, picks_21, resO, pks, putB, setO, List.nodup_cons, List.nodup_nil, List.not_mem_nil, not_false_eq_true, and_true, List.map_nil, List.map_cons, List.append_nil, List.cons_append, List.nil_append, isIns, isCls, BEq.rfl, capN, capS, Bool.false_eq_true, Bool.not_true, Bool.not_false, at_top, at_bottom, eqD_int, eb, strF_int (lg' 204 (tenE h)), finF, outsO, hb]
  · have eb : (b == 1) = false := beq_false_of_ne hb
    have c1 : (S (numZ t)).length ≤ 1000000 := by rw [S_len]; omega
    have c2 : (S (numZ t ++ [47])).length ≤ 1000000 := by rw [S_len, List.length_append, List.length_singleton]; omega
    have c3 : (S (numZ t ++ [47] ++ numZ b)).length ≤ 1000000 := by rw [S_len, List.length_append, List.length_append, List.length_singleton]; omega
    simp only [↓v_onS, ↓v_bnd, ↓v_ret, ↓v_stk, ↓v_lf, ↓v_rv, ↓v_var, ↓v_pk, ↓v_mov, ↓v_cst, ↓v_ops2, ↓v_ops1, ↓v_bin, ↓v_sub, ↓v_cmp, ↓v_un, ↓v_asV, ↓v_and, ↓v_or, ↓v_not, ↓v_if, ↓v_andV, ↓v_orV, ↓v_notV, ↓v_tst, ↓v_args0, ↓v_args1, ↓v_rvs0, ↓v_rvs1, ↓v_tup, ↓v_lst, ↓v_callB, ↓v_seq, ↓v_nx, ↓v_drop, ↓v_retM, ↓v_sto, ↓v_set, ↓v_att, ↓v_part0, ↓v_part1, ↓v_sli, ↓v_unp, ↓v_par, ↓v_seqI, ↓v_onVl, ↓v_rng, ↓v_for, ↓v_lc, ↓v_yes, ↓v_mth, ↓v_mut, ↓v_call, ↓v_meth, ↓v_cmet, ↓v_make, ↓v_makT, ↓v_makL, ↓v_callT, ↓v_six, ↓v_fld, ↓v_isi, ↓v_rs0, ↓v_try, ↓v_ise, ↓v_chn, ↓v_fmt, ↓v_lit, ↓v_cat0, ↓v_cat1, ↓v_fst, ↓v_ite, ↓reduceIte, fz, vlsO, vlO, sto1, bindAll, bind1, bindT, List.getElem?_cons_zero, List.getElem?_cons_succ, List.set_cons_zero, List.set_cons_succ, Option.map_some, Option.map_none, Option.bind_some, Option.bind_none, isTup, picks_1, picks_2, picks_21, resO, pks, putB, setO, List.nodup_cons, List.nodup_nil, List.not_mem_nil, not_false_eq_true, and_true, List.map_nil, List.map_cons, List.append_nil, List.cons_append, List.nil_append, isIns, isCls, BEq.rfl, capN, capS, Bool.false_eq_true, Bool.not_true, Bool.not_false, at_top, at_bottom, eqD_int, eb, fmtD_int (lg' 204 (tenE h)), fmtD_int (lg' 204 (tenE h')), sl, emp, S_cat, c1, c2, c3, finF, outsO, hb]
/-- repr of a fraction -/
def rtx (t b : Int) : List Nat := [82, 97, 116, 105, 111, 40] ++ numZ t ++ [44, 32] ++ numZ b ++ [41]
theorem sR : Str.ofString "Ratio(" = S [82, 97, 116, 105, 111, 40] := by decide +kernel
theorem sC : Str.ofString ", " = S [44, 32] := by decide +kernel
theorem sP : Str.ofString ")" = S [41] := by decide +kernel
theorem repr_ok {t b : Int} (h : t.natAbs < 10 ^ 61) (h' : b.natAbs < 10 ^ 61) : p_Ratioq_reprq [.ins 2 [.int t, .int b]] = .ok false (.str (S (rtx t b))) [] := by
  have l1 := numZ_len h
  have l2 := numZ_len h'
  unfold p_Ratioq_reprq
  rw [fnOf_eq _ _ _ _ rfl]
  show finF _ (b_Ratioq_reprq _ [.val (.ins 2 [.int t, .int b])]) = _
  unfold b_Ratioq_reprq rtx
  have c0 : (S [82, 97, 116, 105, 111, 40]).length ≤ 1000000 := by decide
  have c1 : (S ([82, 97, 116, 105, 111, 40] ++ numZ t)).length ≤ 1000000 := by rw [S_len]; simp only [List.length_append, List.length_cons, List.length_nil]; omega
  have c2 : (S ([82, 97, 116, 105, 111, 40] ++ numZ t ++ [44, 32])).length ≤ 1000000 := by rw [S_len]; simp only [List.length_append, List.length_cons, List.length_nil]; omega
  have c3 : (S ([82, 97, 116, 105, 111, 40] ++ numZ t ++ [44, 32] ++ numZ b)).length ≤ 1000000 := by rw [S_len]; simp only [List.length_append, List.length_cons, List.length_nil]; omega
  have c4 : (S ([82, 97, 116, 105, 111, 40] ++ numZ t ++ [44, 32] ++ numZ b ++ [41])).length ≤ 1000000 := by rw [S_len]; simp only [List.length_append, List.length_cons, List.length_nil]; omega
  have q0 := emp (S [82, 97, 116, 105, 111, 40])
  have q1 := S_cat [82, 97, 116, 105, 111, 40] (numZ t)
  have q2 := S_cat ([82, 97, 116, 105, 111, 40] ++ numZ t) [44, 32]
  have q3 := S_cat ([82, 97, 116, 105, 111, 40] ++ numZ t ++ [44, 32]) (numZ b)
  have q4 := S_cat ([82, 97, 116, 105, 111, 40] ++ numZ t ++ [44, 32] ++ numZ b) [41]
  generalize [82, 97, 116, 105, 111, 40] ++ numZ t ++ [44, 32] ++ numZ b ++ [41] = L4 at *
  generalize [82, 97, 116, 105, 111, 40] ++ numZ t ++ [44, 32] ++ numZ b = L3 at *
  generalize [82, 97, 116, 105, 111, 40] ++ numZ t ++ [44, 32] = L2 at *
  generalize [82, 97, 116, 105, 111, 40] ++ numZ t = L1 at *
  simp only [↓v_onS, ↓v_bnd, ↓v_ret, ↓v_stk, ↓v_lf, ↓v_rv, ↓v_var, ↓v_pk, ↓v_mov, ↓v_cst, ↓v_ops2, ↓v_ops1, ↓v_bin, ↓v_sub, ↓v_cmp, ↓v_un, ↓v_asV, ↓v_and, ↓v_or, ↓v_not, ↓v_if, ↓v_andV, ↓v_orV, ↓v_notV, ↓v_tst, ↓v_args0, ↓v_args1, ↓v_rvs0, ↓v_rvs1, ↓v_tup, ↓v_lst, ↓v_callB, ↓v_seq, ↓v_nx, ↓v_drop, ↓v_retM, ↓v_sto, ↓v_set, ↓v_att, ↓v_part0, ↓v_part1, ↓v_sli, ↓v_unp, ↓v_par, ↓v_seqI, ↓v_onVl, ↓v_rng, ↓v_for, ↓v_lc, ↓v_yes, ↓v_mth, ↓v_mut, ↓v_call, ↓v_meth, ↓v_cmet, ↓v_make, ↓v_makT, ↓v_makL, ↓v_callT, ↓v_six, ↓v_fld, ↓v_isi, ↓v_rs0, ↓v_try, ↓v_ise, ↓v_chn, ↓v_fmt, ↓v_lit, ↓v_cat0, ↓v_cat1, ↓v_fst, ↓v_ite, ↓reduceIte, fz, vlsO, vlO, sto1, bindAll, bind1, bindT, List.getElem?_cons_zero, List.getElem?_cons_succ, List.set_cons_zero, List.set_cons_succ, Option.map_some, Option.map_none, Option.bind_some, Option.bind_none, isTup, picks_1, picks_2, picks_21, resO, pks, putB, setO, List.nodup_cons, List.nodup_nil, List.not_mem_nil, not_false_eq_true, and_true, List.map_nil, List.map_cons, List.append_nil, List.cons_append, List.nil_append, isIns, isCls, BEq.rfl, capN, capS, Bool.false_eq_true, Bool.not_true, Bool.not_false, at_top, at_bottom, fmtD_int (lg' 204 (tenE h)), fmtD_int (lg' 204 (tenE h')), sR, sC, sP, q0, q1, q2, q3, q4, c0, c1, c2, c3, c4, finF, outsO]
end Fw
end

section
set_option maxRecDepth 100000
set_option maxHeartbeats 4000000
namespace Fw
open PySem L2 SX
def dg (c : Nat) : Bool := decide (48 ≤ c) && decide (c ≤ 57)
/-- a written number: figures, no zero ahead, at most sixty -/
def wr (l : List Nat) : Bool := decide (1 ≤ l.length) && decide (l.length ≤ 60) && l.all dg && (decide (l = [48]) || decide (l.head? ≠ some 48))
def figs : List Nat := [48, 49, 50, 51, 52, 53, 54, 55, 56, 57]
theorem sF : Str.ofString "0123456789" = S figs := by decide +kernel
theorem s0 : Str.ofString "0" = S [48] := by decide +kernel
theorem s1 : Str.ofString "1" = S [49] := by decide +kernel
theorem sE : Str.ofString "" = S [] := by decide +kernel
theorem in_figs (c : Nat) : decide (c ∈ figs) = dg c := by
  unfold figs dg
  rw [Bool.eq_iff_iff]
  simp only [decide_eq_true_eq, Bool.and_eq_true, List.mem_cons, List.not_mem_nil, or_false]
  omega
theorem inD_fig (c : Nat) : inD (.str (S [c])) (.str (S figs)) = some (dg c) := by
  rw [← in_figs]
  rfl
theorem ninD_fig (c : Nat) : ninD (.str (S [c])) (.str (S figs)) = some (!dg c) := by
  unfold ninD
  rw [inD_fig] <;> rfl
def chs (l : List Nat) : List D := l.map fun c => D.str (S [c])
theorem seqD_S (l : List Nat) : seqD (.str (S l)) = some (chs l) := rfl
theorem lenF_S {l : List Nat} (h : l.length ≤ 1000000) : lenF [.str (S l)] = some (.vl (.int l.length)) := by
  show (if (S l).length ≤ 1000000 then some (T1.vl (.int (S l).length)) else none) = _
  rw [S_len, if_pos h]
theorem subS0 {c : Nat} {l : List Nat} (h : l.length < 1000000) : subD (.str (S (c :: l))) (.int 0) = some (.vl (.str (S [c]))) := by
  show (if (S (c :: l)).length ≤ 1000000 then (atI (c :: l) 0).map fun c => T1.vl (.str ⟨#[c]⟩) else none) = _
  rw [S_len, List.length_cons, if_pos (by omega)]
  unfold atI ixN
  rw [if_pos (by decide), if_pos (by rw [List.length_cons]; omega)] <;> rfl
theorem bS (a b : List Nat) : (S a == S b) = decide (a = b) := S_beq_eq
theorem wr_lc (a : D) : ∀ l : List Nat, lcR [1] (Tg.nm 1) yesM (asV (cmp inD (pk 1) (cst (.str (S figs))))) (chs l) [.val a, .un] = .ok (l.map fun c => D.bl (dg c)) [.val a, .un]
  | [] => rfl
  | c :: l => by
    unfold chs
    rw [List.map_cons]
    unfold lcR
    have ih := wr_lc a l
    unfold chs at ih
    simp only [↓v_onS, ↓v_bnd, ↓v_ret, ↓v_stk, ↓v_lf, ↓v_rv, ↓v_var, ↓v_pk, ↓v_mov, ↓v_cst, ↓v_ops2, ↓v_ops1, ↓v_bin, ↓v_sub, ↓v_cmp, ↓v_un, ↓v_asV, ↓v_and, ↓v_or, ↓v_not, ↓v_if, ↓v_andV, ↓v_orV, ↓v_notV, ↓v_tst, ↓v_args0, ↓v_args1, ↓v_rvs0, ↓v_rvs1, ↓v_tup, ↓v_lst, ↓v_callB, ↓v_seq, ↓v_nx, ↓v_drop, ↓v_retM, ↓v_sto, ↓v_set, ↓v_att, ↓v_part0, ↓v_part1, ↓v_sli, ↓v_unp, ↓v_par, ↓v_seqI, ↓v_onVl, ↓v_rng, ↓v_for, ↓v_lc, ↓v_yes, ↓v_mth, ↓v_mut, ↓v_call, ↓v_meth, ↓v_cmet, ↓v_make, ↓v_makT, ↓v_makL, ↓v_callT, ↓v_six, ↓v_fld, ↓v_isi, ↓v_rs0, ↓v_try, ↓v_ise, ↓v_chn, ↓v_fmt, ↓v_lit, ↓v_cat0, ↓v_cat1, ↓v_fst, ↓v_ite, ↓reduceIte, fz, vlsO, vlO, sto1, bindAll, bind1, bindT, List.getElem?_cons_zero, List.getElem?_cons_succ, List.set_cons_zero, List.set_cons_succ, Option.map_some, Option.map_none, Option.bind_some, Option.bind_none, isTup, picks_1, picks_2, picks_21, resO, pks, putB, setO, List.nodup_cons, List.nodup_nil, List.not_mem_nil, not_false_eq_true, and_true, List.map_nil, List.map_cons, List.append_nil, List.cons_append, List.nil_append, isIns, isCls, BEq.rfl, capN, capS, Bool.false_eq_true, Bool.not_true, Bool.not_false, inD_fig, wipeS, List.foldr_cons, List.foldr_nil, ih]
theorem bls_map : ∀ l : List Nat, blsD (l.map fun c => D.bl (dg c)) = some (l.map dg)
  | [] => rfl
  | c :: l => by
    rw [List.map_cons, List.map_cons]
    show (blsD (l.map fun c => D.bl (dg c))).map (dg c :: ·) = _
    rw [bls_map l] <;> rfl
theorem written_ok {l : List Nat} (hl : l.length ≤ 100000) : p_is_written [.str (S l)] = .ok false (.bl (wr l)) [] := by
  unfold p_is_written
  rw [fnOf_eq _ _ _ _ rfl]
  show finF _ (b_is_written _ [.val (.str (S l)), .un]) = _
  unfold b_is_written
  have e1 : lenF [.str (S l)] = some (.vl (.int l.length)) := lenF_S (by omega)
  cases l with
  | nil =>
    have n1 : ¬ ((1 : Int) ≤ (([] : List Nat).length : Int)) := by rw [List.length_nil]; omega
    simp only [↓v_onS, ↓v_bnd, ↓v_ret, ↓v_stk, ↓v_lf, ↓v_rv, ↓v_var, ↓v_pk, ↓v_mov, ↓v_cst, ↓v_ops2, ↓v_ops1, ↓v_bin, ↓v_sub, ↓v_cmp, ↓v_un, ↓v_asV, ↓v_and, ↓v_or, ↓v_not, ↓v_if, ↓v_andV, ↓v_orV, ↓v_notV, ↓v_tst, ↓v_args0, ↓v_args1, ↓v_rvs0, ↓v_rvs1, ↓v_tup, ↓v_lst, ↓v_callB, ↓v_seq, ↓v_nx, ↓v_drop, ↓v_retM, ↓v_sto, ↓v_set, ↓v_att, ↓v_part0, ↓v_part1, ↓v_sli, ↓v_unp, ↓v_par, ↓v_seqI, ↓v_onVl, ↓v_rng, ↓v_for, ↓v_lc, ↓v_yes, ↓v_mth, ↓v_mut, ↓v_call, ↓v_meth, ↓v_cmet, ↓v_make, ↓v_makT, ↓v_makL, ↓v_callT, ↓v_six, ↓v_fld, ↓v_isi, ↓v_rs0, ↓v_try, ↓v_ise, ↓v_chn, ↓v_fmt, ↓v_lit, ↓v_cat0, ↓v_cat1, ↓v_fst, ↓v_ite, ↓reduceIte, fz, vlsO, vlO, sto1, bindAll, bind1, bindT, List.getElem?_cons_zero, List.getElem?_cons_succ, List.set_cons_zero, List.set_cons_succ, Option.map_some, Option.map_none, Option.bind_some, Option.bind_none, isTup, picks_1, picks_2, picks_21, resO, pks, putB, setO, List.nodup_cons, List.nodup_nil, List.not_mem_nil, not_false_eq_true, and_true, List.map_nil, List.map_cons, List.append_nil, List.cons_append, List.nil_append, isIns, isCls, BEq.rfl, capN, capS, Bool.false_eq_true, Bool.not_true, Bool.not_false, cmpI, e1, n1, decide_false, finF, outsO]
    rfl
  | cons c l =>
    have n1 : (1 : Int) ≤ ((c :: l).length : Int) := by rw [List.length_cons]; omega
    have e2 : subD (.str (S (c :: l))) (.int 0) = some (.vl (.str (S [c]))) := subS0 (by rw [List.length_cons] at hl; omega)
    have e3 : allF [.lst ((c :: l).map fun c => D.bl (dg c))] = some (.vl (.bl ((c :: l).all dg))) := by
      show (blsD ((c :: l).map fun c => D.bl (dg c))).map (fun bs => T1.vl (.bl (bs.all id))) = _
      rw [bls_map]
      show some (T1.vl (.bl (((c :: l).map dg).all id))) = _
      rw [List.all_map] <;> rfl
    rw [List.map_cons] at e3
    have e4 : (chs (c :: l)).length ≤ 1000000 := by unfold chs; rw [List.length_map]; omega
    have w1 : decide (1 ≤ (c :: l).length) = true := by rw [List.length_cons]; simp
    by_cases h60 : ((c :: l).length : Int) ≤ 60
    · have w2 : decide ((c :: l).length ≤ 60) = true := decide_eq_true (by omega)
      by_cases hz : c = 48
      · subst hz
        by_cases hl0 : l = []
        · subst hl0
          rfl
        · have q1 : decide ((48 :: l) = [48]) = false := by
            simp [hl0]
          simp only [↓v_onS, ↓v_bnd, ↓v_ret, ↓v_stk, ↓v_lf, ↓v_rv, ↓v_var, ↓v_pk, ↓v_mov, ↓v_cst, ↓v_ops2, ↓v_ops1, ↓v_bin, ↓v_sub, ↓v_cmp, ↓v_un, ↓v_asV, ↓v_and, ↓v_or, ↓v_not, ↓v_if, ↓v_andV, ↓v_orV, ↓v_notV, ↓v_tst, ↓v_args0, ↓v_args1, ↓v_rvs0, ↓v_rvs1, ↓v_tup, ↓v_lst, ↓v_callB, ↓v_seq, ↓v_nx, ↓v_drop, ↓v_retM, ↓v_sto, ↓v_set, ↓v_att, ↓v_part0, ↓v_part1, ↓v_sli, ↓v_unp, ↓v_par, ↓v_seqI, ↓v_onVl, ↓v_rng, ↓v_for, ↓v_lc, ↓v_yes, ↓v_mth, ↓v_mut, ↓v_call, ↓v_meth, ↓v_cmet, ↓v_make, ↓v_makT, ↓v_makL, ↓v_callT, ↓v_six, ↓v_fld, ↓v_isi, ↓v_rs0, ↓v_try, ↓v_ise, ↓v_chn, ↓v_fmt, ↓v_lit, ↓v_cat0, ↓v_cat1, ↓v_fst, ↓v_ite, ↓reduceIte, fz, vlsO, vlO, sto1, bindAll, bind1, bindT, List.getElem?_cons_zero, List.getElem?_cons_succ, List.set_cons_zero, List.set_cons_succ, Option.map_some, Option.map_none, Option.bind_some, Option.bind_none, isTup, picks_1, picks_2, picks_21, resO, pks, putB, setO, List.nodup_cons, List.nodup_nil, List.not_mem_nil, not_false_eq_true, and_true, List.map_nil, List.map_cons, List.append_nil, List.cons_append, List.nil_append, isIns, isCls, BEq.rfl, capN, capS, Bool.false_eq_true, Bool.not_true, Bool.not_false, cmpI, e1, n1, h60, decide_true, e2, s0, eqD_str, neD_str, bS, q1, finF, outsO]
          unfold wr
          rw [q1]
          simp
      · have q1 : decide ([c] = [48]) = false := by simp [hz]
        simp only [↓v_onS, ↓v_bnd, ↓v_ret, ↓v_stk, ↓v_lf, ↓v_rv, ↓v_var, ↓v_pk, ↓v_mov, ↓v_cst, ↓v_ops2, ↓v_ops1, ↓v_bin, ↓v_sub, ↓v_cmp, ↓v_un, ↓v_asV, ↓v_and, ↓v_or, ↓v_not, ↓v_if, ↓v_andV, ↓v_orV, ↓v_notV, ↓v_tst, ↓v_args0, ↓v_args1, ↓v_rvs0, ↓v_rvs1, ↓v_tup, ↓v_lst, ↓v_callB, ↓v_seq, ↓v_nx, ↓v_drop, ↓v_retM, ↓v_sto, ↓v_set, ↓v_att, ↓v_part0, ↓v_part1, ↓v_sli, ↓v_unp, ↓v_par, ↓v_seqI, ↓v_onVl, ↓v_rng, ↓v_for, ↓v_lc, ↓v_yes, ↓v_mth, ↓v_mut, ↓v_call, ↓v_meth, ↓v_cmet, ↓v_make, ↓v_makT, ↓v_makL, ↓v_callT, ↓v_six, ↓v_fld, ↓v_isi, ↓v_rs0, ↓v_try, ↓v_ise, ↓v_chn, ↓v_fmt, ↓v_lit, ↓v_cat0, ↓v_cat1, ↓v_fst, ↓v_ite, ↓reduceIte, fz, vlsO, vlO, sto1, bindAll, bind1, bindT, List.getElem?_cons_zero, List.getElem?_cons_succ, List.set_cons_zero, List.set_cons_succ, Option.map_some, Option.map_none, Option.bind_some, Option.bind_none, isTup, picks_1, picks_2, picks_21, resO, pks, putB, setO, List.nodup_cons, List.nodup_nil, List.not_mem_nil, not_false_eq_true, and_true, List.map_nil, List.map_cons, List.append_nil, List.cons_append, List.nil_append, isIns, isCls, BEq.rfl, capN, capS, Bool.false_eq_true, Bool.not_true, Bool.not_false, cmpI, e1, n1, h60, decide_true, e2, s0, eqD_str, neD_str, bS, q1, sF, seqD_S, e4, notOwn, List.all_cons, List.all_nil, Bool.and_self, and_self, wipeS, List.foldr_cons, List.foldr_nil, wr_lc, backS, e3, finF, outsO]
        unfold wr
        rw [w1, w2]
        simp [hz, List.all_cons]
    · have w2 : decide ((c :: l).length ≤ 60) = false := decide_eq_false (by omega)
      simp only [↓v_onS, ↓v_bnd, ↓v_ret, ↓v_stk, ↓v_lf, ↓v_rv, ↓v_var, ↓v_pk, ↓v_mov, ↓v_cst, ↓v_ops2, ↓v_ops1, ↓v_bin, ↓v_sub, ↓v_cmp, ↓v_un, ↓v_asV, ↓v_and, ↓v_or, ↓v_not, ↓v_if, ↓v_andV, ↓v_orV, ↓v_notV, ↓v_tst, ↓v_args0, ↓v_args1, ↓v_rvs0, ↓v_rvs1, ↓v_tup, ↓v_lst, ↓v_callB, ↓v_seq, ↓v_nx, ↓v_drop, ↓v_retM, ↓v_sto, ↓v_set, ↓v_att, ↓v_part0, ↓v_part1, ↓v_sli, ↓v_unp, ↓v_par, ↓v_seqI, ↓v_onVl, ↓v_rng, ↓v_for, ↓v_lc, ↓v_yes, ↓v_mth, ↓v_mut, ↓v_call, ↓v_meth, ↓v_cmet, ↓v_make, ↓v_makT, ↓v_makL, ↓v_callT, ↓v_six, ↓v_fld, ↓v_isi, ↓v_rs0, ↓v_try, ↓v_ise, ↓v_chn, ↓v_fmt, ↓v_lit, ↓v_cat0, ↓v_cat1, ↓v_fst, ↓v_ite, ↓reduceIte, fz, vlsO, vlO, sto1, bindAll, bind1, bindT, List.getElem?_cons_zero, List.getElem?_cons_succ, List.set_cons_zero, List.set_cons_succ, Option.map_some, Option.map_none, Option.bind_some, Option.bind_none, isTup, picks_1, picks_2, picks_21, resO, pks, putB, setO, List.nodup_cons, List.nodup_nil, List.not_mem_nil, not_false_eq_true, and_true, List.map_nil, List.map_cons, List.append_nil, List.cons_append, List.nil_append, isIns, isCls, BEq.rfl, capN, capS, Bool.false_eq_true, Bool.not_true, Bool.not_false, cmpI, e1, n1, h60, decide_true, decide_false, finF, outsO]
      unfold wr
      rw [w2]
      simp

theorem pdL_S : ∀ ls : List Nat, pdL (chs ls) = some (ls.map fun c => PyData.str (S [c]))
  | [] => by
    unfold chs pdL
    rfl
  | c :: l => by
    have ih := pdL_S l
    unfold chs at ih ⊢
    rw [List.map_cons]
    unfold pdL
    simp only [ih, pd]
    rfl
theorem sh_S : ∀ ls : List Nat, (∀ c ∈ ls, c < 128) → PyData.canLayAll0 (ls.map fun c => PyData.str (S [c])) = true ∧ PyData.depthAll (ls.map fun c => PyData.str (S [c])) = 0
  | [], _ => ⟨by simp [PyData.canLayAll0], by simp [PyData.depthAll]⟩
  | c :: l, h => by
    obtain ⟨h1, h2⟩ := sh_S l fun x hx => h x (List.mem_cons_of_mem _ hx)
    have hc := h c (List.mem_cons_self ..)
    have k : PyData.strOk (S [c]) = true := by
      show (#[c] : Array Nat).all (· < 0x110000) = true
      simp; omega
    exact ⟨by simp [PyData.canLayAll0, PyData.canLay0, h1, k], by simp [PyData.depthAll, PyData.depth, h2]⟩
theorem ne_chs {l : List Nat} (h : ∀ c ∈ l, c < 128) : neD (.lst (chs l)) (.lst []) = some (!l.isEmpty) := by
  obtain ⟨h1, h2⟩ := sh_S l h
  have e : eqvD (.lst (chs l)) (.lst []) = some l.isEmpty := by
    unfold eqvD
    simp only [pd, pdL_S, pdL, Option.map_some]
    have s1 : SeqAt.shaped (.list (l.map fun c => PyData.str (S [c]))) = true := by
      unfold SeqAt.shaped
      simp [PyData.canLay0, PyData.depth, h1, h2]
    have s2 : SeqAt.shaped (.list []) = true := by
      unfold SeqAt.shaped
      simp [PyData.canLay0, PyData.depth, PyData.canLayAll0, PyData.depthAll]
    rw [if_pos ⟨s1, s2⟩]
    cases l <;> simp [PyData.eqv, PyData.eqvAll]
  unfold neD nevD
  rw [e] <;> rfl
theorem wh_lc (a : D) : ∀ l : List Nat, lcR [1] (Tg.nm 1) (cmp ninD (pk 1) (cst (.str (S figs)))) (var 1) (chs l) [.val a, .un] = .ok (chs (l.filter fun c => !dg c)) [.val a, .un]
  | [] => rfl
  | c :: l => by
    unfold chs
    rw [List.map_cons]
    unfold lcR
    have ih := wh_lc a l
    unfold chs at ih
    cases hc : dg c with
    | true => simp only [↓v_onS, ↓v_bnd, ↓v_ret, ↓v_stk, ↓v_lf, ↓v_rv, ↓v_var, ↓v_pk, ↓v_mov, ↓v_cst, ↓v_ops2, ↓v_ops1, ↓v_bin, ↓v_sub, ↓v_cmp, ↓v_un, ↓v_asV, ↓v_and, ↓v_or, ↓v_not, ↓v_if, ↓v_andV, ↓v_orV, ↓v_notV, ↓v_tst, ↓v_args0, ↓v_args1, ↓v_rvs0, ↓v_rvs1, ↓v_tup, ↓v_lst, ↓v_callB, ↓v_seq, ↓v_nx, ↓v_drop, ↓v_retM, ↓v_sto, ↓v_set, ↓v_att, ↓v_part0, ↓v_part1, ↓v_sli, ↓v_unp, ↓v_par, ↓v_seqI, ↓v_onVl, ↓v_rng, ↓v_for, ↓v_lc, ↓v_yes, ↓v_mth, ↓v_mut, ↓v_call, ↓v_meth, ↓v_cmet, ↓v_make, ↓v_makT, ↓v_makL, ↓v_callT, ↓v_six, ↓v_fld, ↓v_isi, ↓v_rs0, ↓v_try, ↓v_ise, ↓v_chn, ↓v_fmt, ↓v_lit, ↓v_cat0, ↓v_cat1, ↓v_fst, ↓v_ite, ↓reduceIte, fz, vlsO, vlO, sto1, bindAll, bind1, bindT, List.getElem?_cons_zero, List.getElem?_cons_succ, List.set_cons_zero, List.set_cons_succ, Option.map_some, Option.map_none, Option.bind_some, Option.bind_none, isTup, picks_1, picks_2, picks_21, resO, pks, putB, setO, List.nodup_cons, List.nodup_nil, List.not_mem_nil, not_false_eq_true, and_true, List.map_nil, List.map_cons, List.append_nil, List.cons_append, List.nil_append, isIns, isCls, BEq.rfl, capN, capS, Bool.false_eq_true, Bool.not_true, Bool.not_false, ninD_fig, hc, wipeS, List.foldr_cons, List.foldr_nil, ih, List.filter_cons]
    | false => simp only [↓v_onS, ↓v_bnd, ↓v_ret, ↓v_stk, ↓v_lf, ↓v_rv, ↓v_var, ↓v_pk, ↓v_mov, ↓v_cst, ↓v_ops2, ↓v_ops1, ↓v_bin, ↓v_sub, ↓v_cmp, ↓v_un, ↓v_asV, ↓v_and, ↓v_or, ↓v_not, ↓v_if, ↓v_andV, ↓v_orV, ↓v_notV, ↓v_tst, ↓v_args0, ↓v_args1, ↓v_rvs0, ↓v_rvs1, ↓v_tup, ↓v_lst, ↓v_callB, ↓v_seq, ↓v_nx, ↓v_drop, ↓v_retM, ↓v_sto, ↓v_set, ↓v_att, ↓v_part0, ↓v_part1, ↓v_sli, ↓v_unp, ↓v_par, ↓v_seqI, ↓v_onVl, ↓v_rng, ↓v_for, ↓v_lc, ↓v_yes, ↓v_mth, ↓v_mut, ↓v_call, ↓v_meth, ↓v_cmet, ↓v_make, ↓v_makT, ↓v_makL, ↓v_callT, ↓v_six, ↓v_fld, ↓v_isi, ↓v_rs0, ↓v_try, ↓v_ise, ↓v_chn, ↓v_fmt, ↓v_lit, ↓v_cat0, ↓v_cat1, ↓v_fst, ↓v_ite, ↓reduceIte, fz, vlsO, vlO, sto1, bindAll, bind1, bindT, List.getElem?_cons_zero, List.getElem?_cons_succ, List.set_cons_zero, List.set_cons_succ, Option.map_some, Option.map_none, Option.bind_some, Option.bind_none, isTup, picks_1, picks_2, picks_21, resO, pks, putB, setO, List.nodup_cons, List.nodup_nil, List.not_mem_nil, not_false_eq_true, and_true, List.map_nil, List.map_cons, List.append_nil, List.cons_append, List.nil_append, isIns, isCls, BEq.rfl, capN, capS, Bool.false_eq_true, Bool.not_true, Bool.not_false, ninD_fig, hc, wipeS, List.foldr_cons, List.foldr_nil, ih, List.filter_cons]
theorem filt_all (l : List Nat) : (l.filter fun c => !dg c).isEmpty = l.all dg := by
  rw [Bool.eq_iff_iff, List.isEmpty_iff, List.filter_eq_nil_iff, List.all_eq_true]
  simp
theorem whole_ok {l : List Nat} (hl : l.length ≤ 100000) (ha : ∀ c ∈ l, c < 128) : p__law_whole [.str (S l)] = .ok false (.bl (wr l)) [] := by
  unfold p__law_whole
  rw [fnOf_eq _ _ _ _ rfl]
  show finF _ (b__law_whole _ [.val (.str (S l)), .un]) = _
  unfold b__law_whole
  have e1 : lenF [.str (S l)] = some (.vl (.int l.length)) := lenF_S (by omega)
  cases l with
  | nil => rfl
  | cons c l =>
    have e2 : subD (.str (S (c :: l))) (.int 0) = some (.vl (.str (S [c]))) := subS0 (by rw [List.length_cons] at hl; omega)
    have w1 : decide (1 ≤ (c :: l).length) = true := by rw [List.length_cons]; simp
    have q0 : decide ((c :: l) = []) = false := by simp
    have e4 : (chs (c :: l)).length ≤ 1000000 := by unfold chs; rw [List.length_map]; omega
    by_cases h60 : (60 : Int) < ((c :: l).length : Int)
    · have w2 : decide ((c :: l).length ≤ 60) = false := decide_eq_false (by omega)
      simp only [↓v_onS, ↓v_bnd, ↓v_ret, ↓v_stk, ↓v_lf, ↓v_rv, ↓v_var, ↓v_pk, ↓v_mov, ↓v_cst, ↓v_ops2, ↓v_ops1, ↓v_bin, ↓v_sub, ↓v_cmp, ↓v_un, ↓v_asV, ↓v_and, ↓v_or, ↓v_not, ↓v_if, ↓v_andV, ↓v_orV, ↓v_notV, ↓v_tst, ↓v_args0, ↓v_args1, ↓v_rvs0, ↓v_rvs1, ↓v_tup, ↓v_lst, ↓v_callB, ↓v_seq, ↓v_nx, ↓v_drop, ↓v_retM, ↓v_sto, ↓v_set, ↓v_att, ↓v_part0, ↓v_part1, ↓v_sli, ↓v_unp, ↓v_par, ↓v_seqI, ↓v_onVl, ↓v_rng, ↓v_for, ↓v_lc, ↓v_yes, ↓v_mth, ↓v_mut, ↓v_call, ↓v_meth, ↓v_cmet, ↓v_make, ↓v_makT, ↓v_makL, ↓v_callT, ↓v_six, ↓v_fld, ↓v_isi, ↓v_rs0, ↓v_try, ↓v_ise, ↓v_chn, ↓v_fmt, ↓v_lit, ↓v_cat0, ↓v_cat1, ↓v_fst, ↓v_ite, ↓reduceIte, fz, vlsO, vlO, sto1, bindAll, bind1, bindT, List.getElem?_cons_zero, List.getElem?_cons_succ, List.set_cons_zero, List.set_cons_succ, Option.map_some, Option.map_none, Option.bind_some, Option.bind_none, isTup, picks_1, picks_2, picks_21, resO, pks, putB, setO, List.nodup_cons, List.nodup_nil, List.not_mem_nil, not_false_eq_true, and_true, List.map_nil, List.map_cons, List.append_nil, List.cons_append, List.nil_append, isIns, isCls, BEq.rfl, capN, capS, Bool.false_eq_true, Bool.not_true, Bool.not_false, cmpI, e1, sE, eqD_str, bS, q0, h60, decide_true, finF, outsO]
      unfold wr
      rw [w2]
      simp
    · have w2 : decide ((c :: l).length ≤ 60) = true := decide_eq_true (by omega)
      have e5 := ne_chs (l := (c :: l).filter fun c => !dg c) (fun x hx => ha x ((List.mem_filter.mp hx).1))
      rw [filt_all] at e5
      cases hd : (c :: l).all dg with
      | false =>
        rw [hd] at e5
        simp only [↓v_onS, ↓v_bnd, ↓v_ret, ↓v_stk, ↓v_lf, ↓v_rv, ↓v_var, ↓v_pk, ↓v_mov, ↓v_cst, ↓v_ops2, ↓v_ops1, ↓v_bin, ↓v_sub, ↓v_cmp, ↓v_un, ↓v_asV, ↓v_and, ↓v_or, ↓v_not, ↓v_if, ↓v_andV, ↓v_orV, ↓v_notV, ↓v_tst, ↓v_args0, ↓v_args1, ↓v_rvs0, ↓v_rvs1, ↓v_tup, ↓v_lst, ↓v_callB, ↓v_seq, ↓v_nx, ↓v_drop, ↓v_retM, ↓v_sto, ↓v_set, ↓v_att, ↓v_part0, ↓v_part1, ↓v_sli, ↓v_unp, ↓v_par, ↓v_seqI, ↓v_onVl, ↓v_rng, ↓v_for, ↓v_lc, ↓v_yes, ↓v_mth, ↓v_mut, ↓v_call, ↓v_meth, ↓v_cmet, ↓v_make, ↓v_makT, ↓v_makL, ↓v_callT, ↓v_six, ↓v_fld, ↓v_isi, ↓v_rs0, ↓v_try, ↓v_ise, ↓v_chn, ↓v_fmt, ↓v_lit, ↓v_cat0, ↓v_cat1, ↓v_fst, ↓v_ite, ↓reduceIte, fz, vlsO, vlO, sto1, bindAll, bind1, bindT, List.getElem?_cons_zero, List.getElem?_cons_succ, List.set_cons_zero, List.set_cons_succ, Option.map_some, Option.map_none, Option.bind_some, Option.bind_none, isTup, picks_1, picks_2, picks_21, resO, pks, putB, setO, List.nodup_cons, List.nodup_nil, List.not_mem_nil, not_false_eq_true, and_true, List.map_nil, List.map_cons, List.append_nil, List.cons_append, List.nil_append, isIns, isCls, BEq.rfl, capN, capS, Bool.false_eq_true, Bool.not_true, Bool.not_false, cmpI, e1, sE, eqD_str, bS, q0, h60, decide_false, sF, seqD_S, e4, notOwn, List.all_cons, List.all_nil, Bool.and_self, and_self, wipeS, List.foldr_cons, List.foldr_nil, wh_lc, backS, e5, finF, outsO]
        unfold wr
        rw [hd]
        simp
      | true =>
        rw [hd] at e5
        simp only [↓v_onS, ↓v_bnd, ↓v_ret, ↓v_stk, ↓v_lf, ↓v_rv, ↓v_var, ↓v_pk, ↓v_mov, ↓v_cst, ↓v_ops2, ↓v_ops1, ↓v_bin, ↓v_sub, ↓v_cmp, ↓v_un, ↓v_asV, ↓v_and, ↓v_or, ↓v_not, ↓v_if, ↓v_andV, ↓v_orV, ↓v_notV, ↓v_tst, ↓v_args0, ↓v_args1, ↓v_rvs0, ↓v_rvs1, ↓v_tup, ↓v_lst, ↓v_callB, ↓v_seq, ↓v_nx, ↓v_drop, ↓v_retM, ↓v_sto, ↓v_set, ↓v_att, ↓v_part0, ↓v_part1, ↓v_sli, ↓v_unp, ↓v_par, ↓v_seqI, ↓v_onVl, ↓v_rng, ↓v_for, ↓v_lc, ↓v_yes, ↓v_mth, ↓v_mut, ↓v_call, ↓v_meth, ↓v_cmet, ↓v_make, ↓v_makT, ↓v_makL, ↓v_callT, ↓v_six, ↓v_fld, ↓v_isi, ↓v_rs0, ↓v_try, ↓v_ise, ↓v_chn, ↓v_fmt, ↓v_lit, ↓v_cat0, ↓v_cat1, ↓v_fst, ↓v_ite, ↓reduceIte, fz, vlsO, vlO, sto1, bindAll, bind1, bindT, List.getElem?_cons_zero, List.getElem?_cons_succ, List.set_cons_zero, List.set_cons_succ, Option.map_some, Option.map_none, Option.bind_some, Option.bind_none, isTup, picks_1, picks_2, picks_21, resO, pks, putB, setO, List.nodup_cons, List.nodup_nil, List.not_mem_nil, not_false_eq_true, and_true, List.map_nil, List.map_cons, List.append_nil, List.cons_append, List.nil_append, isIns, isCls, BEq.rfl, capN, capS, Bool.false_eq_true, Bool.not_true, Bool.not_false, cmpI, e1, e2, s0, neD_str, sE, eqD_str, bS, q0, h60, decide_false, sF, seqD_S, e4, notOwn, List.all_cons, List.all_nil, Bool.and_self, and_self, wipeS, List.foldr_cons, List.foldr_nil, wh_lc, backS, e5, boolD, finF, outsO]
        unfold wr
        rw [hd, w1, w2]
        by_cases z : (c :: l) = [48]
        · rw [decide_eq_true z]
          rfl
        · rw [decide_eq_false z]
          by_cases z2 : c = 48
          · subst z2; rfl
          · simp [z2]
end Fw
end

section
set_option maxRecDepth 100000
set_option maxHeartbeats 4000000
namespace Fw
open PySem L2 SX
theorem cut_to (l : List Nat) (k : Nat) : cutS (S l) none (some (k : Int)) = S (l.take k) := by
  show S ((l.drop 0).take (HT.sIx (S l).length (S l).length (some (k : Int)) - 0)) = _
  rw [HT.sIx_nat, S_len, List.drop_zero, Nat.sub_zero]
  by_cases h : k ≤ l.length
  · rw [Nat.min_eq_left h]
  · rw [Nat.min_eq_right (by omega), List.take_length, List.take_of_length_le (by omega)]
theorem cut_from (l : List Nat) (k : Nat) : cutS (S l) (some (k : Int)) none = S (l.drop k) := by
  show S ((l.drop (HT.sIx (S l).length 0 (some (k : Int)))).take ((S l).length - HT.sIx (S l).length 0 (some (k : Int)))) = _
  rw [HT.sIx_nat, S_len]
  by_cases h : k ≤ l.length
  · rw [Nat.min_eq_left h, List.take_of_length_le (by rw [List.length_drop] <;> omega)]
  · rw [Nat.min_eq_right (by omega), List.drop_length, List.drop_eq_nil_of_le (show l.length ≤ k by omega), List.take_nil]
theorem sliT {l : List Nat} (k : Nat) (h : l.length ≤ 1000000) : sliD (.str (S l)) none (some (k : Int)) = some (.vl (.str (S (l.take k)))) := by
  show (if (S l).length ≤ 1000000 then some (T1.vl (.str (cutS (S l) none (some (k : Int))))) else none) = _
  rw [S_len, if_pos h, cut_to]
theorem sliF {l : List Nat} (k : Nat) (h : l.length ≤ 1000000) : sliD (.str (S l)) (some (k : Int)) none = some (.vl (.str (S (l.drop k)))) := by
  show (if (S l).length ≤ 1000000 then some (T1.vl (.str (cutS (S l) (some (k : Int)) none))) else none) = _
  rw [S_len, if_pos h, cut_from]
theorem sliT1 {l : List Nat} (h : l.length ≤ 1000000) : sliD (.str (S l)) none (some 1) = some (.vl (.str (S (l.take 1)))) := sliT 1 h
theorem sliF1 {l : List Nat} (h : l.length ≤ 1000000) : sliD (.str (S l)) (some 1) none = some (.vl (.str (S (l.drop 1)))) := sliF 1 h
theorem sM : Str.ofString "-" = S [45] := by decide +kernel
theorem sM0 : Str.ofString "-0" = S [45, 48] := by decide +kernel
/-- a word of a top: a sign, perhaps, a written number, not -0 -/
def okN (p : List Nat) : Bool := if p.take 1 = [45] then wr (p.drop 1) && !decide (p = [45, 48]) else wr p
/-- a text that looks like a fraction -/
def irt (s : Option (List Nat × List Nat)) (l : List Nat) : Bool := match s with
  | none => okN l
  | some (p, q) => wr q && (!decide (q = [48]) && !decide (q = [49])) && okN p
theorem partD_some {p q : List Nat} (h : 47 ∉ p) (hl : (p ++ [47] ++ q).length ≤ 1000000) : partD (.str (S (p ++ [47] ++ q))) [.str (S [47])] = some (.fr (.tup [.str (S p), .str (S [47]), .str (S q)])) := by
  have e : Txt.partition (S (p ++ [47] ++ q)) (S [47]) = (S p, S [47], S q) := SX.partition_some (by simp) (by rw [List.append_assoc]; exact par_head q h)
  show (if (S [47]).length ≠ 0 ∧ (S (p ++ [47] ++ q)).length ≤ 1000000 then some (T1.fr (.tup [D.str (Txt.partition (S (p ++ [47] ++ q)) (S [47])).1, .str (Txt.partition (S (p ++ [47] ++ q)) (S [47])).2.1, .str (Txt.partition (S (p ++ [47] ++ q)) (S [47])).2.2])) else none) = _
  rw [e, S_len, S_len, if_pos ⟨by simp, hl⟩]
theorem partD_none {l : List Nat} (h : 47 ∉ l) (hl : l.length ≤ 1000000) : partD (.str (S l)) [.str (S [47])] = some (.fr (.tup [.str (S l), .str (S []), .str (S [])])) := by
  have e : Txt.partition (S l) (S [47]) = (S l, S [], S []) := SX.partition_none (by simp) (par_head_none h)
  show (if (S [47]).length ≠ 0 ∧ (S l).length ≤ 1000000 then some (T1.fr (.tup [D.str (Txt.partition (S l) (S [47])).1, .str (Txt.partition (S l) (S [47])).2.1, .str (Txt.partition (S l) (S [47])).2.2])) else none) = _
  rw [e, S_len, S_len, if_pos ⟨by simp, hl⟩]
theorem in01 (q : List Nat) : inD (.str (S q)) (.tup [.str (S [48]), .str (S [49])]) = some (decide (q = [48]) || decide (q = [49])) := by
  show some ((S [48] == S q) || ((S [49] == S q) || false)) = _
  rw [bS, bS, Bool.or_false, decide_eq_decide.mpr (eq_comm (a := [48]) (b := q)), decide_eq_decide.mpr (eq_comm (a := [49]) (b := q))]
theorem irt_none {l : List Nat} (h : 47 ∉ l) (hl : l.length ≤ 100000) : p_is_ratio_text [.str (S l)] = .ok false (.bl (irt none l)) [] := by
  unfold p_is_ratio_text
  rw [fnOf_eq _ _ _ _ rfl]
  show finF _ (b_is_ratio_text _ [.val (.str (S l)), .un, .un, .un]) = _
  unfold b_is_ratio_text
  have w1 := written_ok (l := l) hl
  have w2 := written_ok (l := l.drop 1) (by rw [List.length_drop]; omega)
  have n1 : decide (([] : List Nat) = [47]) = false := rfl
  have t1 : tyD "str" (.str (S l)) = true := rfl
  have z1 := sliT1 (l := l) (by omega)
  have z2 := sliF1 (l := l) (by omega)
  unfold irt okN
  by_cases hm : l.take 1 = [45]
  · cases hw : wr (l.drop 1) with
    | true =>
      rw [hw] at w2
      simp only [↓v_onS, ↓v_bnd, ↓v_ret, ↓v_stk, ↓v_lf, ↓v_rv, ↓v_var, ↓v_pk, ↓v_mov, ↓v_cst, ↓v_ops2, ↓v_ops1, ↓v_bin, ↓v_sub, ↓v_cmp, ↓v_un, ↓v_asV, ↓v_and, ↓v_or, ↓v_not, ↓v_if, ↓v_andV, ↓v_orV, ↓v_notV, ↓v_tst, ↓v_args0, ↓v_args1, ↓v_rvs0, ↓v_rvs1, ↓v_tup, ↓v_lst, ↓v_callB, ↓v_seq, ↓v_nx, ↓v_drop, ↓v_retM, ↓v_sto, ↓v_set, ↓v_att, ↓v_part0, ↓v_part1, ↓v_sli, ↓v_unp, ↓v_par, ↓v_seqI, ↓v_onVl, ↓v_rng, ↓v_for, ↓v_lc, ↓v_yes, ↓v_mth, ↓v_mut, ↓v_call, ↓v_meth, ↓v_cmet, ↓v_make, ↓v_makT, ↓v_makL, ↓v_callT, ↓v_six, ↓v_fld, ↓v_isi, ↓v_rs0, ↓v_try, ↓v_ise, ↓v_chn, ↓v_fmt, ↓v_lit, ↓v_cat0, ↓v_cat1, ↓v_fst, ↓v_ite, ↓reduceIte, fz, vlsO, vlO, sto1, bindAll, bind1, bindT, List.getElem?_cons_zero, List.getElem?_cons_succ, List.set_cons_zero, List.set_cons_succ, Option.map_some, Option.map_none, Option.bind_some, Option.bind_none, isTup, picks_1, picks_2, picks_21, resO, pks, putB, setO, List.nodup_cons, List.nodup_nil, List.not_mem_nil, not_false_eq_true, and_true, List.map_nil, List.map_cons, List.append_nil, List.cons_append, List.nil_append, isIns, isCls, BEq.rfl, capN, capS, Bool.false_eq_true, Bool.not_true, Bool.not_false, t1, sl, partD_none h (show l.length ≤ 1000000 by omega), eqD_str, neD_str, bS, n1, intD, z1, z2, sM, sM0, hm, hw, decide_true, w1, w2, boolD, finF, outsO, Bool.true_and]
    | false =>
      rw [hw] at w2
      simp only [↓v_onS, ↓v_bnd, ↓v_ret, ↓v_stk, ↓v_lf, ↓v_rv, ↓v_var, ↓v_pk, ↓v_mov, ↓v_cst, ↓v_ops2, ↓v_ops1, ↓v_bin, ↓v_sub, ↓v_cmp, ↓v_un, ↓v_asV, ↓v_and, ↓v_or, ↓v_not, ↓v_if, ↓v_andV, ↓v_orV, ↓v_notV, ↓v_tst, ↓v_args0, ↓v_args1, ↓v_rvs0, ↓v_rvs1, ↓v_tup, ↓v_lst, ↓v_callB, ↓v_seq, ↓v_nx, ↓v_drop, ↓v_retM, ↓v_sto, ↓v_set, ↓v_att, ↓v_part0, ↓v_part1, ↓v_sli, ↓v_unp, ↓v_par, ↓v_seqI, ↓v_onVl, ↓v_rng, ↓v_for, ↓v_lc, ↓v_yes, ↓v_mth, ↓v_mut, ↓v_call, ↓v_meth, ↓v_cmet, ↓v_make, ↓v_makT, ↓v_makL, ↓v_callT, ↓v_six, ↓v_fld, ↓v_isi, ↓v_rs0, ↓v_try, ↓v_ise, ↓v_chn, ↓v_fmt, ↓v_lit, ↓v_cat0, ↓v_cat1, ↓v_fst, ↓v_ite, ↓reduceIte, fz, vlsO, vlO, sto1, bindAll, bind1, bindT, List.getElem?_cons_zero, List.getElem?_cons_succ, List.set_cons_zero, List.set_cons_succ, Option.map_some, Option.map_none, Option.bind_some, Option.bind_none, isTup, picks_1, picks_2, picks_21, resO, pks, putB, setO, List.nodup_cons, List.nodup_nil, List.not_mem_nil, not_false_eq_true, and_true, List.map_nil, List.map_cons, List.append_nil, List.cons_append, List.nil_append, isIns, isCls, BEq.rfl, capN, capS, Bool.false_eq_true, Bool.not_true, Bool.not_false, t1, sl, partD_none h (show l.length ≤ 1000000 by omega), eqD_str, neD_str, bS, n1, intD, z1, z2, sM, sM0, hm, hw, decide_true, w1, w2, boolD, finF, outsO, Bool.false_and]
  · simp only [↓v_onS, ↓v_bnd, ↓v_ret, ↓v_stk, ↓v_lf, ↓v_rv, ↓v_var, ↓v_pk, ↓v_mov, ↓v_cst, ↓v_ops2, ↓v_ops1, ↓v_bin, ↓v_sub, ↓v_cmp, ↓v_un, ↓v_asV, ↓v_and, ↓v_or, ↓v_not, ↓v_if, ↓v_andV, ↓v_orV, ↓v_notV, ↓v_tst, ↓v_args0, ↓v_args1, ↓v_rvs0, ↓v_rvs1, ↓v_tup, ↓v_lst, ↓v_callB, ↓v_seq, ↓v_nx, ↓v_drop, ↓v_retM, ↓v_sto, ↓v_set, ↓v_att, ↓v_part0, ↓v_part1, ↓v_sli, ↓v_unp, ↓v_par, ↓v_seqI, ↓v_onVl, ↓v_rng, ↓v_for, ↓v_lc, ↓v_yes, ↓v_mth, ↓v_mut, ↓v_call, ↓v_meth, ↓v_cmet, ↓v_make, ↓v_makT, ↓v_makL, ↓v_callT, ↓v_six, ↓v_fld, ↓v_isi, ↓v_rs0, ↓v_try, ↓v_ise, ↓v_chn, ↓v_fmt, ↓v_lit, ↓v_cat0, ↓v_cat1, ↓v_fst, ↓v_ite, ↓reduceIte, fz, vlsO, vlO, sto1, bindAll, bind1, bindT, List.getElem?_cons_zero, List.getElem?_cons_succ, List.set_cons_zero, List.set_cons_succ, Option.map_some, Option.map_none, Option.bind_some, Option.bind_none, isTup, picks_1, picks_2, picks_21, resO, pks, putB, setO, List.nodup_cons, List.nodup_nil, List.not_mem_nil, not_false_eq_true, and_true, List.map_nil, List.map_cons, List.append_nil, List.cons_append, List.nil_append, isIns, isCls, BEq.rfl, capN, capS, Bool.false_eq_true, Bool.not_true, Bool.not_false, t1, sl, partD_none h (show l.length ≤ 1000000 by omega), eqD_str, neD_str, bS, n1, intD, z1, z2, sM, sM0, hm, decide_false, w1, w2, boolD, finF, outsO]
theorem irt_some {p q : List Nat} (h : 47 ∉ p) (hl : (p ++ [47] ++ q).length ≤ 100000) : p_is_ratio_text [.str (S (p ++ [47] ++ q))] = .ok false (.bl (irt (some (p, q)) (p ++ [47] ++ q))) [] := by
  have hp : p.length ≤ 100000 ∧ q.length ≤ 100000 := by
    rw [List.length_append, List.length_append] at hl
    omega
  have pt := partD_some (q := q) h (by omega)
  unfold p_is_ratio_text
  rw [fnOf_eq _ _ _ _ rfl]
  show finF _ (b_is_ratio_text _ [.val (.str (S (p ++ [47] ++ q))), .un, .un, .un]) = _
  generalize p ++ [47] ++ q = l at *
  unfold b_is_ratio_text
  have w0 := written_ok (l := q) hp.2
  have w1 := written_ok (l := p) hp.1
  have w2 := written_ok (l := p.drop 1) (by rw [List.length_drop]; omega)
  have n1 : decide (([47] : List Nat) = [47]) = true := rfl
  have t1 : tyD "str" (.str (S l)) = true := rfl
  have z1 := sliT1 (l := p) (by omega)
  have z2 := sliF1 (l := p) (by omega)
  unfold irt okN
  cases hq : wr q with
  | false =>
    rw [hq] at w0
    simp only [↓v_onS, ↓v_bnd, ↓v_ret, ↓v_stk, ↓v_lf, ↓v_rv, ↓v_var, ↓v_pk, ↓v_mov, ↓v_cst, ↓v_ops2, ↓v_ops1, ↓v_bin, ↓v_sub, ↓v_cmp, ↓v_un, ↓v_asV, ↓v_and, ↓v_or, ↓v_not, ↓v_if, ↓v_andV, ↓v_orV, ↓v_notV, ↓v_tst, ↓v_args0, ↓v_args1, ↓v_rvs0, ↓v_rvs1, ↓v_tup, ↓v_lst, ↓v_callB, ↓v_seq, ↓v_nx, ↓v_drop, ↓v_retM, ↓v_sto, ↓v_set, ↓v_att, ↓v_part0, ↓v_part1, ↓v_sli, ↓v_unp, ↓v_par, ↓v_seqI, ↓v_onVl, ↓v_rng, ↓v_for, ↓v_lc, ↓v_yes, ↓v_mth, ↓v_mut, ↓v_call, ↓v_meth, ↓v_cmet, ↓v_make, ↓v_makT, ↓v_makL, ↓v_callT, ↓v_six, ↓v_fld, ↓v_isi, ↓v_rs0, ↓v_try, ↓v_ise, ↓v_chn, ↓v_fmt, ↓v_lit, ↓v_cat0, ↓v_cat1, ↓v_fst, ↓v_ite, ↓reduceIte, fz, vlsO, vlO, sto1, bindAll, bind1, bindT, List.getElem?_cons_zero, List.getElem?_cons_succ, List.set_cons_zero, List.set_cons_succ, Option.map_some, Option.map_none, Option.bind_some, Option.bind_none, isTup, picks_1, picks_2, picks_21, resO, pks, putB, setO, List.nodup_cons, List.nodup_nil, List.not_mem_nil, not_false_eq_true, and_true, List.map_nil, List.map_cons, List.append_nil, List.cons_append, List.nil_append, isIns, isCls, BEq.rfl, capN, capS, Bool.false_eq_true, Bool.not_true, Bool.not_false, t1, sl, pt, eqD_str, neD_str, bS, n1, w0, truD, hq, finF, outsO, Bool.false_and]
  | true =>
    rw [hq] at w0
    cases hi : (decide (q = [48]) || decide (q = [49])) with
    | true =>
      have hi2 : (!decide (q = [48]) && !decide (q = [49])) = false := by
        rw [← Bool.not_or, hi] <;> rfl
      simp only [↓v_onS, ↓v_bnd, ↓v_ret, ↓v_stk, ↓v_lf, ↓v_rv, ↓v_var, ↓v_pk, ↓v_mov, ↓v_cst, ↓v_ops2, ↓v_ops1, ↓v_bin, ↓v_sub, ↓v_cmp, ↓v_un, ↓v_asV, ↓v_and, ↓v_or, ↓v_not, ↓v_if, ↓v_andV, ↓v_orV, ↓v_notV, ↓v_tst, ↓v_args0, ↓v_args1, ↓v_rvs0, ↓v_rvs1, ↓v_tup, ↓v_lst, ↓v_callB, ↓v_seq, ↓v_nx, ↓v_drop, ↓v_retM, ↓v_sto, ↓v_set, ↓v_att, ↓v_part0, ↓v_part1, ↓v_sli, ↓v_unp, ↓v_par, ↓v_seqI, ↓v_onVl, ↓v_rng, ↓v_for, ↓v_lc, ↓v_yes, ↓v_mth, ↓v_mut, ↓v_call, ↓v_meth, ↓v_cmet, ↓v_make, ↓v_makT, ↓v_makL, ↓v_callT, ↓v_six, ↓v_fld, ↓v_isi, ↓v_rs0, ↓v_try, ↓v_ise, ↓v_chn, ↓v_fmt, ↓v_lit, ↓v_cat0, ↓v_cat1, ↓v_fst, ↓v_ite, ↓reduceIte, fz, vlsO, vlO, sto1, bindAll, bind1, bindT, List.getElem?_cons_zero, List.getElem?_cons_succ, List.set_cons_zero, List.set_cons_succ, Option.map_some, Option.map_none, Option.bind_some, Option.bind_none, isTup, picks_1, picks_2, picks_21, resO, pks, putB, setO, List.nodup_cons, List.nodup_nil, List.not_mem_nil, not_false_eq_true, and_true, List.map_nil, List.map_cons, List.append_nil, List.cons_append, List.nil_append, isIns, isCls, BEq.rfl, capN, capS, Bool.false_eq_true, Bool.not_true, Bool.not_false, t1, sl, pt, eqD_str, neD_str, bS, n1, w0, truD, s0, s1, in01, hi, hi2, hq, finF, outsO, Bool.true_and, Bool.and_false, Bool.false_and]
    | false =>
      have hi2 : (!decide (q = [48]) && !decide (q = [49])) = true := by
        rw [← Bool.not_or, hi] <;> rfl
      by_cases hm : p.take 1 = [45]
      · cases hw : wr (p.drop 1) with
        | true =>
          rw [hw] at w2
          simp only [↓v_onS, ↓v_bnd, ↓v_ret, ↓v_stk, ↓v_lf, ↓v_rv, ↓v_var, ↓v_pk, ↓v_mov, ↓v_cst, ↓v_ops2, ↓v_ops1, ↓v_bin, ↓v_sub, ↓v_cmp, ↓v_un, ↓v_asV, ↓v_and, ↓v_or, ↓v_not, ↓v_if, ↓v_andV, ↓v_orV, ↓v_notV, ↓v_tst, ↓v_args0, ↓v_args1, ↓v_rvs0, ↓v_rvs1, ↓v_tup, ↓v_lst, ↓v_callB, ↓v_seq, ↓v_nx, ↓v_drop, ↓v_retM, ↓v_sto, ↓v_set, ↓v_att, ↓v_part0, ↓v_part1, ↓v_sli, ↓v_unp, ↓v_par, ↓v_seqI, ↓v_onVl, ↓v_rng, ↓v_for, ↓v_lc, ↓v_yes, ↓v_mth, ↓v_mut, ↓v_call, ↓v_meth, ↓v_cmet, ↓v_make, ↓v_makT, ↓v_makL, ↓v_callT, ↓v_six, ↓v_fld, ↓v_isi, ↓v_rs0, ↓v_try, ↓v_ise, ↓v_chn, ↓v_fmt, ↓v_lit, ↓v_cat0, ↓v_cat1, ↓v_fst, ↓v_ite, ↓reduceIte, fz, vlsO, vlO, sto1, bindAll, bind1, bindT, List.getElem?_cons_zero, List.getElem?_cons_succ, List.set_cons_zero, List.set_cons_succ, Option.map_some, Option.map_none, Option.bind_some, Option.bind_none, isTup, picks_1, picks_2, picks_21, resO, pks, putB, setO, List.nodup_cons, List.nodup_nil, List.not_mem_nil, not_false_eq_true, and_true, List.map_nil, List.map_cons, List.append_nil, List.cons_append, List.nil_append, isIns, isCls, BEq.rfl, capN, capS, Bool.false_eq_true, Bool.not_true, Bool.not_false, t1, sl, pt, eqD_str, neD_str, bS, n1, w0, truD, s0, s1, in01, hi, hi2, hq, intD, z1, z2, sM, sM0, hm, hw, decide_true, w1, w2, boolD, finF, outsO, Bool.true_and, Bool.and_self]
        | false =>
          rw [hw] at w2
          simp only [↓v_onS, ↓v_bnd, ↓v_ret, ↓v_stk, ↓v_lf, ↓v_rv, ↓v_var, ↓v_pk, ↓v_mov, ↓v_cst, ↓v_ops2, ↓v_ops1, ↓v_bin, ↓v_sub, ↓v_cmp, ↓v_un, ↓v_asV, ↓v_and, ↓v_or, ↓v_not, ↓v_if, ↓v_andV, ↓v_orV, ↓v_notV, ↓v_tst, ↓v_args0, ↓v_args1, ↓v_rvs0, ↓v_rvs1, ↓v_tup, ↓v_lst, ↓v_callB, ↓v_seq, ↓v_nx, ↓v_drop, ↓v_retM, ↓v_sto, ↓v_set, ↓v_att, ↓v_part0, ↓v_part1, ↓v_sli, ↓v_unp, ↓v_par, ↓v_seqI, ↓v_onVl, ↓v_rng, ↓v_for, ↓v_lc, ↓v_yes, ↓v_mth, ↓v_mut, ↓v_call, ↓v_meth, ↓v_cmet, ↓v_make, ↓v_makT, ↓v_makL, ↓v_callT, ↓v_six, ↓v_fld, ↓v_isi, ↓v_rs0, ↓v_try, ↓v_ise, ↓v_chn, ↓v_fmt, ↓v_lit, ↓v_cat0, ↓v_cat1, ↓v_fst, ↓v_ite, ↓reduceIte, fz, vlsO, vlO, sto1, bindAll, bind1, bindT, List.getElem?_cons_zero, List.getElem?_cons_succ, List.set_cons_zero, List.set_cons_succ, Option.map_some, Option.map_none, Option.bind_some, Option.bind_none, isTup, picks_1, picks_2, picks_21, resO, pks, putB, setO, List.nodup_cons, List.nodup_nil, List.not_mem_nil, not_false_eq_true, and_true, List.map_nil, List.map_cons, List.append_nil, List.cons_append, List.nil_append, isIns, isCls, BEq.rfl, capN, capS, Bool.false_eq_true, Bool.not_true, Bool.not_false, t1, sl, pt, eqD_str, neD_str, bS, n1, w0, truD, s0, s1, in01, hi, hi2, hq, intD, z1, z2, sM, sM0, hm, hw, decide_true, w1, w2, boolD, finF, outsO, Bool.true_and, Bool.false_and, Bool.and_false, Bool.and_self]
      · simp only [↓v_onS, ↓v_bnd, ↓v_ret, ↓v_stk, ↓v_lf, ↓v_rv, ↓v_var, ↓v_pk, ↓v_mov, ↓v_cst, ↓v_ops2, ↓v_ops1, ↓v_bin, ↓v_sub, ↓v_cmp, ↓v_un, ↓v_asV, ↓v_and, ↓v_or, ↓v_not, ↓v_if, ↓v_andV, ↓v_orV, ↓v_notV, ↓v_tst, ↓v_args0, ↓v_args1, ↓v_rvs0, ↓v_rvs1, ↓v_tup, ↓v_lst, ↓v_callB, ↓v_seq, ↓v_nx, ↓v_drop, ↓v_retM, ↓v_sto, ↓v_set, ↓v_att, ↓v_part0, ↓v_part1, ↓v_sli, ↓v_unp, ↓v_par, ↓v_seqI, ↓v_onVl, ↓v_rng, ↓v_for, ↓v_lc, ↓v_yes, ↓v_mth, ↓v_mut, ↓v_call, ↓v_meth, ↓v_cmet, ↓v_make, ↓v_makT, ↓v_makL, ↓v_callT, ↓v_six, ↓v_fld, ↓v_isi, ↓v_rs0, ↓v_try, ↓v_ise, ↓v_chn, ↓v_fmt, ↓v_lit, ↓v_cat0, ↓v_cat1, ↓v_fst, ↓v_ite, ↓reduceIte, fz, vlsO, vlO, sto1, bindAll, bind1, bindT, List.getElem?_cons_zero, List.getElem?_cons_succ, List.set_cons_zero, List.set_cons_succ, Option.map_some, Option.map_none, Option.bind_some, Option.bind_none, isTup, picks_1, picks_2, picks_21, resO, pks, putB, setO, List.nodup_cons, List.nodup_nil, List.not_mem_nil, not_false_eq_true, and_true, List.map_nil, List.map_cons, List.append_nil, List.cons_append, List.nil_append, isIns, isCls, BEq.rfl, capN, capS, Bool.false_eq_true, Bool.not_true, Bool.not_false, t1, sl, pt, eqD_str, neD_str, bS, n1, w0, truD, s0, s1, in01, hi, hi2, hq, intD, z1, z2, sM, sM0, hm, decide_false, w1, w2, boolD, finF, outsO, Bool.true_and, Bool.and_self]
end Fw
end

section
set_option maxRecDepth 100000
set_option maxHeartbeats 4000000
namespace Fw
open PySem L2 SX
/-! ### written numbers and their values -/
def dv (l : List Nat) : Nat := NumText.digitsVal l
theorem dv_snoc (l : List Nat) (c : Nat) : dv (l ++ [c]) = dv l * 10 + (c - 48) := by
  unfold dv NumText.digitsVal
  rw [List.foldl_append] <;> rfl
theorem dg_of {l : List Nat} (h : l.all dg = true) : ∀ c ∈ l, 48 ≤ c ∧ c ≤ 57 := fun c hc => by
  have z := List.all_eq_true.mp h c hc
  unfold dg at z
  rw [Bool.and_eq_true, decide_eq_true_eq, decide_eq_true_eq] at z
  exact z
theorem snocCases {α : Type} (l : List α) : l = [] ∨ ∃ a c, l = a ++ [c] := by
  cases h : l.reverse with
  | nil => exact .inl (List.reverse_eq_nil_iff.mp h)
  | cons c r =>
    refine .inr ⟨r.reverse, c, ?_⟩
    have e := congrArg List.reverse h
    rw [List.reverse_reverse, List.reverse_cons] at e
    exact e
theorem dv_lt : ∀ (n : Nat) (l : List Nat), l.length = n → l.all dg = true → dv l < 10 ^ n
  | 0, l, hn, _ => by
    have e := List.length_eq_zero_iff.mp hn
    subst e
    exact Nat.one_pos
  | n + 1, l, hn, h => by
    rcases snocCases l with rfl | ⟨a, c, rfl⟩
    · cases hn
    · rw [List.length_append, List.length_singleton] at hn
      rw [List.all_append, Bool.and_eq_true] at h
      have ih := dv_lt n a (by omega) h.1
      have hc := dg_of h.2 c (List.mem_singleton.mpr rfl)
      rw [dv_snoc, Nat.pow_succ]
      omega
theorem canon : ∀ (n : Nat) (l : List Nat), l.length = n + 1 → l.all dg = true → l.head? ≠ some 48 → TL.numL (dv l) = l ∧ 0 < dv l
  | 0, l, hn, h, h0 => by
    match l, hn with
    | [c], _ =>
      have hc := dg_of h c (List.mem_singleton.mpr rfl)
      have hne : c ≠ 48 := fun z => h0 (by rw [z] <;> rfl)
      have e : dv [c] = c - 48 := by
        show 0 * 10 + (c - 48) = _
        omega
      rw [e, TL.numL_lt (by omega)]
      refine ⟨?_, by omega⟩
      rw [show 48 + (c - 48) = c by omega]
  | n + 1, l, hn, h, h0 => by
    rcases snocCases l with rfl | ⟨a, c, rfl⟩
    · cases hn
    · rw [List.length_append, List.length_singleton] at hn
      rw [List.all_append, Bool.and_eq_true] at h
      have hc := dg_of h.2 c (List.mem_singleton.mpr rfl)
      have hh : a.head? ≠ some 48 := by
        cases a with
        | nil => cases hn
        | cons x r => exact h0
      obtain ⟨e1, e2⟩ := canon n a (by omega) h.1 hh
      rw [dv_snoc, TL.numL_step (by omega)]
      have q1 : (dv a * 10 + (c - 48)) / 10 = dv a := by omega
      have q2 : (dv a * 10 + (c - 48)) % 10 = c - 48 := by omega
      rw [q1, q2, e1, show 48 + (c - 48) = c by omega]
      exact ⟨rfl, by omega⟩
structure Wr (l : List Nat) : Prop where
  num : TL.numL (dv l) = l
  dig : l.all dg = true
  le : l.length ≤ 60
  ne : l ≠ []
  lt : dv l < 10 ^ 60
theorem wr_of {l : List Nat} (h : wr l = true) : Wr l := by
  unfold wr at h
  simp only [Bool.and_eq_true, Bool.or_eq_true, decide_eq_true_eq] at h
  obtain ⟨⟨⟨h1, h2⟩, h3⟩, h4⟩ := h
  have lt : dv l < 10 ^ 60 := Nat.lt_of_lt_of_le (dv_lt l.length l rfl h3) (Nat.pow_le_pow_right (by decide) h2)
  have ne : l ≠ [] := fun z => by subst z; cases h1
  rcases h4 with h4 | h4
  · subst h4
    exact ⟨by decide +kernel, h3, h2, ne, lt⟩
  · exact ⟨(canon (l.length - 1) l (by omega) h3 h4).1, h3, h2, ne, lt⟩
theorem Wr.int {l : List Nat} (h : Wr l) : PySem.intText? (S l) = some ((dv l : Nat) : Int) := int_S h.dig h.ne (Nat.le_trans h.le (by decide))
/-- the value of a top's word -/
def ival (p : List Nat) : Int := if p.take 1 = [45] then -((dv (p.drop 1) : Nat) : Int) else ((dv p : Nat) : Int)
structure Ok (p : List Nat) : Prop where
  le : p.length ≤ 61
  int : PySem.intText? (S p) = some (ival p)
  num : numZ (ival p) = p
  lt : (ival p).natAbs < 10 ^ 60
  no : 47 ∉ p
theorem dig_no {l : List Nat} (h : l.all dg = true) : 47 ∉ l := fun z => by
  have := dg_of h 47 z
  omega
theorem ok_of {p : List Nat} (h : okN p = true) : Ok p := by
  unfold okN at h
  by_cases hm : p.take 1 = [45]
  · rw [if_pos hm] at h
    rw [Bool.and_eq_true] at h
    have w := wr_of h.1
    cases p with
    | nil => cases hm
    | cons c r =>
      have hc : c = 45 := by
        have := hm
        simp at this
        exact this
      subst hc
      have hr : (45 :: r).drop 1 = r := rfl
      rw [hr] at w
      have e : ival (45 :: r) = -((dv r : Nat) : Int) := by
        unfold ival
        rw [if_pos hm, hr]
      have hp : 0 < dv r := by
        apply Nat.pos_of_ne_zero
        intro z
        have n0 := w.num
        rw [z] at n0
        have : r = [48] := by rw [← n0]; decide +kernel
        subst this
        have h2 := h.2
        simp at h2
      refine ⟨by rw [List.length_cons]; have := w.le; omega, ?_, ?_, ?_, ?_⟩
      · rw [e]
        exact PySem.intText_neg (x := S (45 :: r)) (cs := r) rfl (dg_of w.dig) w.ne (by rw [S_len, List.length_cons]; have := w.le; omega)
      · rw [e]
        unfold numZ
        rw [if_pos (by omega), Int.natAbs_neg, Int.natAbs_natCast, w.num]
      · rw [e, Int.natAbs_neg, Int.natAbs_natCast]
        exact w.lt
      · intro z
        rcases List.mem_cons.mp z with z | z
        · cases z
        · exact dig_no w.dig z
  · rw [if_neg hm] at h
    have w := wr_of h
    have e : ival p = ((dv p : Nat) : Int) := by
      unfold ival
      rw [if_neg hm]
    refine ⟨by have := w.le; omega, ?_, ?_, ?_, dig_no w.dig⟩
    · rw [e]; exact w.int
    · rw [e]
      unfold numZ
      rw [if_neg (by omega), Int.natAbs_natCast, w.num]
    · rw [e, Int.natAbs_natCast]; exact w.lt
theorem numZ_no (i : Int) : 47 ∉ numZ i := by
  unfold numZ
  split
  · intro z
    rcases List.mem_cons.mp z with z | z
    · cases z
    · exact TL.numL_free (by omega) z
  · exact TL.numL_free (by omega)
theorem cut_uniq : ∀ {a b c d : List Nat}, 47 ∉ a → 47 ∉ c → a ++ 47 :: b = c ++ 47 :: d → a = c ∧ b = d
  | [], b, [], d, _, _, e => ⟨rfl, (List.cons.inj e).2⟩
  | [], b, x :: c, d, _, hc, e => absurd (List.mem_cons.mpr (.inl (List.cons.inj e).1)) hc
  | x :: a, b, [], d, ha, _, e => absurd (List.mem_cons.mpr (.inl (List.cons.inj e).1.symm)) ha
  | x :: a, b, y :: c, d, ha, hc, e => by
    obtain ⟨e1, e2⟩ := List.cons.inj e
    obtain ⟨r1, r2⟩ := cut_uniq (fun z => ha (List.mem_cons_of_mem _ z)) (fun z => hc (List.mem_cons_of_mem _ z)) e2
    exact ⟨by rw [e1, r1], r2⟩
end Fw
end

section
set_option maxRecDepth 100000
set_option maxHeartbeats 4000000
namespace Fw
open PySem L2 SX
theorem intF_S {l : List Nat} {n : Int} (hl : l.length ≤ 640) (h : PySem.intText? (S l) = some n) : intF [.str (S l)] = some (.vl (.int n)) := by
  show (if (S l).length ≤ 640 then (PySem.intText? (S l)).map fun n => T1.vl (.int n) else none) = _
  rw [S_len, if_pos hl, h] <;> rfl
def fracO : Option (Int × Int) → FR
  | some (t, b) => .ok true (.ins 2 [.int t, .int b]) []
  | none => .exc ⟨1, []⟩ []
def pairO : Option (Int × Int) → FR
  | some (t, b) => .ok true (.tup [.int t, .int b]) []
  | none => .ok false .non []
theorem nT1 (t : Int) : nT t 1 = t := by
  unfold nT
  rw [if_neg (by decide), Int.gcd_one] <;> simp
theorem nB1 (t : Int) : nB t 1 = 1 := by
  unfold nB
  rw [Int.gcd_one] <;> rfl
def rd0 (l : List Nat) : Option (Int × Int) := if okN l = true then some (ival l, 1) else none
def rd1 (p q : List Nat) : Option (Int × Int) := if (irt (some (p, q)) []) = true then (if Int.gcd (ival p) ((dv q : Nat) : Int) = 1 then some (ival p, ((dv q : Nat) : Int)) else none) else none
theorem irt_l (p q l : List Nat) : irt (some (p, q)) l = irt (some (p, q)) [] := rfl
theorem ostr_ok {t b : Int} (h : t.natAbs < 10 ^ 61) (h' : b.natAbs < 10 ^ 61) : ostrF 2 p_Ratioq_strq [.ins 2 [.int t, .int b]] = some (.vl (.str (S (txt t b)))) := by
  simp only [ostrF, if_true, str_ok h h']
theorem p6 {n : Nat} (h : n < 10 ^ 60) : n < 10 ^ 61 := Nat.lt_trans h (by decide)
theorem p8 {n : Nat} (h : n < 10 ^ 60) : n < 2 ^ 8000 := Nat.lt_trans h (by decide +kernel)
theorem read0 {l : List Nat} (h : 47 ∉ l) (hl : l.length ≤ 100000) : p_Ratio_read [.cls 2, .str (S l)] = fracO (rd0 l) := by
  unfold p_Ratio_read
  rw [fnOf_eq _ _ _ _ rfl]
  show finF _ (b_Ratio_read _ [.val (.cls 2), .val (.str (S l)), .un, .un, .un, .un]) = _
  unfold b_Ratio_read rd0
  have w1 := irt_none h hl
  have x1 : isT 2 aStr (.str (S l)) = some true := rfl
  have t1 : tyD "str" (.str (S l)) = true := rfl
  have n1 : decide (([] : List Nat) = [47]) = false := rfl
  cases ho : okN l with
  | false =>
    have e : irt none l = false := ho
    rw [e] at w1
    simp only [↓v_onS, ↓v_bnd, ↓v_ret, ↓v_stk, ↓v_lf, ↓v_rv, ↓v_var, ↓v_pk, ↓v_mov, ↓v_cst, ↓v_ops2, ↓v_ops1, ↓v_bin, ↓v_sub, ↓v_cmp, ↓v_un, ↓v_asV, ↓v_and, ↓v_or, ↓v_not, ↓v_if, ↓v_andV, ↓v_orV, ↓v_notV, ↓v_tst, ↓v_args0, ↓v_args1, ↓v_rvs0, ↓v_rvs1, ↓v_tup, ↓v_lst, ↓v_callB, ↓v_seq, ↓v_nx, ↓v_drop, ↓v_retM, ↓v_sto, ↓v_set, ↓v_att, ↓v_part0, ↓v_part1, ↓v_sli, ↓v_unp, ↓v_par, ↓v_seqI, ↓v_onVl, ↓v_rng, ↓v_for, ↓v_lc, ↓v_yes, ↓v_mth, ↓v_mut, ↓v_call, ↓v_meth, ↓v_cmet, ↓v_make, ↓v_makT, ↓v_makL, ↓v_callT, ↓v_six, ↓v_fld, ↓v_isi, ↓v_rs0, ↓v_try, ↓v_ise, ↓v_chn, ↓v_fmt, ↓v_lit, ↓v_cat0, ↓v_cat1, ↓v_fst, ↓v_ite, ↓reduceIte, fz, vlsO, vlO, sto1, bindAll, bind1, bindT, List.getElem?_cons_zero, List.getElem?_cons_succ, List.set_cons_zero, List.set_cons_succ, Option.map_some, Option.map_none, Option.bind_some, Option.bind_none, isTup, picks_1, picks_2, picks_21, resO, pks, putB, setO, List.nodup_cons, List.nodup_nil, List.not_mem_nil, not_false_eq_true, and_true, List.map_nil, List.map_cons, List.append_nil, List.cons_append, List.nil_append, isIns, isCls, BEq.rfl, capN, capS, Bool.false_eq_true, Bool.not_true, Bool.not_false, x1, truD, w1, finF, outsO, fracO]
  | true =>
    have e : irt none l = true := ho
    rw [e] at w1
    have o := ok_of ho
    have i1 := init_ok (t := ival l) (b := 1) (by decide) (by decide +kernel)
    rw [nT1, nB1] at i1
    have q1 : txt (ival l) 1 = l := by
      unfold txt
      rw [if_pos rfl, o.num]
    have s1 := ostr_ok (t := ival l) (b := 1) (p6 o.lt) (by decide)
    rw [q1] at s1
    have l1 : l.length ≤ 640 := by have := o.le; omega
    simp only [↓v_onS, ↓v_bnd, ↓v_ret, ↓v_stk, ↓v_lf, ↓v_rv, ↓v_var, ↓v_pk, ↓v_mov, ↓v_cst, ↓v_ops2, ↓v_ops1, ↓v_bin, ↓v_sub, ↓v_cmp, ↓v_un, ↓v_asV, ↓v_and, ↓v_or, ↓v_not, ↓v_if, ↓v_andV, ↓v_orV, ↓v_notV, ↓v_tst, ↓v_args0, ↓v_args1, ↓v_rvs0, ↓v_rvs1, ↓v_tup, ↓v_lst, ↓v_callB, ↓v_seq, ↓v_nx, ↓v_drop, ↓v_retM, ↓v_sto, ↓v_set, ↓v_att, ↓v_part0, ↓v_part1, ↓v_sli, ↓v_unp, ↓v_par, ↓v_seqI, ↓v_onVl, ↓v_rng, ↓v_for, ↓v_lc, ↓v_yes, ↓v_mth, ↓v_mut, ↓v_call, ↓v_meth, ↓v_cmet, ↓v_make, ↓v_makT, ↓v_makL, ↓v_callT, ↓v_six, ↓v_fld, ↓v_isi, ↓v_rs0, ↓v_try, ↓v_ise, ↓v_chn, ↓v_fmt, ↓v_lit, ↓v_cat0, ↓v_cat1, ↓v_fst, ↓v_ite, ↓reduceIte, fz, vlsO, vlO, sto1, bindAll, bind1, bindT, List.getElem?_cons_zero, List.getElem?_cons_succ, List.set_cons_zero, List.set_cons_succ, Option.map_some, Option.map_none, Option.bind_some, Option.bind_none, isTup, picks_1, picks_2, picks_21, resO, pks, putB, setO, List.nodup_cons, List.nodup_nil, List.not_mem_nil, not_false_eq_true, and_true, List.map_nil, List.map_cons, List.append_nil, List.cons_append, List.nil_append, isIns, isCls, BEq.rfl, capN, capS, Bool.false_eq_true, Bool.not_true, Bool.not_false, x1, truD, w1, t1, sl, partD_none h (show l.length ≤ 1000000 by omega), eqD_str, neD_str, bS, n1, intF_S l1 o.int, i1, s1, decide_true, finF, outsO, fracO]
theorem sq_len {p q : List Nat} {n : Nat} (hl : (p ++ [47] ++ q).length ≤ n) : p.length ≤ n ∧ q.length ≤ n := by
  rw [List.length_append, List.length_append] at hl
  omega
theorem nT_pos {t b : Int} (h : 0 < b) : nT t b = t / (Int.gcd t b : Int) := by
  unfold nT
  rw [if_neg (by omega)]
theorem nB_pos {t b : Int} (h : 0 < b) : nB t b = b / (Int.gcd t b : Int) := by
  unfold nB
  rw [Int.natAbs_of_nonneg (by omega)]
theorem ediv_abs {t : Int} {g : Int} {n : Nat} (hg : 0 < g) (hd : g ∣ t) (h : t.natAbs < n) : (t / g).natAbs < n := by
  rw [Int.natAbs_ediv_of_dvd hd]
  exact Nat.lt_of_le_of_lt (Nat.div_le_self _ _) h
theorem numZ_inj {a b : Int} (ha : 0 ≤ a) (hb : 0 ≤ b) (h : numZ a = numZ b) : a = b := by
  unfold numZ at h
  rw [if_neg (by omega), if_neg (by omega)] at h
  have := TL.numL_inj h
  omega
theorem txt_ne {p q : List Nat} (o : Ok p) (w : Wr q) (h2 : 2 ≤ dv q) : (txt (nT (ival p) ((dv q : Nat) : Int)) (nB (ival p) ((dv q : Nat) : Int)) = p ++ [47] ++ q) ↔ Int.gcd (ival p) ((dv q : Nat) : Int) = 1 := by
  have hb : (0 : Int) < ((dv q : Nat) : Int) := by omega
  have nq : numZ ((dv q : Nat) : Int) = q := by
    unfold numZ
    rw [if_neg (by omega), Int.natAbs_natCast, w.num]
  rw [nT_pos hb, nB_pos hb]
  constructor
  · intro h
    unfold txt at h
    by_cases e1 : ((dv q : Nat) : Int) / (Int.gcd (ival p) ((dv q : Nat) : Int) : Int) = 1
    · rw [if_pos e1] at h
      have : 47 ∈ numZ (ival p / (Int.gcd (ival p) ((dv q : Nat) : Int) : Int)) := by rw [h]; simp
      exact absurd this (numZ_no _)
    · rw [if_neg e1, List.append_assoc, List.append_assoc] at h
      have e2 := (cut_uniq (numZ_no _) o.no h).2
      have g0 := gcd_pos' (t := ival p) (b := ((dv q : Nat) : Int)) (by omega)
      have dvd : (Int.gcd (ival p) ((dv q : Nat) : Int) : Int) ∣ ((dv q : Nat) : Int) := Int.gcd_dvd_right ..
      have e3 : ((dv q : Nat) : Int) / (Int.gcd (ival p) ((dv q : Nat) : Int) : Int) = ((dv q : Nat) : Int) := numZ_inj (Int.ediv_nonneg (by omega) (by omega)) (by omega) (e2.trans nq.symm)
      have e4 := Int.ediv_mul_cancel dvd
      rw [e3] at e4
      have e5 : (Int.gcd (ival p) ((dv q : Nat) : Int) : Int) = 1 := by
        have : ((dv q : Nat) : Int) * (Int.gcd (ival p) ((dv q : Nat) : Int) : Int) = ((dv q : Nat) : Int) * 1 := by omega
        exact Int.eq_of_mul_eq_mul_left (by omega) this
      omega
  · intro h
    rw [h]
    show txt (ival p / 1) (((dv q : Nat) : Int) / 1) = _
    rw [Int.ediv_one, Int.ediv_one]
    unfold txt
    rw [if_neg (by omega), o.num, nq]
theorem dv2 {q : List Nat} (w : Wr q) (h : (!decide (q = [48]) && !decide (q = [49])) = true) : 2 ≤ dv q := by
  have n := w.num
  apply Nat.le_of_not_lt
  intro z
  have : dv q = 0 ∨ dv q = 1 := by omega
  rcases this with e | e
  · rw [e] at n
    have : q = [48] := by rw [← n]; decide +kernel
    subst this
    simp at h
  · rw [e] at n
    have : q = [49] := by rw [← n]; decide +kernel
    subst this
    simp at h
theorem read1 {p q : List Nat} (h : 47 ∉ p) (hl : (p ++ [47] ++ q).length ≤ 100000) : p_Ratio_read [.cls 2, .str (S (p ++ [47] ++ q))] = fracO (rd1 p q) := by
  have pt := partD_some (q := q) h (by omega)
  have w1 := irt_some h hl
  unfold p_Ratio_read
  rw [fnOf_eq _ _ _ _ rfl]
  show finF _ (b_Ratio_read _ [.val (.cls 2), .val (.str (S (p ++ [47] ++ q))), .un, .un, .un, .un]) = _
  unfold b_Ratio_read rd1
  have x1 : isT 2 aStr (.str (S (p ++ [47] ++ q))) = some true := rfl
  have t1 : tyD "str" (.str (S (p ++ [47] ++ q))) = true := rfl
  have n1 : decide (([47] : List Nat) = [47]) = true := rfl
  cases hi : irt (some (p, q)) [] with
  | false =>
    rw [irt_l, hi] at w1
    simp only [↓v_onS, ↓v_bnd, ↓v_ret, ↓v_stk, ↓v_lf, ↓v_rv, ↓v_var, ↓v_pk, ↓v_mov, ↓v_cst, ↓v_ops2, ↓v_ops1, ↓v_bin, ↓v_sub, ↓v_cmp, ↓v_un, ↓v_asV, ↓v_and, ↓v_or, ↓v_not, ↓v_if, ↓v_andV, ↓v_orV, ↓v_notV, ↓v_tst, ↓v_args0, ↓v_args1, ↓v_rvs0, ↓v_rvs1, ↓v_tup, ↓v_lst, ↓v_callB, ↓v_seq, ↓v_nx, ↓v_drop, ↓v_retM, ↓v_sto, ↓v_set, ↓v_att, ↓v_part0, ↓v_part1, ↓v_sli, ↓v_unp, ↓v_par, ↓v_seqI, ↓v_onVl, ↓v_rng, ↓v_for, ↓v_lc, ↓v_yes, ↓v_mth, ↓v_mut, ↓v_call, ↓v_meth, ↓v_cmet, ↓v_make, ↓v_makT, ↓v_makL, ↓v_callT, ↓v_six, ↓v_fld, ↓v_isi, ↓v_rs0, ↓v_try, ↓v_ise, ↓v_chn, ↓v_fmt, ↓v_lit, ↓v_cat0, ↓v_cat1, ↓v_fst, ↓v_ite, ↓reduceIte, fz, vlsO, vlO, sto1, bindAll, bind1, bindT, List.getElem?_cons_zero, List.getElem?_cons_succ, List.set_cons_zero, List.set_cons_succ, Option.map_some, Option.map_none, Option.bind_some, Option.bind_none, isTup, picks_1, picks_2, picks_21, resO, pks, putB, setO, List.nodup_cons, List.nodup_nil, List.not_mem_nil, not_false_eq_true, and_true, List.map_nil, List.map_cons, List.append_nil, List.cons_append, List.nil_append, isIns, isCls, BEq.rfl, capN, capS, Bool.false_eq_true, Bool.not_true, Bool.not_false, x1, truD, w1, finF, outsO, fracO]
  | true =>
    rw [irt_l, hi] at w1
    have hi' := hi
    unfold irt at hi'
    simp only [Bool.and_eq_true] at hi'
    obtain ⟨⟨k1, k2⟩, k3⟩ := hi'
    have o := ok_of k3
    have w := wr_of k1
    have d2 := dv2 w (by rw [Bool.and_eq_true]; exact k2)
    have hb : (0 : Int) < ((dv q : Nat) : Int) := by omega
    have g0 := gcd_pos' (t := ival p) (b := ((dv q : Nat) : Int)) (by omega)
    have i1 := init_ok (t := ival p) (b := ((dv q : Nat) : Int)) (by omega) (by rw [Int.natAbs_natCast]; exact p8 w.lt)
    have ne := txt_ne o w d2
    have s1 := ostr_ok (t := nT (ival p) ((dv q : Nat) : Int)) (b := nB (ival p) ((dv q : Nat) : Int)) (by
      rw [nT_pos hb]
      exact ediv_abs g0 (Int.gcd_dvd_left ..) (p6 o.lt)) (by
      rw [nB_pos hb]
      exact ediv_abs g0 (Int.gcd_dvd_right ..) (by rw [Int.natAbs_natCast]; exact p6 w.lt))
    have l1 : p.length ≤ 640 := by have := o.le; omega
    have l2 : q.length ≤ 640 := by have := w.le; omega
    by_cases hg : Int.gcd (ival p) ((dv q : Nat) : Int) = 1
    · have e1 := ne.mpr hg
      rw [e1] at s1
      have q1 : nT (ival p) ((dv q : Nat) : Int) = ival p := by rw [nT_pos hb, hg]; exact Int.ediv_one _
      have q2 : nB (ival p) ((dv q : Nat) : Int) = ((dv q : Nat) : Int) := by rw [nB_pos hb, hg]; exact Int.ediv_one _
      rw [q1, q2] at i1 s1
      generalize p ++ [47] ++ q = L at *
      simp only [↓v_onS, ↓v_bnd, ↓v_ret, ↓v_stk, ↓v_lf, ↓v_rv, ↓v_var, ↓v_pk, ↓v_mov, ↓v_cst, ↓v_ops2, ↓v_ops1, ↓v_bin, ↓v_sub, ↓v_cmp, ↓v_un, ↓v_asV, ↓v_and, ↓v_or, ↓v_not, ↓v_if, ↓v_andV, ↓v_orV, ↓v_notV, ↓v_tst, ↓v_args0, ↓v_args1, ↓v_rvs0, ↓v_rvs1, ↓v_tup, ↓v_lst, ↓v_callB, ↓v_seq, ↓v_nx, ↓v_drop, ↓v_retM, ↓v_sto, ↓v_set, ↓v_att, ↓v_part0, ↓v_part1, ↓v_sli, ↓v_unp, ↓v_par, ↓v_seqI, ↓v_onVl, ↓v_rng, ↓v_for, ↓v_lc, ↓v_yes, ↓v_mth, ↓v_mut, ↓v_call, ↓v_meth, ↓v_cmet, ↓v_make, ↓v_makT, ↓v_makL, ↓v_callT, ↓v_six, ↓v_fld, ↓v_isi, ↓v_rs0, ↓v_try, ↓v_ise, ↓v_chn, ↓v_fmt, ↓v_lit, ↓v_cat0, ↓v_cat1, ↓v_fst, ↓v_ite, ↓reduceIte, fz, vlsO, vlO, sto1, bindAll, bind1, bindT, List.getElem?_cons_zero, List.getElem?_cons_succ, List.set_cons_zero, List.set_cons_succ, Option.map_some, Option.map_none, Option.bind_some, Option.bind_none, isTup, picks_1, picks_2, picks_21, resO, pks, putB, setO, List.nodup_cons, List.nodup_nil, List.not_mem_nil, not_false_eq_true, and_true, List.map_nil, List.map_cons, List.append_nil, List.cons_append, List.nil_append, isIns, isCls, BEq.rfl, capN, capS, Bool.false_eq_true, Bool.not_true, Bool.not_false, x1, truD, w1, t1, sl, pt, eqD_str, neD_str, bS, n1, intF_S l1 o.int, intF_S l2 w.int, i1, s1, decide_true, hg, finF, outsO, fracO]
    · have e1 : ¬ (txt (nT (ival p) ((dv q : Nat) : Int)) (nB (ival p) ((dv q : Nat) : Int)) = p ++ [47] ++ q) := fun z => hg (ne.mp z)
      generalize p ++ [47] ++ q = L at *
      simp only [↓v_onS, ↓v_bnd, ↓v_ret, ↓v_stk, ↓v_lf, ↓v_rv, ↓v_var, ↓v_pk, ↓v_mov, ↓v_cst, ↓v_ops2, ↓v_ops1, ↓v_bin, ↓v_sub, ↓v_cmp, ↓v_un, ↓v_asV, ↓v_and, ↓v_or, ↓v_not, ↓v_if, ↓v_andV, ↓v_orV, ↓v_notV, ↓v_tst, ↓v_args0, ↓v_args1, ↓v_rvs0, ↓v_rvs1, ↓v_tup, ↓v_lst, ↓v_callB, ↓v_seq, ↓v_nx, ↓v_drop, ↓v_retM, ↓v_sto, ↓v_set, ↓v_att, ↓v_part0, ↓v_part1, ↓v_sli, ↓v_unp, ↓v_par, ↓v_seqI, ↓v_onVl, ↓v_rng, ↓v_for, ↓v_lc, ↓v_yes, ↓v_mth, ↓v_mut, ↓v_call, ↓v_meth, ↓v_cmet, ↓v_make, ↓v_makT, ↓v_makL, ↓v_callT, ↓v_six, ↓v_fld, ↓v_isi, ↓v_rs0, ↓v_try, ↓v_ise, ↓v_chn, ↓v_fmt, ↓v_lit, ↓v_cat0, ↓v_cat1, ↓v_fst, ↓v_ite, ↓reduceIte, fz, vlsO, vlO, sto1, bindAll, bind1, bindT, List.getElem?_cons_zero, List.getElem?_cons_succ, List.set_cons_zero, List.set_cons_succ, Option.map_some, Option.map_none, Option.bind_some, Option.bind_none, isTup, picks_1, picks_2, picks_21, resO, pks, putB, setO, List.nodup_cons, List.nodup_nil, List.not_mem_nil, not_false_eq_true, and_true, List.map_nil, List.map_cons, List.append_nil, List.cons_append, List.nil_append, isIns, isCls, BEq.rfl, capN, capS, Bool.false_eq_true, Bool.not_true, Bool.not_false, x1, truD, w1, t1, sl, pt, eqD_str, neD_str, bS, n1, intF_S l1 o.int, intF_S l2 w.int, i1, s1, decide_false, e1, hg, finF, outsO, fracO]
end Fw
end

section
set_option maxRecDepth 100000
set_option maxHeartbeats 4000000
namespace Fw
open PySem L2 SX
theorem told_of {v : D} {o : Option (Int × Int)} (h : p_Ratio_read [.cls 2, v] = fracO o) : p__law_told [v] = pairO o := by
  unfold p__law_told
  rw [fnOf_eq _ _ _ _ rfl]
  show finF _ (b__law_told _ [.val v, .un, .un]) = _
  unfold b__law_told
  have c1 : ct_InvalidRatio 1 = some true := rfl
  have c2 : ie_FaceError 1 = some true := rfl
  have c3 : ie_ValueError 1 = some true := rfl
  have c4 (t b : Int) : isO 2 (.ins 2 [.int t, .int b]) = some true := rfl
  cases o with
  | none =>
    unfold fracO at h
    have len3 : 2 < [Slot.val v, .un, .un].length := by show 2 < 3; decide
    simp only [↓v_onS, ↓v_bnd, ↓v_ret, ↓v_stk, ↓v_lf, ↓v_rv, ↓v_var, ↓v_pk, ↓v_mov, ↓v_cst, ↓v_ops2, ↓v_ops1, ↓v_bin, ↓v_sub, ↓v_cmp, ↓v_un, ↓v_asV, ↓v_and, ↓v_or, ↓v_not, ↓v_if, ↓v_andV, ↓v_orV, ↓v_notV, ↓v_tst, ↓v_args0, ↓v_args1, ↓v_rvs0, ↓v_rvs1, ↓v_tup, ↓v_lst, ↓v_callB, ↓v_seq, ↓v_nx, ↓v_drop, ↓v_retM, ↓v_sto, ↓v_set, ↓v_att, ↓v_part0, ↓v_part1, ↓v_sli, ↓v_unp, ↓v_par, ↓v_seqI, ↓v_onVl, ↓v_rng, ↓v_for, ↓v_lc, ↓v_yes, ↓v_mth, ↓v_mut, ↓v_call, ↓v_meth, ↓v_cmet, ↓v_make, ↓v_makT, ↓v_makL, ↓v_callT, ↓v_six, ↓v_fld, ↓v_isi, ↓v_rs0, ↓v_try, ↓v_ise, ↓v_chn, ↓v_fmt, ↓v_lit, ↓v_cat0, ↓v_cat1, ↓v_fst, ↓v_ite, ↓reduceIte, fz, vlsO, vlO, sto1, bindAll, bind1, bindT, List.getElem?_cons_zero, List.getElem?_cons_succ, List.set_cons_zero, List.set_cons_succ, Option.map_some, Option.map_none, Option.bind_some, Option.bind_none, isTup, picks_1, picks_2, picks_21, resO, pks, putB, setO, List.nodup_cons, List.nodup_nil, List.not_mem_nil, not_false_eq_true, and_true, List.map_nil, List.map_cons, List.append_nil, List.cons_append, List.nil_append, isIns, isCls, BEq.rfl, capN, capS, Bool.false_eq_true, Bool.not_true, Bool.not_false, h, c1, c2, c3, len3, truD, offS, finF, outsO, pairO]
  | some p =>
    obtain ⟨t, b⟩ := p
    unfold fracO at h
    simp only [↓v_onS, ↓v_bnd, ↓v_ret, ↓v_stk, ↓v_lf, ↓v_rv, ↓v_var, ↓v_pk, ↓v_mov, ↓v_cst, ↓v_ops2, ↓v_ops1, ↓v_bin, ↓v_sub, ↓v_cmp, ↓v_un, ↓v_asV, ↓v_and, ↓v_or, ↓v_not, ↓v_if, ↓v_andV, ↓v_orV, ↓v_notV, ↓v_tst, ↓v_args0, ↓v_args1, ↓v_rvs0, ↓v_rvs1, ↓v_tup, ↓v_lst, ↓v_callB, ↓v_seq, ↓v_nx, ↓v_drop, ↓v_retM, ↓v_sto, ↓v_set, ↓v_att, ↓v_part0, ↓v_part1, ↓v_sli, ↓v_unp, ↓v_par, ↓v_seqI, ↓v_onVl, ↓v_rng, ↓v_for, ↓v_lc, ↓v_yes, ↓v_mth, ↓v_mut, ↓v_call, ↓v_meth, ↓v_cmet, ↓v_make, ↓v_makT, ↓v_makL, ↓v_callT, ↓v_six, ↓v_fld, ↓v_isi, ↓v_rs0, ↓v_try, ↓v_ise, ↓v_chn, ↓v_fmt, ↓v_lit, ↓v_cat0, ↓v_cat1, ↓v_fst, ↓v_ite, ↓reduceIte, fz, vlsO, vlO, sto1, bindAll, bind1, bindT, List.getElem?_cons_zero, List.getElem?_cons_succ, List.set_cons_zero, List.set_cons_succ, Option.map_some, Option.map_none, Option.bind_some, Option.bind_none, isTup, picks_1, picks_2, picks_21, resO, pks, putB, setO, List.nodup_cons, List.nodup_nil, List.not_mem_nil, not_false_eq_true, and_true, List.map_nil, List.map_cons, List.append_nil, List.cons_append, List.nil_append, isIns, isCls, BEq.rfl, capN, capS, Bool.false_eq_true, Bool.not_true, Bool.not_false, h, c4, truD, at_top, at_bottom, finF, outsO, pairO]
theorem splitD_S {l : List Nat} (hl : l.length ≤ 1000000) : splitD (.str (S l)) [.str (S [47])] = some (.fr (.lst ((TL.spl [47] 0 [] l).map fun w => D.str (S w)))) := by
  have e : Txt.split (S l) (S [47]) = (TL.spl [47] 0 [] l).map S := split_S (by simp) (by decide)
  show (if (S [47]).length ≠ 0 ∧ (S l).length ≤ 1000000 then some (T1.fr (.lst ((Txt.split (S l) (S [47])).map D.str))) else none) = _
  rw [e, S_len, S_len, if_pos ⟨by simp, hl⟩, List.map_map] <;> rfl
theorem spl_none {l : List Nat} (h : 47 ∉ l) : TL.spl [47] 0 [] l = [l] := by
  have e := TL.spl_last1 (s := 47) (S := []) (p := l) (acc := []) h
  exact e
theorem spl_some {p : List Nat} (q : List Nat) (h : 47 ∉ p) : TL.spl [47] 0 [] (p ++ [47] ++ q) = p :: TL.spl [47] 0 [] q := by
  have e := TL.spl_part1 (s := 47) (S := []) (p := p) (rest := q) (acc := []) h
  rw [List.append_assoc]
  exact e
theorem spl_ne (q : List Nat) : 1 ≤ (TL.spl [47] 0 [] q).length := by
  have e : Txt.split (S q) (S [47]) = (TL.spl [47] 0 [] q).map S := split_S (by simp) (by decide)
  have h := PyProof.Rows.split_pos (S q) (S [47])
  rw [e, List.length_map] at h
  exact h
theorem cut47 : ∀ l : List Nat, 47 ∉ l ∨ ∃ p q, 47 ∉ p ∧ l = p ++ [47] ++ q
  | [] => .inl (by simp)
  | c :: l => by
    by_cases hc : c = 47
    · subst hc
      exact .inr ⟨[], l, by simp, rfl⟩
    · rcases cut47 l with h | ⟨p, q, h1, h2⟩
      · exact .inl fun z => by
          rcases List.mem_cons.mp z with z | z
          · exact hc z.symm
          · exact h z
      · refine .inr ⟨c :: p, q, fun z => ?_, by rw [h2] <;> rfl⟩
        rcases List.mem_cons.mp z with z | z
        · exact hc z.symm
        · exact h1 z
theorem law_read0 {l : List Nat} (h : 47 ∉ l) (hl : l.length ≤ 100000) (ha : ∀ c ∈ l, c < 128) : p__law_read [.str (S l)] = pairO (rd0 l) := by
  unfold p__law_read
  rw [fnOf_eq _ _ _ _ rfl]
  show finF _ (b__law_read _ [.val (.str (S l)), .un, .un]) = _
  unfold b__law_read rd0
  have x1 : isT 2 aStr (.str (S l)) = some true := rfl
  have t1 : tyD "str" (.str (S l)) = true := rfl
  have sp := splitD_S (l := l) (by omega)
  rw [spl_none h, List.map_cons, List.map_nil] at sp
  have g0 (d : D) : subD (.lst [d]) (.int 0) = some (.vl d) := rfl
  have g1 (d : D) : lenF [.lst [d]] = some (.vl (.int 1)) := rfl
  have d21 : decide ((2 : Int) < 1) = false := by decide
  have z1 := sliT1 (l := l) (by omega)
  have z2 := sliF1 (l := l) (by omega)
  have w1 := whole_ok (l := l) hl ha
  have w2 := whole_ok (l := l.drop 1) (by rw [List.length_drop]; omega) (fun c hc => ha c (List.mem_of_mem_drop hc))
  by_cases hm : l.take 1 = [45]
  · cases hw : wr (l.drop 1) with
    | false =>
      rw [hw] at w2
      have ho : okN l = false := by unfold okN; rw [if_pos hm, hw] <;> rfl
      simp only [↓v_onS, ↓v_bnd, ↓v_ret, ↓v_stk, ↓v_lf, ↓v_rv, ↓v_var, ↓v_pk, ↓v_mov, ↓v_cst, ↓v_ops2, ↓v_ops1, ↓v_bin, ↓v_sub, ↓v_cmp, ↓v_un, ↓v_asV, ↓v_and, ↓v_or, ↓v_not, ↓v_if, ↓v_andV, ↓v_orV, ↓v_notV, ↓v_tst, ↓v_args0, ↓v_args1, ↓v_rvs0, ↓v_rvs1, ↓v_tup, ↓v_lst, ↓v_callB, ↓v_seq, ↓v_nx, ↓v_drop, ↓v_retM, ↓v_sto, ↓v_set, ↓v_att, ↓v_part0, ↓v_part1, ↓v_sli, ↓v_unp, ↓v_par, ↓v_seqI, ↓v_onVl, ↓v_rng, ↓v_for, ↓v_lc, ↓v_yes, ↓v_mth, ↓v_mut, ↓v_call, ↓v_meth, ↓v_cmet, ↓v_make, ↓v_makT, ↓v_makL, ↓v_callT, ↓v_six, ↓v_fld, ↓v_isi, ↓v_rs0, ↓v_try, ↓v_ise, ↓v_chn, ↓v_fmt, ↓v_lit, ↓v_cat0, ↓v_cat1, ↓v_fst, ↓v_ite, ↓reduceIte, fz, vlsO, vlO, sto1, bindAll, bind1, bindT, List.getElem?_cons_zero, List.getElem?_cons_succ, List.set_cons_zero, List.set_cons_succ, Option.map_some, Option.map_none, Option.bind_some, Option.bind_none, isTup, picks_1, picks_2, picks_21, resO, pks, putB, setO, List.nodup_cons, List.nodup_nil, List.not_mem_nil, not_false_eq_true, and_true, List.map_nil, List.map_cons, List.append_nil, List.cons_append, List.nil_append, isIns, isCls, BEq.rfl, capN, capS, Bool.false_eq_true, Bool.not_true, Bool.not_false, x1, truD, t1, sl, sp, g0, g1, intD, z1, z2, sM, eqD_str, bS, hm, decide_true, cmpI, w2, ho, finF, outsO, pairO]
      rfl
    | true =>
      rw [hw] at w2
      by_cases hz : l = [45, 48]
      · have ho : okN l = false := by unfold okN; rw [if_pos hm, hw, decide_eq_true hz] <;> rfl
        have hzd := decide_eq_true hz
        clear hz
        simp only [↓v_onS, ↓v_bnd, ↓v_ret, ↓v_stk, ↓v_lf, ↓v_rv, ↓v_var, ↓v_pk, ↓v_mov, ↓v_cst, ↓v_ops2, ↓v_ops1, ↓v_bin, ↓v_sub, ↓v_cmp, ↓v_un, ↓v_asV, ↓v_and, ↓v_or, ↓v_not, ↓v_if, ↓v_andV, ↓v_orV, ↓v_notV, ↓v_tst, ↓v_args0, ↓v_args1, ↓v_rvs0, ↓v_rvs1, ↓v_tup, ↓v_lst, ↓v_callB, ↓v_seq, ↓v_nx, ↓v_drop, ↓v_retM, ↓v_sto, ↓v_set, ↓v_att, ↓v_part0, ↓v_part1, ↓v_sli, ↓v_unp, ↓v_par, ↓v_seqI, ↓v_onVl, ↓v_rng, ↓v_for, ↓v_lc, ↓v_yes, ↓v_mth, ↓v_mut, ↓v_call, ↓v_meth, ↓v_cmet, ↓v_make, ↓v_makT, ↓v_makL, ↓v_callT, ↓v_six, ↓v_fld, ↓v_isi, ↓v_rs0, ↓v_try, ↓v_ise, ↓v_chn, ↓v_fmt, ↓v_lit, ↓v_cat0, ↓v_cat1, ↓v_fst, ↓v_ite, ↓reduceIte, fz, vlsO, vlO, sto1, bindAll, bind1, bindT, List.getElem?_cons_zero, List.getElem?_cons_succ, List.set_cons_zero, List.set_cons_succ, Option.map_some, Option.map_none, Option.bind_some, Option.bind_none, isTup, picks_1, picks_2, picks_21, resO, pks, putB, setO, List.nodup_cons, List.nodup_nil, List.not_mem_nil, not_false_eq_true, and_true, List.map_nil, List.map_cons, List.append_nil, List.cons_append, List.nil_append, isIns, isCls, BEq.rfl, capN, capS, Bool.false_eq_true, Bool.not_true, Bool.not_false, x1, truD, t1, sl, sp, g0, g1, intD, z1, z2, sM, sM0, eqD_str, bS, hm, decide_true, cmpI, w2, ho, hzd, finF, outsO, pairO]
        rfl
      · have ho : okN l = true := by unfold okN; rw [if_pos hm, hw, decide_eq_false hz] <;> rfl
        have o := ok_of ho
        have l1 : l.length ≤ 640 := by have := o.le; omega
        simp only [↓v_onS, ↓v_bnd, ↓v_ret, ↓v_stk, ↓v_lf, ↓v_rv, ↓v_var, ↓v_pk, ↓v_mov, ↓v_cst, ↓v_ops2, ↓v_ops1, ↓v_bin, ↓v_sub, ↓v_cmp, ↓v_un, ↓v_asV, ↓v_and, ↓v_or, ↓v_not, ↓v_if, ↓v_andV, ↓v_orV, ↓v_notV, ↓v_tst, ↓v_args0, ↓v_args1, ↓v_rvs0, ↓v_rvs1, ↓v_tup, ↓v_lst, ↓v_callB, ↓v_seq, ↓v_nx, ↓v_drop, ↓v_retM, ↓v_sto, ↓v_set, ↓v_att, ↓v_part0, ↓v_part1, ↓v_sli, ↓v_unp, ↓v_par, ↓v_seqI, ↓v_onVl, ↓v_rng, ↓v_for, ↓v_lc, ↓v_yes, ↓v_mth, ↓v_mut, ↓v_call, ↓v_meth, ↓v_cmet, ↓v_make, ↓v_makT, ↓v_makL, ↓v_callT, ↓v_six, ↓v_fld, ↓v_isi, ↓v_rs0, ↓v_try, ↓v_ise, ↓v_chn, ↓v_fmt, ↓v_lit, ↓v_cat0, ↓v_cat1, ↓v_fst, ↓v_ite, ↓reduceIte, fz, vlsO, vlO, sto1, bindAll, bind1, bindT, List.getElem?_cons_zero, List.getElem?_cons_succ, List.set_cons_zero, List.set_cons_succ, Option.map_some, Option.map_none, Option.bind_some, Option.bind_none, isTup, picks_1, picks_2, picks_21, resO, pks, putB, setO, List.nodup_cons, List.nodup_nil, List.not_mem_nil, not_false_eq_true, and_true, List.map_nil, List.map_cons, List.append_nil, List.cons_append, List.nil_append, isIns, isCls, BEq.rfl, capN, capS, Bool.false_eq_true, Bool.not_true, Bool.not_false, x1, truD, t1, sl, sp, g0, g1, intD, z1, z2, sM, sM0, eqD_str, eqD_int, bS, hm, decide_true, decide_false, cmpI, w2, ho, hz, intF_S l1 o.int, d21, finF, outsO, pairO]
        skip
  · have hz : l ≠ [45, 48] := fun z => hm (by rw [z] <;> rfl)
    cases hw : wr l with
    | false =>
      rw [hw] at w1
      have ho : okN l = false := by unfold okN; rw [if_neg hm, hw]
      simp only [↓v_onS, ↓v_bnd, ↓v_ret, ↓v_stk, ↓v_lf, ↓v_rv, ↓v_var, ↓v_pk, ↓v_mov, ↓v_cst, ↓v_ops2, ↓v_ops1, ↓v_bin, ↓v_sub, ↓v_cmp, ↓v_un, ↓v_asV, ↓v_and, ↓v_or, ↓v_not, ↓v_if, ↓v_andV, ↓v_orV, ↓v_notV, ↓v_tst, ↓v_args0, ↓v_args1, ↓v_rvs0, ↓v_rvs1, ↓v_tup, ↓v_lst, ↓v_callB, ↓v_seq, ↓v_nx, ↓v_drop, ↓v_retM, ↓v_sto, ↓v_set, ↓v_att, ↓v_part0, ↓v_part1, ↓v_sli, ↓v_unp, ↓v_par, ↓v_seqI, ↓v_onVl, ↓v_rng, ↓v_for, ↓v_lc, ↓v_yes, ↓v_mth, ↓v_mut, ↓v_call, ↓v_meth, ↓v_cmet, ↓v_make, ↓v_makT, ↓v_makL, ↓v_callT, ↓v_six, ↓v_fld, ↓v_isi, ↓v_rs0, ↓v_try, ↓v_ise, ↓v_chn, ↓v_fmt, ↓v_lit, ↓v_cat0, ↓v_cat1, ↓v_fst, ↓v_ite, ↓reduceIte, fz, vlsO, vlO, sto1, bindAll, bind1, bindT, List.getElem?_cons_zero, List.getElem?_cons_succ, List.set_cons_zero, List.set_cons_succ, Option.map_some, Option.map_none, Option.bind_some, Option.bind_none, isTup, picks_1, picks_2, picks_21, resO, pks, putB, setO, List.nodup_cons, List.nodup_nil, List.not_mem_nil, not_false_eq_true, and_true, List.map_nil, List.map_cons, List.append_nil, List.cons_append, List.nil_append, isIns, isCls, BEq.rfl, capN, capS, Bool.false_eq_true, Bool.not_true, Bool.not_false, x1, truD, t1, sl, sp, g0, g1, intD, z1, z2, sM, eqD_str, bS, hm, decide_false, cmpI, w1, ho, finF, outsO, pairO]
      rfl
    | true =>
      rw [hw] at w1
      have ho : okN l = true := by unfold okN; rw [if_neg hm, hw]
      have o := ok_of ho
      have l1 : l.length ≤ 640 := by have := o.le; omega
      simp only [↓v_onS, ↓v_bnd, ↓v_ret, ↓v_stk, ↓v_lf, ↓v_rv, ↓v_var, ↓v_pk, ↓v_mov, ↓v_cst, ↓v_ops2, ↓v_ops1, ↓v_bin, ↓v_sub, ↓v_cmp, ↓v_un, ↓v_asV, ↓v_and, ↓v_or, ↓v_not, ↓v_if, ↓v_andV, ↓v_orV, ↓v_notV, ↓v_tst, ↓v_args0, ↓v_args1, ↓v_rvs0, ↓v_rvs1, ↓v_tup, ↓v_lst, ↓v_callB, ↓v_seq, ↓v_nx, ↓v_drop, ↓v_retM, ↓v_sto, ↓v_set, ↓v_att, ↓v_part0, ↓v_part1, ↓v_sli, ↓v_unp, ↓v_par, ↓v_seqI, ↓v_onVl, ↓v_rng, ↓v_for, ↓v_lc, ↓v_yes, ↓v_mth, ↓v_mut, ↓v_call, ↓v_meth, ↓v_cmet, ↓v_make, ↓v_makT, ↓v_makL, ↓v_callT, ↓v_six, ↓v_fld, ↓v_isi, ↓v_rs0, ↓v_try, ↓v_ise, ↓v_chn, ↓v_fmt, ↓v_lit, ↓v_cat0, ↓v_cat1, ↓v_fst, ↓v_ite, ↓reduceIte, fz, vlsO, vlO, sto1, bindAll, bind1, bindT, List.getElem?_cons_zero, List.getElem?_cons_succ, List.set_cons_zero, List.set_cons_succ, Option.map_some, Option.map_none, Option.bind_some, Option.bind_none, isTup, picks_1, picks_2, picks_21, resO, pks, putB, setO, List.nodup_cons, List.nodup_nil, List.not_mem_nil, not_false_eq_true, and_true, List.map_nil, List.map_cons, List.append_nil, List.cons_append, List.nil_append, isIns, isCls, BEq.rfl, capN, capS, Bool.false_eq_true, Bool.not_true, Bool.not_false, x1, truD, t1, sl, sp, g0, g1, intD, z1, z2, sM, sM0, eqD_str, eqD_int, bS, hm, decide_true, decide_false, cmpI, w1, ho, hz, intF_S l1 o.int, d21, finF, outsO, pairO]
      skip
end Fw
end

section
set_option maxRecDepth 100000
set_option maxHeartbeats 4000000
namespace Fw
open PySem L2 SX
theorem irt_s (p q l : List Nat) : irt (some (p, q)) l = (wr q && (!decide (q = [48]) && !decide (q = [49])) && okN p) := rfl
theorem hd_ok {p : List Nat} : okN p = (if p.take 1 = [45] then wr (p.drop 1) && !decide (p = [45, 48]) else wr p) := rfl
theorem law_read2 {p q : List Nat} (h : 47 ∉ p) (h' : 47 ∉ q) (hl : (p ++ [47] ++ q).length ≤ 100000) (ha : ∀ c ∈ p ++ [47] ++ q, c < 128) : p__law_read [.str (S (p ++ [47] ++ q))] = pairO (rd1 p q) := by
  have hs := sq_len hl
  have sp := splitD_S (l := p ++ [47] ++ q) (by omega)
  rw [spl_some q h, spl_none h', List.map_cons, List.map_cons, List.map_nil] at sp
  have hap : ∀ c ∈ p, c < 128 := fun c hc => ha c (by simp [hc])
  have haq : ∀ c ∈ q, c < 128 := fun c hc => ha c (by simp [hc])
  unfold p__law_read
  rw [fnOf_eq _ _ _ _ rfl]
  show finF _ (b__law_read _ [.val (.str (S (p ++ [47] ++ q))), .un, .un]) = _
  unfold b__law_read
  have x1 : isT 2 aStr (.str (S (p ++ [47] ++ q))) = some true := rfl
  have t1 : tyD "str" (.str (S (p ++ [47] ++ q))) = true := rfl
  generalize p ++ [47] ++ q = L at *
  have g0 (d e : D) : subD (.lst [d, e]) (.int 0) = some (.vl d) := rfl
  have g1 (d e : D) : subD (.lst [d, e]) (.int 1) = some (.vl e) := rfl
  have g2 (d e : D) : lenF [.lst [d, e]] = some (.vl (.int 2)) := rfl
  have d22 : decide ((2 : Int) < 2) = false := by decide
  have e21 : ((2 : Int) == 1) = false := by decide
  have z1 := sliT1 (l := p) (by omega)
  have z2 := sliF1 (l := p) (by omega)
  have w1 := whole_ok (l := p) hs.1 hap
  have w2 := whole_ok (l := p.drop 1) (by rw [List.length_drop]; omega) (fun c hc => hap c (List.mem_of_mem_drop hc))
  have w3 := whole_ok (l := q) hs.2 haq
  cases ho : okN p with
  | false =>
    have r : rd1 p q = none := by
      unfold rd1
      rw [irt_s, ho, Bool.and_false, if_neg (by decide)]
    rw [r]
    rw [hd_ok] at ho
    by_cases hm : p.take 1 = [45]
    · rw [if_pos hm] at ho
      cases hw : wr (p.drop 1) with
      | false =>
        rw [hw] at w2
        simp only [↓v_onS, ↓v_bnd, ↓v_ret, ↓v_stk, ↓v_lf, ↓v_rv, ↓v_var, ↓v_pk, ↓v_mov, ↓v_cst, ↓v_ops2, ↓v_ops1, ↓v_bin, ↓v_sub, ↓v_cmp, ↓v_un, ↓v_asV, ↓v_and, ↓v_or, ↓v_not, ↓v_if, ↓v_andV, ↓v_orV, ↓v_notV, ↓v_tst, ↓v_args0, ↓v_args1, ↓v_rvs0, ↓v_rvs1, ↓v_tup, ↓v_lst, ↓v_callB, ↓v_seq, ↓v_nx, ↓v_drop, ↓v_retM, ↓v_sto, ↓v_set, ↓v_att, ↓v_part0, ↓v_part1, ↓v_sli, ↓v_unp, ↓v_par, ↓v_seqI, ↓v_onVl, ↓v_rng, ↓v_for, ↓v_lc, ↓v_yes, ↓v_mth, ↓v_mut, ↓v_call, ↓v_meth, ↓v_cmet, ↓v_make, ↓v_makT, ↓v_makL, ↓v_callT, ↓v_six, ↓v_fld, ↓v_isi, ↓v_rs0, ↓v_try, ↓v_ise, ↓v_chn, ↓v_fmt, ↓v_lit, ↓v_cat0, ↓v_cat1, ↓v_fst, ↓v_ite, ↓reduceIte, fz, vlsO, vlO, sto1, bindAll, bind1, bindT, List.getElem?_cons_zero, List.getElem?_cons_succ, List.set_cons_zero, List.set_cons_succ, Option.map_some, Option.map_none, Option.bind_some, Option.bind_none, isTup, picks_1, picks_2, picks_21, resO, pks, putB, setO, List.nodup_cons, List.nodup_nil, List.not_mem_nil, not_false_eq_true, and_true, List.map_nil, List.map_cons, List.append_nil, List.cons_append, List.nil_append, isIns, isCls, BEq.rfl, capN, capS, Bool.false_eq_true, Bool.not_true, Bool.not_false, x1, truD, t1, sl, sp, g0, g1, g2, d22, e21, intD, z1, z2, sM, eqD_str, bS, hm, decide_true, cmpI, w2, finF, outsO, pairO]
      | true =>
        rw [hw] at w2 ho
        have hzd : decide (p = [45, 48]) = true := by
          cases hx : decide (p = [45, 48]) with
          | true => rfl
          | false => rw [hx] at ho; cases ho
        simp only [↓v_onS, ↓v_bnd, ↓v_ret, ↓v_stk, ↓v_lf, ↓v_rv, ↓v_var, ↓v_pk, ↓v_mov, ↓v_cst, ↓v_ops2, ↓v_ops1, ↓v_bin, ↓v_sub, ↓v_cmp, ↓v_un, ↓v_asV, ↓v_and, ↓v_or, ↓v_not, ↓v_if, ↓v_andV, ↓v_orV, ↓v_notV, ↓v_tst, ↓v_args0, ↓v_args1, ↓v_rvs0, ↓v_rvs1, ↓v_tup, ↓v_lst, ↓v_callB, ↓v_seq, ↓v_nx, ↓v_drop, ↓v_retM, ↓v_sto, ↓v_set, ↓v_att, ↓v_part0, ↓v_part1, ↓v_sli, ↓v_unp, ↓v_par, ↓v_seqI, ↓v_onVl, ↓v_rng, ↓v_for, ↓v_lc, ↓v_yes, ↓v_mth, ↓v_mut, ↓v_call, ↓v_meth, ↓v_cmet, ↓v_make, ↓v_makT, ↓v_makL, ↓v_callT, ↓v_six, ↓v_fld, ↓v_isi, ↓v_rs0, ↓v_try, ↓v_ise, ↓v_chn, ↓v_fmt, ↓v_lit, ↓v_cat0, ↓v_cat1, ↓v_fst, ↓v_ite, ↓reduceIte, fz, vlsO, vlO, sto1, bindAll, bind1, bindT, List.getElem?_cons_zero, List.getElem?_cons_succ, List.set_cons_zero, List.set_cons_succ, Option.map_some, Option.map_none, Option.bind_some, Option.bind_none, isTup, picks_1, picks_2, picks_21, resO, pks, putB, setO, List.nodup_cons, List.nodup_nil, List.not_mem_nil, not_false_eq_true, and_true, List.map_nil, List.map_cons, List.append_nil, List.cons_append, List.nil_append, isIns, isCls, BEq.rfl, capN, capS, Bool.false_eq_true, Bool.not_true, Bool.not_false, x1, truD, t1, sl, sp, g0, g1, g2, d22, e21, intD, z1, z2, sM, sM0, eqD_str, bS, hm, decide_true, cmpI, w2, hzd, finF, outsO, pairO]
    · rw [if_neg hm] at ho
      rw [ho] at w1
      simp only [↓v_onS, ↓v_bnd, ↓v_ret, ↓v_stk, ↓v_lf, ↓v_rv, ↓v_var, ↓v_pk, ↓v_mov, ↓v_cst, ↓v_ops2, ↓v_ops1, ↓v_bin, ↓v_sub, ↓v_cmp, ↓v_un, ↓v_asV, ↓v_and, ↓v_or, ↓v_not, ↓v_if, ↓v_andV, ↓v_orV, ↓v_notV, ↓v_tst, ↓v_args0, ↓v_args1, ↓v_rvs0, ↓v_rvs1, ↓v_tup, ↓v_lst, ↓v_callB, ↓v_seq, ↓v_nx, ↓v_drop, ↓v_retM, ↓v_sto, ↓v_set, ↓v_att, ↓v_part0, ↓v_part1, ↓v_sli, ↓v_unp, ↓v_par, ↓v_seqI, ↓v_onVl, ↓v_rng, ↓v_for, ↓v_lc, ↓v_yes, ↓v_mth, ↓v_mut, ↓v_call, ↓v_meth, ↓v_cmet, ↓v_make, ↓v_makT, ↓v_makL, ↓v_callT, ↓v_six, ↓v_fld, ↓v_isi, ↓v_rs0, ↓v_try, ↓v_ise, ↓v_chn, ↓v_fmt, ↓v_lit, ↓v_cat0, ↓v_cat1, ↓v_fst, ↓v_ite, ↓reduceIte, fz, vlsO, vlO, sto1, bindAll, bind1, bindT, List.getElem?_cons_zero, List.getElem?_cons_succ, List.set_cons_zero, List.set_cons_succ, Option.map_some, Option.map_none, Option.bind_some, Option.bind_none, isTup, picks_1, picks_2, picks_21, resO, pks, putB, setO, List.nodup_cons, List.nodup_nil, List.not_mem_nil, not_false_eq_true, and_true, List.map_nil, List.map_cons, List.append_nil, List.cons_append, List.nil_append, isIns, isCls, BEq.rfl, capN, capS, Bool.false_eq_true, Bool.not_true, Bool.not_false, x1, truD, t1, sl, sp, g0, g1, g2, d22, e21, intD, z1, z2, sM, eqD_str, bS, hm, decide_false, cmpI, w1, finF, outsO, pairO]
  | true =>
    have o := ok_of ho
    have l1 : p.length ≤ 640 := by have := o.le; omega
    have hzd : decide (p = [45, 48]) = false := by
      rw [hd_ok] at ho
      by_cases hm : p.take 1 = [45]
      · rw [if_pos hm, Bool.and_eq_true] at ho
        cases hx : decide (p = [45, 48]) with
        | false => rfl
        | true => rw [hx] at ho; cases ho.2
      · exact decide_eq_false fun z => hm (by rw [z] <;> rfl)
    have top : ∀ m : M Flw, (seqM (setM 2 (ifM (cmp eqD (sliM (subM (pk 1) (cst (.int 0))) none (some (cst (.int 1)))) (cst (.str (S [45])))) (sliM (subM (pk 1) (cst (.int 0))) (some (cst (.int 1))) none) (subM (pk 1) (cst (.int 0))))) (seqM (ifM (orM (cmp (cmpI fun i j => decide (j < i)) (callB lenF [(pk 1)]) (cst (.int 2))) (orM (notM (tst (callP [false] p__law_whole [0] [] [(var 2)]))) (cmp eqD (subM (pk 1) (cst (.int 0))) (cst (.str (S [45, 48]))))))
    (retM (cst .non)) nxM) m)) [.val (.str (S L)), .own false (.lst [.str (S p), .str (S q)]), .un] = m [.val (.str (S L)), .own false (.lst [.str (S p), .str (S q)]), .val (.str (S (if p.take 1 = [45] then p.drop 1 else p)))] := by
      intro m
      rw [hd_ok] at ho
      by_cases hm : p.take 1 = [45]
      · rw [if_pos hm, Bool.and_eq_true] at ho
        rw [ho.1] at w2
        simp only [↓v_onS, ↓v_bnd, ↓v_ret, ↓v_stk, ↓v_lf, ↓v_rv, ↓v_var, ↓v_pk, ↓v_mov, ↓v_cst, ↓v_ops2, ↓v_ops1, ↓v_bin, ↓v_sub, ↓v_cmp, ↓v_un, ↓v_asV, ↓v_and, ↓v_or, ↓v_not, ↓v_if, ↓v_andV, ↓v_orV, ↓v_notV, ↓v_tst, ↓v_args0, ↓v_args1, ↓v_rvs0, ↓v_rvs1, ↓v_tup, ↓v_lst, ↓v_callB, ↓v_seq, ↓v_nx, ↓v_drop, ↓v_retM, ↓v_sto, ↓v_set, ↓v_att, ↓v_part0, ↓v_part1, ↓v_sli, ↓v_unp, ↓v_par, ↓v_seqI, ↓v_onVl, ↓v_rng, ↓v_for, ↓v_lc, ↓v_yes, ↓v_mth, ↓v_mut, ↓v_call, ↓v_meth, ↓v_cmet, ↓v_make, ↓v_makT, ↓v_makL, ↓v_callT, ↓v_six, ↓v_fld, ↓v_isi, ↓v_rs0, ↓v_try, ↓v_ise, ↓v_chn, ↓v_fmt, ↓v_lit, ↓v_cat0, ↓v_cat1, ↓v_fst, ↓v_ite, ↓reduceIte, fz, vlsO, vlO, sto1, bindAll, bind1, bindT, List.getElem?_cons_zero, List.getElem?_cons_succ, List.set_cons_zero, List.set_cons_succ, Option.map_some, Option.map_none, Option.bind_some, Option.bind_none, isTup, picks_1, picks_2, picks_21, resO, pks, putB, setO, List.nodup_cons, List.nodup_nil, List.not_mem_nil, not_false_eq_true, and_true, List.map_nil, List.map_cons, List.append_nil, List.cons_append, List.nil_append, isIns, isCls, BEq.rfl, capN, capS, Bool.false_eq_true, Bool.not_true, Bool.not_false, x1, truD, t1, sl, sp, g0, g1, g2, d22, e21, intD, z1, z2, sM, sM0, eqD_str, bS, hm, hzd, decide_true, cmpI, w2, finF, outsO]
      · rw [if_neg hm] at ho
        rw [ho] at w1
        simp only [↓v_onS, ↓v_bnd, ↓v_ret, ↓v_stk, ↓v_lf, ↓v_rv, ↓v_var, ↓v_pk, ↓v_mov, ↓v_cst, ↓v_ops2, ↓v_ops1, ↓v_bin, ↓v_sub, ↓v_cmp, ↓v_un, ↓v_asV, ↓v_and, ↓v_or, ↓v_not, ↓v_if, ↓v_andV, ↓v_orV, ↓v_notV, ↓v_tst, ↓v_args0, ↓v_args1, ↓v_rvs0, ↓v_rvs1, ↓v_tup, ↓v_lst, ↓v_callB, ↓v_seq, ↓v_nx, ↓v_drop, ↓v_retM, ↓v_sto, ↓v_set, ↓v_att, ↓v_part0, ↓v_part1, ↓v_sli, ↓v_unp, ↓v_par, ↓v_seqI, ↓v_onVl, ↓v_rng, ↓v_for, ↓v_lc, ↓v_yes, ↓v_mth, ↓v_mut, ↓v_call, ↓v_meth, ↓v_cmet, ↓v_make, ↓v_makT, ↓v_makL, ↓v_callT, ↓v_six, ↓v_fld, ↓v_isi, ↓v_rs0, ↓v_try, ↓v_ise, ↓v_chn, ↓v_fmt, ↓v_lit, ↓v_cat0, ↓v_cat1, ↓v_fst, ↓v_ite, ↓reduceIte, fz, vlsO, vlO, sto1, bindAll, bind1, bindT, List.getElem?_cons_zero, List.getElem?_cons_succ, List.set_cons_zero, List.set_cons_succ, Option.map_some, Option.map_none, Option.bind_some, Option.bind_none, isTup, picks_1, picks_2, picks_21, resO, pks, putB, setO, List.nodup_cons, List.nodup_nil, List.not_mem_nil, not_false_eq_true, and_true, List.map_nil, List.map_cons, List.append_nil, List.cons_append, List.nil_append, isIns, isCls, BEq.rfl, capN, capS, Bool.false_eq_true, Bool.not_true, Bool.not_false, x1, truD, t1, sl, sp, g0, g1, g2, d22, e21, intD, z1, z2, sM, sM0, eqD_str, bS, hm, hzd, decide_false, cmpI, w1, finF, outsO]
    have s0 : (setM 1 (mthM "str" splitD (pk 0) [(cst (.str (S [47])))])) [.val (.str (S L)), .un, .un] = .ok .nx [.val (.str (S L)), .own false (.lst [.str (S p), .str (S q)]), .un] := by
      simp only [↓v_onS, ↓v_bnd, ↓v_ret, ↓v_stk, ↓v_lf, ↓v_rv, ↓v_var, ↓v_pk, ↓v_mov, ↓v_cst, ↓v_ops2, ↓v_ops1, ↓v_bin, ↓v_sub, ↓v_cmp, ↓v_un, ↓v_asV, ↓v_and, ↓v_or, ↓v_not, ↓v_if, ↓v_andV, ↓v_orV, ↓v_notV, ↓v_tst, ↓v_args0, ↓v_args1, ↓v_rvs0, ↓v_rvs1, ↓v_tup, ↓v_lst, ↓v_callB, ↓v_seq, ↓v_nx, ↓v_drop, ↓v_retM, ↓v_sto, ↓v_set, ↓v_att, ↓v_part0, ↓v_part1, ↓v_sli, ↓v_unp, ↓v_par, ↓v_seqI, ↓v_onVl, ↓v_rng, ↓v_for, ↓v_lc, ↓v_yes, ↓v_mth, ↓v_mut, ↓v_call, ↓v_meth, ↓v_cmet, ↓v_make, ↓v_makT, ↓v_makL, ↓v_callT, ↓v_six, ↓v_fld, ↓v_isi, ↓v_rs0, ↓v_try, ↓v_ise, ↓v_chn, ↓v_fmt, ↓v_lit, ↓v_cat0, ↓v_cat1, ↓v_fst, ↓v_ite, ↓reduceIte, fz, vlsO, vlO, sto1, bindAll, bind1, bindT, List.getElem?_cons_zero, List.getElem?_cons_succ, List.set_cons_zero, List.set_cons_succ, Option.map_some, Option.map_none, Option.bind_some, Option.bind_none, isTup, picks_1, picks_2, picks_21, resO, pks, putB, setO, List.nodup_cons, List.nodup_nil, List.not_mem_nil, not_false_eq_true, and_true, List.map_nil, List.map_cons, List.append_nil, List.cons_append, List.nil_append, isIns, isCls, BEq.rfl, capN, capS, Bool.false_eq_true, Bool.not_true, Bool.not_false, t1, sp]
    have i0 : (ifM (notM (tst (isiM (isT 2 aStr) (pk 0)))) (retM (cst .non)) nxM) [.val (.str (S L)), .un, .un] = .ok .nx [.val (.str (S L)), .un, .un] := by
      simp only [↓v_onS, ↓v_bnd, ↓v_ret, ↓v_stk, ↓v_lf, ↓v_rv, ↓v_var, ↓v_pk, ↓v_mov, ↓v_cst, ↓v_ops2, ↓v_ops1, ↓v_bin, ↓v_sub, ↓v_cmp, ↓v_un, ↓v_asV, ↓v_and, ↓v_or, ↓v_not, ↓v_if, ↓v_andV, ↓v_orV, ↓v_notV, ↓v_tst, ↓v_args0, ↓v_args1, ↓v_rvs0, ↓v_rvs1, ↓v_tup, ↓v_lst, ↓v_callB, ↓v_seq, ↓v_nx, ↓v_drop, ↓v_retM, ↓v_sto, ↓v_set, ↓v_att, ↓v_part0, ↓v_part1, ↓v_sli, ↓v_unp, ↓v_par, ↓v_seqI, ↓v_onVl, ↓v_rng, ↓v_for, ↓v_lc, ↓v_yes, ↓v_mth, ↓v_mut, ↓v_call, ↓v_meth, ↓v_cmet, ↓v_make, ↓v_makT, ↓v_makL, ↓v_callT, ↓v_six, ↓v_fld, ↓v_isi, ↓v_rs0, ↓v_try, ↓v_ise, ↓v_chn, ↓v_fmt, ↓v_lit, ↓v_cat0, ↓v_cat1, ↓v_fst, ↓v_ite, ↓reduceIte, fz, vlsO, vlO, sto1, bindAll, bind1, bindT, List.getElem?_cons_zero, List.getElem?_cons_succ, List.set_cons_zero, List.set_cons_succ, Option.map_some, Option.map_none, Option.bind_some, Option.bind_none, isTup, picks_1, picks_2, picks_21, resO, pks, putB, setO, List.nodup_cons, List.nodup_nil, List.not_mem_nil, not_false_eq_true, and_true, List.map_nil, List.map_cons, List.append_nil, List.cons_append, List.nil_append, isIns, isCls, BEq.rfl, capN, capS, Bool.false_eq_true, Bool.not_true, Bool.not_false, x1, truD]
    rw [sl, sM, sM0, Fw.s0, s1, v_seq, i0]
    show finF _ ((seqM _ _) _) = _
    rw [v_seq, s0]
    show finF _ ((seqM _ _) _) = _
    rw [top]
    generalize (if p.take 1 = [45] then p.drop 1 else p) = T
    cases hq : wr q with
    | false =>
      have r : rd1 p q = none := by
        unfold rd1
        rw [irt_s, hq, Bool.false_and, Bool.false_and, if_neg (by decide)]
      rw [hq] at w3
      simp only [↓v_onS, ↓v_bnd, ↓v_ret, ↓v_stk, ↓v_lf, ↓v_rv, ↓v_var, ↓v_pk, ↓v_mov, ↓v_cst, ↓v_ops2, ↓v_ops1, ↓v_bin, ↓v_sub, ↓v_cmp, ↓v_un, ↓v_asV, ↓v_and, ↓v_or, ↓v_not, ↓v_if, ↓v_andV, ↓v_orV, ↓v_notV, ↓v_tst, ↓v_args0, ↓v_args1, ↓v_rvs0, ↓v_rvs1, ↓v_tup, ↓v_lst, ↓v_callB, ↓v_seq, ↓v_nx, ↓v_drop, ↓v_retM, ↓v_sto, ↓v_set, ↓v_att, ↓v_part0, ↓v_part1, ↓v_sli, ↓v_unp, ↓v_par, ↓v_seqI, ↓v_onVl, ↓v_rng, ↓v_for, ↓v_lc, ↓v_yes, ↓v_mth, ↓v_mut, ↓v_call, ↓v_meth, ↓v_cmet, ↓v_make, ↓v_makT, ↓v_makL, ↓v_callT, ↓v_six, ↓v_fld, ↓v_isi, ↓v_rs0, ↓v_try, ↓v_ise, ↓v_chn, ↓v_fmt, ↓v_lit, ↓v_cat0, ↓v_cat1, ↓v_fst, ↓v_ite, ↓reduceIte, fz, vlsO, vlO, sto1, bindAll, bind1, bindT, List.getElem?_cons_zero, List.getElem?_cons_succ, List.set_cons_zero, List.set_cons_succ, Option.map_some, Option.map_none, Option.bind_some, Option.bind_none, isTup, picks_1, picks_2, picks_21, resO, pks, putB, setO, List.nodup_cons, List.nodup_nil, List.not_mem_nil, not_false_eq_true, and_true, List.map_nil, List.map_cons, List.append_nil, List.cons_append, List.nil_append, isIns, isCls, BEq.rfl, capN, capS, Bool.false_eq_true, Bool.not_true, Bool.not_false, g0, g1, g2, e21, eqD_int, truD, w3, r, finF, outsO, pairO]
    | true =>
      rw [hq] at w3
      cases hi : (decide (q = [48]) || decide (q = [49])) with
      | true =>
        have hi2 : (!decide (q = [48]) && !decide (q = [49])) = false := by
          rw [← Bool.not_or, hi] <;> rfl
        have r : rd1 p q = none := by
          unfold rd1
          rw [irt_s, hq, hi2, Bool.true_and, Bool.false_and, if_neg (by decide)]
        simp only [↓v_onS, ↓v_bnd, ↓v_ret, ↓v_stk, ↓v_lf, ↓v_rv, ↓v_var, ↓v_pk, ↓v_mov, ↓v_cst, ↓v_ops2, ↓v_ops1, ↓v_bin, ↓v_sub, ↓v_cmp, ↓v_un, ↓v_asV, ↓v_and, ↓v_or, ↓v_not, ↓v_if, ↓v_andV, ↓v_orV, ↓v_notV, ↓v_tst, ↓v_args0, ↓v_args1, ↓v_rvs0, ↓v_rvs1, ↓v_tup, ↓v_lst, ↓v_callB, ↓v_seq, ↓v_nx, ↓v_drop, ↓v_retM, ↓v_sto, ↓v_set, ↓v_att, ↓v_part0, ↓v_part1, ↓v_sli, ↓v_unp, ↓v_par, ↓v_seqI, ↓v_onVl, ↓v_rng, ↓v_for, ↓v_lc, ↓v_yes, ↓v_mth, ↓v_mut, ↓v_call, ↓v_meth, ↓v_cmet, ↓v_make, ↓v_makT, ↓v_makL, ↓v_callT, ↓v_six, ↓v_fld, ↓v_isi, ↓v_rs0, ↓v_try, ↓v_ise, ↓v_chn, ↓v_fmt, ↓v_lit, ↓v_cat0, ↓v_cat1, ↓v_fst, ↓v_ite, ↓reduceIte, fz, vlsO, vlO, sto1, bindAll, bind1, bindT, List.getElem?_cons_zero, List.getElem?_cons_succ, List.set_cons_zero, List.set_cons_succ, Option.map_some, Option.map_none, Option.bind_some, Option.bind_none, isTup, picks_1, picks_2, picks_21, resO, pks, putB, setO, List.nodup_cons, List.nodup_nil, List.not_mem_nil, not_false_eq_true, and_true, List.map_nil, List.map_cons, List.append_nil, List.cons_append, List.nil_append, isIns, isCls, BEq.rfl, capN, capS, Bool.false_eq_true, Bool.not_true, Bool.not_false, g0, g1, g2, e21, eqD_int, truD, w3, in01, hi, r, finF, outsO, pairO]
      | false =>
        have hi2 : (!decide (q = [48]) && !decide (q = [49])) = true := by
          rw [← Bool.not_or, hi] <;> rfl
        have w := wr_of hq
        have l2 : q.length ≤ 640 := by have := w.le; omega
        by_cases hg : Int.gcd (ival p) ((dv q : Nat) : Int) = 1
        · have r : rd1 p q = some (ival p, ((dv q : Nat) : Int)) := by
            unfold rd1
            rw [irt_s, hq, hi2, ho, if_pos (by decide), if_pos hg]
          have g9 : ((Int.gcd (ival p) ((dv q : Nat) : Int) : Int) == 1) = true := by rw [hg]; rfl
          simp only [↓v_onS, ↓v_bnd, ↓v_ret, ↓v_stk, ↓v_lf, ↓v_rv, ↓v_var, ↓v_pk, ↓v_mov, ↓v_cst, ↓v_ops2, ↓v_ops1, ↓v_bin, ↓v_sub, ↓v_cmp, ↓v_un, ↓v_asV, ↓v_and, ↓v_or, ↓v_not, ↓v_if, ↓v_andV, ↓v_orV, ↓v_notV, ↓v_tst, ↓v_args0, ↓v_args1, ↓v_rvs0, ↓v_rvs1, ↓v_tup, ↓v_lst, ↓v_callB, ↓v_seq, ↓v_nx, ↓v_drop, ↓v_retM, ↓v_sto, ↓v_set, ↓v_att, ↓v_part0, ↓v_part1, ↓v_sli, ↓v_unp, ↓v_par, ↓v_seqI, ↓v_onVl, ↓v_rng, ↓v_for, ↓v_lc, ↓v_yes, ↓v_mth, ↓v_mut, ↓v_call, ↓v_meth, ↓v_cmet, ↓v_make, ↓v_makT, ↓v_makL, ↓v_callT, ↓v_six, ↓v_fld, ↓v_isi, ↓v_rs0, ↓v_try, ↓v_ise, ↓v_chn, ↓v_fmt, ↓v_lit, ↓v_cat0, ↓v_cat1, ↓v_fst, ↓v_ite, ↓reduceIte, fz, vlsO, vlO, sto1, bindAll, bind1, bindT, List.getElem?_cons_zero, List.getElem?_cons_succ, List.set_cons_zero, List.set_cons_succ, Option.map_some, Option.map_none, Option.bind_some, Option.bind_none, isTup, picks_1, picks_2, picks_21, resO, pks, putB, setO, List.nodup_cons, List.nodup_nil, List.not_mem_nil, not_false_eq_true, and_true, List.map_nil, List.map_cons, List.append_nil, List.cons_append, List.nil_append, isIns, isCls, BEq.rfl, capN, capS, Bool.false_eq_true, Bool.not_true, Bool.not_false, g0, g1, g2, e21, eqD_int, neD_int, truD, w3, in01, hi, intF_S l1 o.int, intF_S l2 w.int, p_law_divisor_eq, g9, r, finF, outsO, pairO]
        · have r : rd1 p q = none := by
            unfold rd1
            rw [irt_s, hq, hi2, ho, if_pos (by decide), if_neg hg]
          have g9 : ((Int.gcd (ival p) ((dv q : Nat) : Int) : Int) == 1) = false := beq_false_of_ne (by omega)
          simp only [↓v_onS, ↓v_bnd, ↓v_ret, ↓v_stk, ↓v_lf, ↓v_rv, ↓v_var, ↓v_pk, ↓v_mov, ↓v_cst, ↓v_ops2, ↓v_ops1, ↓v_bin, ↓v_sub, ↓v_cmp, ↓v_un, ↓v_asV, ↓v_and, ↓v_or, ↓v_not, ↓v_if, ↓v_andV, ↓v_orV, ↓v_notV, ↓v_tst, ↓v_args0, ↓v_args1, ↓v_rvs0, ↓v_rvs1, ↓v_tup, ↓v_lst, ↓v_callB, ↓v_seq, ↓v_nx, ↓v_drop, ↓v_retM, ↓v_sto, ↓v_set, ↓v_att, ↓v_part0, ↓v_part1, ↓v_sli, ↓v_unp, ↓v_par, ↓v_seqI, ↓v_onVl, ↓v_rng, ↓v_for, ↓v_lc, ↓v_yes, ↓v_mth, ↓v_mut, ↓v_call, ↓v_meth, ↓v_cmet, ↓v_make, ↓v_makT, ↓v_makL, ↓v_callT, ↓v_six, ↓v_fld, ↓v_isi, ↓v_rs0, ↓v_try, ↓v_ise, ↓v_chn, ↓v_fmt, ↓v_lit, ↓v_cat0, ↓v_cat1, ↓v_fst, ↓v_ite, ↓reduceIte, fz, vlsO, vlO, sto1, bindAll, bind1, bindT, List.getElem?_cons_zero, List.getElem?_cons_succ, List.set_cons_zero, List.set_cons_succ, Option.map_some, Option.map_none, Option.bind_some, Option.bind_none, isTup, picks_1, picks_2, picks_21, resO, pks, putB, setO, List.nodup_cons, List.nodup_nil, List.not_mem_nil, not_false_eq_true, and_true, List.map_nil, List.map_cons, List.append_nil, List.cons_append, List.nil_append, isIns, isCls, BEq.rfl, capN, capS, Bool.false_eq_true, Bool.not_true, Bool.not_false, g0, g1, g2, e21, eqD_int, neD_int, truD, w3, in01, hi, intF_S l1 o.int, intF_S l2 w.int, p_law_divisor_eq, g9, r, finF, outsO, pairO]
end Fw
end

section
set_option maxRecDepth 100000
set_option maxHeartbeats 4000000
namespace Fw
open PySem L2 SX
theorem rd1_bad {p q : List Nat} (h : 47 ∈ q) : rd1 p q = none := by
  have hq : wr q = false := by
    cases hw : wr q with
    | false => rfl
    | true => exact absurd h (dig_no (wr_of hw).dig)
  unfold rd1
  rw [irt_s, hq, Bool.false_and, Bool.false_and, if_neg (by decide)]
theorem law_read3 {p q : List Nat} (h : 47 ∉ p) (h' : 47 ∈ q) (hl : (p ++ [47] ++ q).length ≤ 100000) (ha : ∀ c ∈ p ++ [47] ++ q, c < 128) : p__law_read [.str (S (p ++ [47] ++ q))] = pairO none := by
  obtain ⟨a, b, h1, e⟩ : ∃ a b, 47 ∉ a ∧ q = a ++ [47] ++ b := by
    rcases cut47 q with z | z
    · exact absurd h' z
    · exact z
  have sp := splitD_S (l := p ++ [47] ++ q) (by omega)
  rw [spl_some q h, e, spl_some b h1, ← e, List.map_cons, List.map_cons] at sp
  have hb := spl_ne b
  have hs := sq_len hl
  generalize hW : (TL.spl [47] 0 [] b).map (fun w => D.str (S w)) = W at sp
  have hW1 : 1 ≤ W.length := by rw [← hW, List.length_map]; exact hb
  unfold p__law_read
  rw [fnOf_eq _ _ _ _ rfl]
  show finF _ (b__law_read _ [.val (.str (S (p ++ [47] ++ q))), .un, .un]) = _
  unfold b__law_read
  have x1 : isT 2 aStr (.str (S (p ++ [47] ++ q))) = some true := rfl
  have t1 : tyD "str" (.str (S (p ++ [47] ++ q))) = true := rfl
  generalize p ++ [47] ++ q = L at *
  have g0 : subD (.lst (D.str (S p) :: D.str (S a) :: W)) (.int 0) = some (.vl (.str (S p))) := sub0 _ _
  have g2 : lenF [.lst (D.str (S p) :: D.str (S a) :: W)] = some (.vl (.int ((D.str (S p) :: D.str (S a) :: W).length : Int))) := rfl
  have d22 : decide ((2 : Int) < ((D.str (S p) :: D.str (S a) :: W).length : Int)) = true := decide_eq_true (by rw [List.length_cons, List.length_cons]; omega)
  have z1 := sliT1 (l := p) (by omega)
  have z2 := sliF1 (l := p) (by omega)
  generalize (D.str (S p) :: D.str (S a) :: W) = WW at *
  by_cases hm : p.take 1 = [45]
  · simp only [↓v_onS, ↓v_bnd, ↓v_ret, ↓v_stk, ↓v_lf, ↓v_rv, ↓v_var, ↓v_pk, ↓v_mov, ↓v_cst, ↓v_ops2, ↓v_ops1, ↓v_bin, ↓v_sub, ↓v_cmp, ↓v_un, ↓v_asV, ↓v_and, ↓v_or, ↓v_not, ↓v_if, ↓v_andV, ↓v_orV, ↓v_notV, ↓v_tst, ↓v_args0, ↓v_args1, ↓v_rvs0, ↓v_rvs1, ↓v_tup, ↓v_lst, ↓v_callB, ↓v_seq, ↓v_nx, ↓v_drop, ↓v_retM, ↓v_sto, ↓v_set, ↓v_att, ↓v_part0, ↓v_part1, ↓v_sli, ↓v_unp, ↓v_par, ↓v_seqI, ↓v_onVl, ↓v_rng, ↓v_for, ↓v_lc, ↓v_yes, ↓v_mth, ↓v_mut, ↓v_call, ↓v_meth, ↓v_cmet, ↓v_make, ↓v_makT, ↓v_makL, ↓v_callT, ↓v_six, ↓v_fld, ↓v_isi, ↓v_rs0, ↓v_try, ↓v_ise, ↓v_chn, ↓v_fmt, ↓v_lit, ↓v_cat0, ↓v_cat1, ↓v_fst, ↓v_ite, ↓reduceIte, fz, vlsO, vlO, sto1, bindAll, bind1, bindT, List.getElem?_cons_zero, List.getElem?_cons_succ, List.set_cons_zero, List.set_cons_succ, Option.map_some, Option.map_none, Option.bind_some, Option.bind_none, isTup, picks_1, picks_2, picks_21, resO, pks, putB, setO, List.nodup_cons, List.nodup_nil, List.not_mem_nil, not_false_eq_true, and_true, List.map_nil, List.map_cons, List.append_nil, List.cons_append, List.nil_append, isIns, isCls, BEq.rfl, capN, capS, Bool.false_eq_true, Bool.not_true, Bool.not_false, x1, truD, t1, sl, sp, g0, g2, d22, intD, z1, z2, sM, eqD_str, bS, hm, decide_true, cmpI, finF, outsO, pairO]
  · simp only [↓v_onS, ↓v_bnd, ↓v_ret, ↓v_stk, ↓v_lf, ↓v_rv, ↓v_var, ↓v_pk, ↓v_mov, ↓v_cst, ↓v_ops2, ↓v_ops1, ↓v_bin, ↓v_sub, ↓v_cmp, ↓v_un, ↓v_asV, ↓v_and, ↓v_or, ↓v_not, ↓v_if, ↓v_andV, ↓v_orV, ↓v_notV, ↓v_tst, ↓v_args0, ↓v_args1, ↓v_rvs0, ↓v_rvs1, ↓v_tup, ↓v_lst, ↓v_callB, ↓v_seq, ↓v_nx, ↓v_drop, ↓v_retM, ↓v_sto, ↓v_set, ↓v_att, ↓v_part0, ↓v_part1, ↓v_sli, ↓v_unp, ↓v_par, ↓v_seqI, ↓v_onVl, ↓v_rng, ↓v_for, ↓v_lc, ↓v_yes, ↓v_mth, ↓v_mut, ↓v_call, ↓v_meth, ↓v_cmet, ↓v_make, ↓v_makT, ↓v_makL, ↓v_callT, ↓v_six, ↓v_fld, ↓v_isi, ↓v_rs0, ↓v_try, ↓v_ise, ↓v_chn, ↓v_fmt, ↓v_lit, ↓v_cat0, ↓v_cat1, ↓v_fst, ↓v_ite, ↓reduceIte, fz, vlsO, vlO, sto1, bindAll, bind1, bindT, List.getElem?_cons_zero, List.getElem?_cons_succ, List.set_cons_zero, List.set_cons_succ, Option.map_some, Option.map_none, Option.bind_some, Option.bind_none, isTup, picks_1, picks_2, picks_21, resO, pks, putB, setO, List.nodup_cons, List.nodup_nil, List.not_mem_nil, not_false_eq_true, and_true, List.map_nil, List.map_cons, List.append_nil, List.cons_append, List.nil_append, isIns, isCls, BEq.rfl, capN, capS, Bool.false_eq_true, Bool.not_true, Bool.not_false, x1, truD, t1, sl, sp, g0, g2, d22, intD, z1, z2, sM, eqD_str, bS, hm, decide_false, cmpI, finF, outsO, pairO]
/-- a value: both readings are one -/
structure Same (v : D) : Prop where
  ex : ∃ o, p__law_told [v] = pairO o ∧ p__law_read [v] = pairO o ∧ ∀ t b, o = some (t, b) → t.natAbs < 10 ^ 60 ∧ b.natAbs < 10 ^ 60
theorem same_str {l : List Nat} (hl : l.length ≤ 100000) (ha : ∀ c ∈ l, c < 128) : Same (.str (S l)) := by
  rcases cut47 l with h | ⟨p, q, h, rfl⟩
  · refine ⟨rd0 l, told_of (read0 h hl), law_read0 h hl ha, fun t b e => ?_⟩
    unfold rd0 at e
    split at e
    · rename_i ho
      cases e
      exact ⟨(ok_of ho).lt, by decide⟩
    · cases e
  · refine ⟨rd1 p q, told_of (read1 h hl), ?_, fun t b e => ?_⟩
    · by_cases h' : 47 ∈ q
      · rw [rd1_bad h']
        exact law_read3 h h' hl ha
      · exact law_read2 h h' hl ha
    · unfold rd1 at e
      split at e
      · rename_i hi
        rw [irt_s, Bool.and_eq_true, Bool.and_eq_true] at hi
        split at e
        · cases e
          exact ⟨(ok_of hi.2).lt, by rw [Int.natAbs_natCast]; exact (wr_of hi.1.1).lt⟩
        · cases e
      · cases e
theorem same_other {v : D} (h : isT 2 aStr v = some false) : Same v := by
  have r : p_Ratio_read [.cls 2, v] = fracO none := by
    unfold p_Ratio_read
    rw [fnOf_eq _ _ _ _ rfl]
    show finF _ (b_Ratio_read _ [.val (.cls 2), .val v, .un, .un, .un, .un]) = _
    unfold b_Ratio_read
    simp only [↓v_onS, ↓v_bnd, ↓v_ret, ↓v_stk, ↓v_lf, ↓v_rv, ↓v_var, ↓v_pk, ↓v_mov, ↓v_cst, ↓v_ops2, ↓v_ops1, ↓v_bin, ↓v_sub, ↓v_cmp, ↓v_un, ↓v_asV, ↓v_and, ↓v_or, ↓v_not, ↓v_if, ↓v_andV, ↓v_orV, ↓v_notV, ↓v_tst, ↓v_args0, ↓v_args1, ↓v_rvs0, ↓v_rvs1, ↓v_tup, ↓v_lst, ↓v_callB, ↓v_seq, ↓v_nx, ↓v_drop, ↓v_retM, ↓v_sto, ↓v_set, ↓v_att, ↓v_part0, ↓v_part1, ↓v_sli, ↓v_unp, ↓v_par, ↓v_seqI, ↓v_onVl, ↓v_rng, ↓v_for, ↓v_lc, ↓v_yes, ↓v_mth, ↓v_mut, ↓v_call, ↓v_meth, ↓v_cmet, ↓v_make, ↓v_makT, ↓v_makL, ↓v_callT, ↓v_six, ↓v_fld, ↓v_isi, ↓v_rs0, ↓v_try, ↓v_ise, ↓v_chn, ↓v_fmt, ↓v_lit, ↓v_cat0, ↓v_cat1, ↓v_fst, ↓v_ite, ↓reduceIte, fz, vlsO, vlO, sto1, bindAll, bind1, bindT, List.getElem?_cons_zero, List.getElem?_cons_succ, List.set_cons_zero, List.set_cons_succ, Option.map_some, Option.map_none, Option.bind_some, Option.bind_none, isTup, picks_1, picks_2, picks_21, resO, pks, putB, setO, List.nodup_cons, List.nodup_nil, List.not_mem_nil, not_false_eq_true, and_true, List.map_nil, List.map_cons, List.append_nil, List.cons_append, List.nil_append, isIns, isCls, BEq.rfl, capN, capS, Bool.false_eq_true, Bool.not_true, Bool.not_false, h, truD, finF, outsO, fracO]
  refine ⟨none, told_of r, ?_, fun _ _ e => nomatch e⟩
  unfold p__law_read
  rw [fnOf_eq _ _ _ _ rfl]
  show finF _ (b__law_read _ [.val v, .un, .un]) = _
  unfold b__law_read
  simp only [↓v_onS, ↓v_bnd, ↓v_ret, ↓v_stk, ↓v_lf, ↓v_rv, ↓v_var, ↓v_pk, ↓v_mov, ↓v_cst, ↓v_ops2, ↓v_ops1, ↓v_bin, ↓v_sub, ↓v_cmp, ↓v_un, ↓v_asV, ↓v_and, ↓v_or, ↓v_not, ↓v_if, ↓v_andV, ↓v_orV, ↓v_notV, ↓v_tst, ↓v_args0, ↓v_args1, ↓v_rvs0, ↓v_rvs1, ↓v_tup, ↓v_lst, ↓v_callB, ↓v_seq, ↓v_nx, ↓v_drop, ↓v_retM, ↓v_sto, ↓v_set, ↓v_att, ↓v_part0, ↓v_part1, ↓v_sli, ↓v_unp, ↓v_par, ↓v_seqI, ↓v_onVl, ↓v_rng, ↓v_for, ↓v_lc, ↓v_yes, ↓v_mth, ↓v_mut, ↓v_call, ↓v_meth, ↓v_cmet, ↓v_make, ↓v_makT, ↓v_makL, ↓v_callT, ↓v_six, ↓v_fld, ↓v_isi, ↓v_rs0, ↓v_try, ↓v_ise, ↓v_chn, ↓v_fmt, ↓v_lit, ↓v_cat0, ↓v_cat1, ↓v_fst, ↓v_ite, ↓reduceIte, fz, vlsO, vlO, sto1, bindAll, bind1, bindT, List.getElem?_cons_zero, List.getElem?_cons_succ, List.set_cons_zero, List.set_cons_succ, Option.map_some, Option.map_none, Option.bind_some, Option.bind_none, isTup, picks_1, picks_2, picks_21, resO, pks, putB, setO, List.nodup_cons, List.nodup_nil, List.not_mem_nil, not_false_eq_true, and_true, List.map_nil, List.map_cons, List.append_nil, List.cons_append, List.nil_append, isIns, isCls, BEq.rfl, capN, capS, Bool.false_eq_true, Bool.not_true, Bool.not_false, h, truD, finF, outsO, pairO]
/-! ### bent texts -/
structure Asc (k : Nat) (d : D) : Prop where
  ex : ∃ l, d = .str (S l) ∧ l.length ≤ k ∧ ∀ c ∈ l, c < 128
theorem subS_any {l : List Nat} {r : Int} (h0 : 0 ≤ r) (h1 : r < l.length) (hl : l.length ≤ 1000000) : ∃ c ∈ l, subD (.str (S l)) (.int r) = some (.vl (.str (S [c]))) := by
  obtain ⟨k, rfl⟩ := Int.eq_ofNat_of_zero_le h0
  have hk : k < l.length := by omega
  refine ⟨l[k], List.getElem_mem hk, ?_⟩
  show (if (S l).length ≤ 1000000 then (atI l (k : Int)).map fun c => T1.vl (.str ⟨#[c]⟩) else none) = _
  rw [S_len, if_pos hl]
  unfold atI ixN
  rw [if_pos (by omega), if_pos (by omega)]
  show ((l[(k : Int).toNat]?).map fun c => T1.vl (D.str ⟨#[c]⟩)) = _
  rw [Int.toNat_natCast, List.getElem?_eq_getElem hk] <;> rfl
theorem subL_any {ds : List D} {r : Int} (h0 : 0 ≤ r) (h1 : r < ds.length) : ∃ d ∈ ds, subD (.lst ds) (.int r) = some (.vl d) := by
  obtain ⟨k, rfl⟩ := Int.eq_ofNat_of_zero_le h0
  have hk : k < ds.length := by omega
  exact ⟨ds[k], List.getElem_mem hk, subL (List.getElem?_eq_getElem hk)⟩
def sgs : List Nat := [48, 49, 50, 51, 52, 53, 54, 55, 56, 57, 47, 45, 43, 46, 32, 10, 95, 97, 90]
theorem sG : Str.ofString "0123456789/-+. \n_aZ" = S sgs := by decide +kernel
theorem sgs_lt : ∀ c ∈ sgs, c < 128 := by decide
end Fw
end

section
set_option maxRecDepth 100000
set_option maxHeartbeats 4000000
namespace Fw
open PySem L2 SX
theorem asc_app {a b : List Nat} (ha : ∀ c ∈ a, c < 128) (hb : ∀ c ∈ b, c < 128) : ∀ c ∈ a ++ b, c < 128 := fun c h => by
  rcases List.mem_append.mp h with h | h
  · exact ha c h
  · exact hb c h
theorem asc_take {a : List Nat} (ha : ∀ c ∈ a, c < 128) (k : Nat) : ∀ c ∈ a.take k, c < 128 := fun c h => ha c (List.mem_of_mem_take h)
theorem asc_drop {a : List Nat} (ha : ∀ c ∈ a, c < 128) (k : Nat) : ∀ c ∈ a.drop k, c < 128 := fun c h => ha c (List.mem_of_mem_drop h)
theorem sA1 : Str.ofString "/1" = S [47, 49] := by decide +kernel
theorem sPl : Str.ofString "+" = S [43] := by decide +kernel
theorem sNl : Str.ofString "\n" = S [10] := by decide +kernel
theorem sBl : Str.ofString " " = S [32] := by decide +kernel
theorem sliF' {l : List Nat} (k : Nat) (h : l.length ≤ 1000000) : sliD (.str (S l)) (some ((k : Int) + 1)) none = some (.vl (.str (S (l.drop (k + 1))))) := sliF (k + 1) h
theorem bent_ok {n : Nat} {pen : D} {l : List Nat} (P : Pen n pen) (hn : n ≤ 900000) (hl : l.length ≤ 1000) (ha : ∀ c ∈ l, c < 128) :
    ∃ l' pen', p__law_bent [pen, .str (S l)] = .ok false (.str (S l')) [pen'] ∧ Pen (n + 4) pen' ∧ l'.length ≤ 2 * l.length + 2 ∧ ∀ c ∈ l', c < 128 := by
  obtain ⟨r1, n1, e1, l1, u1, P1⟩ := draw_ok P (many := (l.length : Int) + 1) (by omega) (by omega) (lg 64 (by omega))
  obtain ⟨r2, n2, e2, l2, u2, P2⟩ := draw_ok P1 (many := 19) (by omega) (by decide) (by decide +kernel)
  obtain ⟨r3, n3, e3, l3, u3, P3⟩ := draw_ok P2 (many := 6) (by omega) (by decide) (by decide +kernel)
  obtain ⟨r4, n4, e4, l4, u4, P4⟩ := draw_ok P3 (many := 6) (by omega) (by decide) (by decide +kernel)
  obtain ⟨c, hc, es⟩ := subS_any (l := sgs) l2 (by exact u2) (by decide)
  have hc' := sgs_lt c hc
  have asc1 : ∀ x ∈ [c], x < 128 := fun x hx => by rw [List.mem_singleton.mp hx]; exact hc'
  obtain ⟨k, rfl⟩ := Int.eq_ofNat_of_zero_le l1
  have le := lenF_S (l := l) (by omega)
  have z1 := sliT (l := l) k (by omega)
  have z2 := sliF (l := l) k (by omega)
  have z3 := sliF' (l := l) k (by omega)
  have lt1 : (l.take k).length ≤ l.length := by rw [List.length_take]; omega
  have ld0 : (l.drop k).length ≤ l.length := by rw [List.length_drop]; omega
  have ld1 : (l.drop (k + 1)).length ≤ l.length := by rw [List.length_drop]; omega
  have lsum : (l.take k).length + (l.drop k).length = l.length := by rw [← List.length_append, List.take_append_drop]
  have ldd : (l.drop (k + 1)).length ≤ (l.drop k).length := by rw [List.length_drop, List.length_drop]; omega
  unfold p__law_bent
  rw [fnOf_eq _ _ _ _ rfl]
  show ∃ l' pen', finF _ (b__law_bent _ [.own true pen, .val (.str (S l)), .un, .un, .un, .un]) = _ ∧ _
  unfold b__law_bent
  have ct : ∀ x y : List Nat, x.length ≤ 5000 → y.length ≤ 5000 → addD (.str (S x)) (.str (S y)) = some (.vl (.str (S (x ++ y)))) := fun x y h1 h2 => addD_S (by omega)
  have : r3 = 0 ∨ r3 = 1 ∨ r3 = 2 ∨ r3 = 3 ∨ (r3 = 4 ∨ r3 = 5) := by omega
  rcases this with rfl | rfl | rfl | rfl | h45
  · have a1 := ct (l.take k) (l.drop (k + 1)) (by omega) (by omega)
    simp only [↓v_onS, ↓v_bnd, ↓v_ret, ↓v_stk, ↓v_lf, ↓v_rv, ↓v_var, ↓v_pk, ↓v_mov, ↓v_cst, ↓v_ops2, ↓v_ops1, ↓v_bin, ↓v_sub, ↓v_cmp, ↓v_un, ↓v_asV, ↓v_and, ↓v_or, ↓v_not, ↓v_if, ↓v_andV, ↓v_orV, ↓v_notV, ↓v_tst, ↓v_args0, ↓v_args1, ↓v_rvs0, ↓v_rvs1, ↓v_tup, ↓v_lst, ↓v_callB, ↓v_seq, ↓v_nx, ↓v_drop, ↓v_retM, ↓v_sto, ↓v_set, ↓v_att, ↓v_part0, ↓v_part1, ↓v_sli, ↓v_unp, ↓v_par, ↓v_seqI, ↓v_onVl, ↓v_rng, ↓v_for, ↓v_lc, ↓v_yes, ↓v_mth, ↓v_mut, ↓v_call, ↓v_meth, ↓v_cmet, ↓v_make, ↓v_makT, ↓v_makL, ↓v_callT, ↓v_six, ↓v_fld, ↓v_isi, ↓v_rs0, ↓v_try, ↓v_ise, ↓v_chn, ↓v_fmt, ↓v_lit, ↓v_cat0, ↓v_cat1, ↓v_fst, ↓v_ite, ↓reduceIte, fz, vlsO, vlO, sto1, bindAll, bind1, bindT, List.getElem?_cons_zero, List.getElem?_cons_succ, List.set_cons_zero, List.set_cons_succ, Option.map_some, Option.map_none, Option.bind_some, Option.bind_none, isTup, picks_1, picks_2, picks_21, resO, pks, putB, setO, List.nodup_cons, List.nodup_nil, List.not_mem_nil, not_false_eq_true, and_true, List.map_nil, List.map_cons, List.append_nil, List.cons_append, List.nil_append, isIns, isCls, BEq.rfl, capN, capS, Bool.false_eq_true, Bool.not_true, Bool.not_false, le, addD_int, e1, e2, e3, sG, es, eqD_int, intD, z1, z2, z3, a1, finF, outsO]
    exact ⟨_, _, rfl, P3.mono (by omega), by rw [List.length_append]; omega, asc_app (asc_take ha _) (asc_drop ha _)⟩
  · have a1 := ct (l.take k) [c] (by omega) (by simp)
    have a2 := ct (l.take k ++ [c]) (l.drop (k + 1)) (by rw [List.length_append, List.length_singleton]; omega) (by omega)
    have b1 : ((1 : Int) == 0) = false := by decide
    simp only [↓v_onS, ↓v_bnd, ↓v_ret, ↓v_stk, ↓v_lf, ↓v_rv, ↓v_var, ↓v_pk, ↓v_mov, ↓v_cst, ↓v_ops2, ↓v_ops1, ↓v_bin, ↓v_sub, ↓v_cmp, ↓v_un, ↓v_asV, ↓v_and, ↓v_or, ↓v_not, ↓v_if, ↓v_andV, ↓v_orV, ↓v_notV, ↓v_tst, ↓v_args0, ↓v_args1, ↓v_rvs0, ↓v_rvs1, ↓v_tup, ↓v_lst, ↓v_callB, ↓v_seq, ↓v_nx, ↓v_drop, ↓v_retM, ↓v_sto, ↓v_set, ↓v_att, ↓v_part0, ↓v_part1, ↓v_sli, ↓v_unp, ↓v_par, ↓v_seqI, ↓v_onVl, ↓v_rng, ↓v_for, ↓v_lc, ↓v_yes, ↓v_mth, ↓v_mut, ↓v_call, ↓v_meth, ↓v_cmet, ↓v_make, ↓v_makT, ↓v_makL, ↓v_callT, ↓v_six, ↓v_fld, ↓v_isi, ↓v_rs0, ↓v_try, ↓v_ise, ↓v_chn, ↓v_fmt, ↓v_lit, ↓v_cat0, ↓v_cat1, ↓v_fst, ↓v_ite, ↓reduceIte, fz, vlsO, vlO, sto1, bindAll, bind1, bindT, List.getElem?_cons_zero, List.getElem?_cons_succ, List.set_cons_zero, List.set_cons_succ, Option.map_some, Option.map_none, Option.bind_some, Option.bind_none, isTup, picks_1, picks_2, picks_21, resO, pks, putB, setO, List.nodup_cons, List.nodup_nil, List.not_mem_nil, not_false_eq_true, and_true, List.map_nil, List.map_cons, List.append_nil, List.cons_append, List.nil_append, isIns, isCls, BEq.rfl, capN, capS, Bool.false_eq_true, Bool.not_true, Bool.not_false, le, addD_int, e1, e2, e3, sG, es, eqD_int, intD, z1, z2, z3, a1, a2, b1, finF, outsO]
    exact ⟨_, _, rfl, P3.mono (by omega), by rw [List.length_append, List.length_append, List.length_singleton]; omega, asc_app (asc_app (asc_take ha _) asc1) (asc_drop ha _)⟩
  · have a1 := ct l (l.drop k) (by omega) (by omega)
    have b1 : ((2 : Int) == 0) = false := by decide
    have b2 : ((2 : Int) == 1) = false := by decide
    simp only [↓v_onS, ↓v_bnd, ↓v_ret, ↓v_stk, ↓v_lf, ↓v_rv, ↓v_var, ↓v_pk, ↓v_mov, ↓v_cst, ↓v_ops2, ↓v_ops1, ↓v_bin, ↓v_sub, ↓v_cmp, ↓v_un, ↓v_asV, ↓v_and, ↓v_or, ↓v_not, ↓v_if, ↓v_andV, ↓v_orV, ↓v_notV, ↓v_tst, ↓v_args0, ↓v_args1, ↓v_rvs0, ↓v_rvs1, ↓v_tup, ↓v_lst, ↓v_callB, ↓v_seq, ↓v_nx, ↓v_drop, ↓v_retM, ↓v_sto, ↓v_set, ↓v_att, ↓v_part0, ↓v_part1, ↓v_sli, ↓v_unp, ↓v_par, ↓v_seqI, ↓v_onVl, ↓v_rng, ↓v_for, ↓v_lc, ↓v_yes, ↓v_mth, ↓v_mut, ↓v_call, ↓v_meth, ↓v_cmet, ↓v_make, ↓v_makT, ↓v_makL, ↓v_callT, ↓v_six, ↓v_fld, ↓v_isi, ↓v_rs0, ↓v_try, ↓v_ise, ↓v_chn, ↓v_fmt, ↓v_lit, ↓v_cat0, ↓v_cat1, ↓v_fst, ↓v_ite, ↓reduceIte, fz, vlsO, vlO, sto1, bindAll, bind1, bindT, List.getElem?_cons_zero, List.getElem?_cons_succ, List.set_cons_zero, List.set_cons_succ, Option.map_some, Option.map_none, Option.bind_some, Option.bind_none, isTup, picks_1, picks_2, picks_21, resO, pks, putB, setO, List.nodup_cons, List.nodup_nil, List.not_mem_nil, not_false_eq_true, and_true, List.map_nil, List.map_cons, List.append_nil, List.cons_append, List.nil_append, isIns, isCls, BEq.rfl, capN, capS, Bool.false_eq_true, Bool.not_true, Bool.not_false, le, addD_int, e1, e2, e3, sG, es, eqD_int, intD, z1, z2, z3, a1, b1, b2, finF, outsO]
    exact ⟨_, _, rfl, P3.mono (by omega), by rw [List.length_append]; omega, asc_app ha (asc_drop ha _)⟩
  · have b1 : ((3 : Int) == 0) = false := by decide
    have b2 : ((3 : Int) == 1) = false := by decide
    have b3 : ((3 : Int) == 2) = false := by decide
    have c1 := ct l [47, 49] (by omega) (by simp)
    have c2 := ct [45] l (by simp) (by omega)
    have c3 := ct [43] l (by simp) (by omega)
    have c4 := ct [48] l (by simp) (by omega)
    have c5 := ct l [10] (by omega) (by simp)
    have c6 := ct [32] l (by simp) (by omega)
    obtain ⟨d, hd, ed⟩ := subL_any (ds := [.str (S (l ++ [47, 49])), .str (S ([45] ++ l)), .str (S ([43] ++ l)), .str (S ([48] ++ l)), .str (S (l ++ [10])), .str (S ([32] ++ l))]) l4 (by exact u4)
    obtain ⟨l', rfl, h1, h2⟩ : ∃ l', d = .str (S l') ∧ l'.length ≤ l.length + 2 ∧ ∀ c ∈ l', c < 128 := by
      simp only [List.mem_cons, List.not_mem_nil, or_false] at hd
      rcases hd with rfl | rfl | rfl | rfl | rfl | rfl
      · exact ⟨_, rfl, by simp, asc_app ha (by decide)⟩
      · exact ⟨_, rfl, by simp, asc_app (a := [45]) (by decide) ha⟩
      · exact ⟨_, rfl, by simp, asc_app (a := [43]) (by decide) ha⟩
      · exact ⟨_, rfl, by simp, asc_app (a := [48]) (by decide) ha⟩
      · exact ⟨_, rfl, by simp, asc_app ha (by decide)⟩
      · exact ⟨_, rfl, by simp, asc_app (a := [32]) (by decide) ha⟩
    generalize hE : [48] ++ l = L4 at *
    generalize [45] ++ l = L2 at *
    generalize [43] ++ l = L3 at *
    generalize [32] ++ l = L6 at *
    generalize l ++ [47, 49] = L1 at *
    generalize l ++ [10] = L5 at *
    simp only [↓v_onS, ↓v_bnd, ↓v_ret, ↓v_stk, ↓v_lf, ↓v_rv, ↓v_var, ↓v_pk, ↓v_mov, ↓v_cst, ↓v_ops2, ↓v_ops1, ↓v_bin, ↓v_sub, ↓v_cmp, ↓v_un, ↓v_asV, ↓v_and, ↓v_or, ↓v_not, ↓v_if, ↓v_andV, ↓v_orV, ↓v_notV, ↓v_tst, ↓v_args0, ↓v_args1, ↓v_rvs0, ↓v_rvs1, ↓v_tup, ↓v_lst, ↓v_callB, ↓v_seq, ↓v_nx, ↓v_drop, ↓v_retM, ↓v_sto, ↓v_set, ↓v_att, ↓v_part0, ↓v_part1, ↓v_sli, ↓v_unp, ↓v_par, ↓v_seqI, ↓v_onVl, ↓v_rng, ↓v_for, ↓v_lc, ↓v_yes, ↓v_mth, ↓v_mut, ↓v_call, ↓v_meth, ↓v_cmet, ↓v_make, ↓v_makT, ↓v_makL, ↓v_callT, ↓v_six, ↓v_fld, ↓v_isi, ↓v_rs0, ↓v_try, ↓v_ise, ↓v_chn, ↓v_fmt, ↓v_lit, ↓v_cat0, ↓v_cat1, ↓v_fst, ↓v_ite, ↓reduceIte, fz, vlsO, vlO, sto1, bindAll, bind1, bindT, List.getElem?_cons_zero, List.getElem?_cons_succ, List.set_cons_zero, List.set_cons_succ, Option.map_some, Option.map_none, Option.bind_some, Option.bind_none, isTup, picks_1, picks_2, picks_21, resO, pks, putB, setO, List.nodup_cons, List.nodup_nil, List.not_mem_nil, not_false_eq_true, and_true, List.map_nil, List.map_cons, List.append_nil, List.cons_append, List.nil_append, isIns, isCls, BEq.rfl, capN, capS, Bool.false_eq_true, Bool.not_true, Bool.not_false, le, addD_int, e1, e2, e3, e4, sG, es, eqD_int, intD, z1, z2, z3, b1, b2, b3, sA1, sM, sPl, Fw.s0, sNl, sBl, c1, c2, c3, c4, c5, c6, ed, finF, outsO]
    exact ⟨_, _, rfl, P4, by omega, h2⟩
  · have a1 := ct (l.take k) [c] (by omega) (by simp)
    have a2 := ct (l.take k ++ [c]) (l.drop k) (by rw [List.length_append, List.length_singleton]; omega) (by omega)
    have b0 : (r3 == 0) = false := beq_false_of_ne (by omega)
    have b1 : (r3 == 1) = false := beq_false_of_ne (by omega)
    have b2 : (r3 == 2) = false := beq_false_of_ne (by omega)
    have b3 : (r3 == 3) = false := beq_false_of_ne (by omega)
    simp only [↓v_onS, ↓v_bnd, ↓v_ret, ↓v_stk, ↓v_lf, ↓v_rv, ↓v_var, ↓v_pk, ↓v_mov, ↓v_cst, ↓v_ops2, ↓v_ops1, ↓v_bin, ↓v_sub, ↓v_cmp, ↓v_un, ↓v_asV, ↓v_and, ↓v_or, ↓v_not, ↓v_if, ↓v_andV, ↓v_orV, ↓v_notV, ↓v_tst, ↓v_args0, ↓v_args1, ↓v_rvs0, ↓v_rvs1, ↓v_tup, ↓v_lst, ↓v_callB, ↓v_seq, ↓v_nx, ↓v_drop, ↓v_retM, ↓v_sto, ↓v_set, ↓v_att, ↓v_part0, ↓v_part1, ↓v_sli, ↓v_unp, ↓v_par, ↓v_seqI, ↓v_onVl, ↓v_rng, ↓v_for, ↓v_lc, ↓v_yes, ↓v_mth, ↓v_mut, ↓v_call, ↓v_meth, ↓v_cmet, ↓v_make, ↓v_makT, ↓v_makL, ↓v_callT, ↓v_six, ↓v_fld, ↓v_isi, ↓v_rs0, ↓v_try, ↓v_ise, ↓v_chn, ↓v_fmt, ↓v_lit, ↓v_cat0, ↓v_cat1, ↓v_fst, ↓v_ite, ↓reduceIte, fz, vlsO, vlO, sto1, bindAll, bind1, bindT, List.getElem?_cons_zero, List.getElem?_cons_succ, List.set_cons_zero, List.set_cons_succ, Option.map_some, Option.map_none, Option.bind_some, Option.bind_none, isTup, picks_1, picks_2, picks_21, resO, pks, putB, setO, List.nodup_cons, List.nodup_nil, List.not_mem_nil, not_false_eq_true, and_true, List.map_nil, List.map_cons, List.append_nil, List.cons_append, List.nil_append, isIns, isCls, BEq.rfl, capN, capS, Bool.false_eq_true, Bool.not_true, Bool.not_false, le, addD_int, e1, e2, e3, sG, es, eqD_int, intD, z1, z2, z3, a1, a2, b0, b1, b2, b3, finF, outsO]
    exact ⟨_, _, rfl, P3.mono (by omega), by rw [List.length_append, List.length_append, List.length_singleton]; omega, asc_app (asc_app (asc_take ha _) asc1) (asc_drop ha _)⟩
end Fw
end

section
set_option maxRecDepth 100000
set_option maxHeartbeats 4000000
namespace Fw
open PySem L2 SX
theorem fold_rep (a : Array Nat) : ∀ (n : Nat) (acc : Array Nat), ((List.replicate n a).foldl (· ++ ·) acc).toList = acc.toList ++ (List.replicate n a.toList).flatten
  | 0, acc => by simp
  | n + 1, acc => by
    rw [List.replicate_succ, List.foldl_cons, fold_rep a n, List.replicate_succ, List.flatten_cons, Array.toList_append, List.append_assoc]
theorem mulS {a : List Nat} {n : Nat} (h0 : 2 ≤ n) (h1 : n ≤ 100000) (h2 : 1 ≤ a.length) (h3 : a.length * n ≤ 1000000) : mulD (.str (S a)) (.int (n : Int)) = some (.vl (.str (S (List.replicate n a).flatten))) := by
  show (if 2 ≤ (n : Int) ∧ (n : Int) ≤ 100000 ∧ 1 ≤ (S a).length ∧ (S a).length * ((n : Int)).toNat ≤ 1000000 then some (T1.vl (.str ⟨(List.replicate ((n : Int)).toNat (S a).cps).foldl (· ++ ·) #[]⟩)) else none) = _
  rw [S_len, Int.toNat_natCast, if_pos ⟨by omega, by omega, h2, h3⟩]
  have e : (⟨(List.replicate n (S a).cps).foldl (· ++ ·) #[]⟩ : Str) = S (List.replicate n a).flatten := TL.ext_tl (by
    show ((List.replicate n (S a).cps).foldl (· ++ ·) #[]).toList = _
    rw [fold_rep] <;> rfl)
  rw [e]
def f63 : List Nat := (List.replicate 7 [49, 50, 51, 52, 53, 54, 55, 56, 57]).flatten
def f60 : List Nat := f63.take 60
def f61 : List Nat := f63.take 61
def g60 : List Nat := [45] ++ f60
def g61 : List Nat := [45] ++ f61
def h60 : List Nat := [49, 47] ++ f60
def h61 : List Nat := [49, 47] ++ f61
def t40 : List Nat := (List.replicate 4000 [51]).flatten
def t30 : List Nat := (List.replicate 3000 [51]).flatten
def u30 : List Nat := [49, 47] ++ t30
def w30 : List Nat := t30 ++ [47, 55]
theorem q9 : Str.ofString "123456789" = S [49, 50, 51, 52, 53, 54, 55, 56, 57] := by decide +kernel
theorem q3 : Str.ofString "3" = S [51] := by decide +kernel
theorem q1s : Str.ofString "1/" = S [49, 47] := by decide +kernel
theorem qs7 : Str.ofString "/7" = S [47, 55] := by decide +kernel
def farA : List D := [.str (S f60), .str (S f61), .str (S g60), .str (S g61), .str (S h60)]
def farB : List D := [.str (S h61), .str (S t40), .str (S u30), .str (S w30), .str (PySem.Str.ofString "0/7"), .str (PySem.Str.ofString "-1/1"), .str (PySem.Str.ofString "1//2")]
def farC : List D := [.str (PySem.Str.ofString "1/-2"), .str (PySem.Str.ofString "-"), .str (PySem.Str.ofString "/"), .str (PySem.Str.ofString "1/"), .str (PySem.Str.ofString "/2"), .str (PySem.Str.ofString ""), .str (PySem.Str.ofString "2/4"), .str (PySem.Str.ofString "6/3"), .str (PySem.Str.ofString "0"), .str (PySem.Str.ofString "-0"), .str (PySem.Str.ofString "1/0"), .non, .int 7, .bl true, .lst [.int 1], .ins 2 [.int (nT 1 2), .int (nB 1 2)]]
theorem ascB (l : List Nat) (h : l.all (fun c => decide (c < 128)) = true) : ∀ c ∈ l, c < 128 := fun c hc => of_decide_eq_true (List.all_eq_true.mp h c hc)
theorem same_lit (x : String) (h : (x.toList.map Char.toNat).all (fun c => decide (c < 128)) = true) (hl : (x.toList.map Char.toNat).length ≤ 100000) : Same (.str (PySem.Str.ofString x)) := by
  rw [sO]
  exact same_str hl (ascB _ h)
theorem same_S (l : List Nat) (h : l.all (fun c => decide (c < 128)) = true) (hl : l.length ≤ 100000) : Same (.str (S l)) := same_str hl (ascB _ h)
theorem same_far : ∀ d ∈ farA ++ farB ++ farC, Same d := by
  intro d hd
  simp only [farA, farB, farC, List.cons_append, List.nil_append, List.mem_cons, List.not_mem_nil, or_false] at hd
  rcases hd with rfl | rfl | rfl | rfl | rfl | rfl | rfl | rfl | rfl | rfl | rfl | rfl | rfl | rfl | rfl | rfl | rfl | rfl | rfl | rfl | rfl | rfl | rfl | rfl | rfl | rfl | rfl | rfl
  · exact same_S f60 (by decide +kernel) (by decide +kernel)
  · exact same_S f61 (by decide +kernel) (by decide +kernel)
  · exact same_S g60 (by decide +kernel) (by decide +kernel)
  · exact same_S g61 (by decide +kernel) (by decide +kernel)
  · exact same_S h60 (by decide +kernel) (by decide +kernel)
  · exact same_S h61 (by decide +kernel) (by decide +kernel)
  · exact same_S t40 (by decide +kernel) (by decide +kernel)
  · exact same_S u30 (by decide +kernel) (by decide +kernel)
  · exact same_S w30 (by decide +kernel) (by decide +kernel)
  · exact same_lit _ (by decide +kernel) (by decide +kernel)
  · exact same_lit _ (by decide +kernel) (by decide +kernel)
  · exact same_lit _ (by decide +kernel) (by decide +kernel)
  · exact same_lit _ (by decide +kernel) (by decide +kernel)
  · exact same_lit _ (by decide +kernel) (by decide +kernel)
  · exact same_lit _ (by decide +kernel) (by decide +kernel)
  · exact same_lit _ (by decide +kernel) (by decide +kernel)
  · exact same_lit _ (by decide +kernel) (by decide +kernel)
  · exact same_lit _ (by decide +kernel) (by decide +kernel)
  · exact same_lit _ (by decide +kernel) (by decide +kernel)
  · exact same_lit _ (by decide +kernel) (by decide +kernel)
  · exact same_lit _ (by decide +kernel) (by decide +kernel)
  · exact same_lit _ (by decide +kernel) (by decide +kernel)
  · exact same_lit _ (by decide +kernel) (by decide +kernel)
  · exact same_other rfl
  · exact same_other rfl
  · exact same_other rfl
  · exact same_other rfl
  · exact same_other rfl
theorem addL {a b : List D} (h : a.length + b.length ≤ 1000000) : addD (.lst a) (.lst b) = some (.fr (.lst (a ++ b))) := if_pos h
theorem far_ok {n : Nat} {pen : D} (P : Pen n pen) (hn : n ≤ 900000) : ∃ v pen', p__law_far [pen] = .ok false v [pen'] ∧ Pen (n + 1) pen' ∧ Same v := by
  obtain ⟨r, n1, e1, l1, u1, P1⟩ := draw_ok P (many := 28) (by omega) (by decide) (by decide +kernel)
  obtain ⟨d, hd, ed⟩ := subL_any (ds := farA ++ farB ++ farC) l1 (by exact u1)
  have hsame := same_far d hd
  clear hd
  have k7 : mulD (.str (PySem.Str.ofString "123456789")) (.int 7) = some (.vl (.str (S f63))) := by
    rw [q9]; exact mulS (n := 7) (by decide) (by decide) (by decide) (by decide)
  have k4 : mulD (.str (PySem.Str.ofString "3")) (.int 4000) = some (.vl (.str (S t40))) := by
    rw [q3]; exact mulS (n := 4000) (by decide) (by decide) (by decide) (by decide)
  have k3 : mulD (.str (PySem.Str.ofString "3")) (.int 3000) = some (.vl (.str (S t30))) := by
    rw [q3]; exact mulS (n := 3000) (by decide) (by decide) (by decide) (by decide)
  have l63 : f63.length ≤ 1000000 := by decide +kernel
  have z1 : sliD (.str (S f63)) none (some 60) = some (.vl (.str (S f60))) := sliT 60 l63
  have z2 : sliD (.str (S f63)) none (some 61) = some (.vl (.str (S f61))) := sliT 61 l63
  have a1 : addD (.str (PySem.Str.ofString "-")) (.str (S f60)) = some (.vl (.str (S g60))) := by rw [sM]; exact addD_S (by decide +kernel)
  have a2 : addD (.str (PySem.Str.ofString "-")) (.str (S f61)) = some (.vl (.str (S g61))) := by rw [sM]; exact addD_S (by decide +kernel)
  have a3 : addD (.str (PySem.Str.ofString "1/")) (.str (S f60)) = some (.vl (.str (S h60))) := by rw [q1s]; exact addD_S (by decide +kernel)
  have a4 : addD (.str (PySem.Str.ofString "1/")) (.str (S f61)) = some (.vl (.str (S h61))) := by rw [q1s]; exact addD_S (by decide +kernel)
  have a5 : addD (.str (PySem.Str.ofString "1/")) (.str (S t30)) = some (.vl (.str (S u30))) := by rw [q1s]; exact addD_S (by decide +kernel)
  have a6 : addD (.str (S t30)) (.str (PySem.Str.ofString "/7")) = some (.vl (.str (S w30))) := by rw [qs7]; exact addD_S (by decide +kernel)
  have b1 : addD (.lst farA) (.lst farB) = some (.fr (.lst (farA ++ farB))) := addL (by decide)
  have b2 : addD (.lst (farA ++ farB)) (.lst farC) = some (.fr (.lst (farA ++ farB ++ farC))) := addL (by decide)
  have i1 := init_ok (t := 1) (b := 2) (by decide) (by decide +kernel)
  unfold farA farB at b1
  unfold farA farB farC at b2 ed
  simp only [List.cons_append, List.nil_append] at b1 b2 ed
  unfold p__law_far
  rw [fnOf_eq _ _ _ _ rfl]
  show ∃ v pen', finF _ (b__law_far _ [.own true pen, .un, .un]) = _ ∧ _
  unfold b__law_far
  simp only [↓v_onS, ↓v_bnd, ↓v_ret, ↓v_stk, ↓v_lf, ↓v_rv, ↓v_var, ↓v_pk, ↓v_mov, ↓v_cst, ↓v_ops2, ↓v_ops1, ↓v_bin, ↓v_sub, ↓v_cmp, ↓v_un, ↓v_asV, ↓v_and, ↓v_or, ↓v_not, ↓v_if, ↓v_andV, ↓v_orV, ↓v_notV, ↓v_tst, ↓v_args0, ↓v_args1, ↓v_rvs0, ↓v_rvs1, ↓v_tup, ↓v_lst, ↓v_callB, ↓v_seq, ↓v_nx, ↓v_drop, ↓v_retM, ↓v_sto, ↓v_set, ↓v_att, ↓v_part0, ↓v_part1, ↓v_sli, ↓v_unp, ↓v_par, ↓v_seqI, ↓v_onVl, ↓v_rng, ↓v_for, ↓v_lc, ↓v_yes, ↓v_mth, ↓v_mut, ↓v_call, ↓v_meth, ↓v_cmet, ↓v_make, ↓v_makT, ↓v_makL, ↓v_callT, ↓v_six, ↓v_fld, ↓v_isi, ↓v_rs0, ↓v_try, ↓v_ise, ↓v_chn, ↓v_fmt, ↓v_lit, ↓v_cat0, ↓v_cat1, ↓v_fst, ↓v_ite, ↓reduceIte, fz, vlsO, vlO, sto1, bindAll, bind1, bindT, List.getElem?_cons_zero, List.getElem?_cons_succ, List.set_cons_zero, List.set_cons_succ, Option.map_some, Option.map_none, Option.bind_some, Option.bind_none, isTup, picks_1, picks_2, picks_21, resO, pks, putB, setO, List.nodup_cons, List.nodup_nil, List.not_mem_nil, not_false_eq_true, and_true, List.map_nil, List.map_cons, List.append_nil, List.cons_append, List.nil_append, isIns, isCls, BEq.rfl, capN, capS, Bool.false_eq_true, Bool.not_true, Bool.not_false, k7, k4, k3, z1, z2, a1, a2, a3, a4, a5, a6, b1, b2, i1, intD, e1, ed, finF, outsO]
  exact ⟨_, _, rfl, P1, hsame⟩
end Fw
end

section
set_option maxRecDepth 100000
set_option maxHeartbeats 4000000
namespace Fw
open PySem L2 SX
theorem rp_non : ∃ x, reprF noG [.non] = some (.vl (.str x)) := ⟨_, rfl⟩
theorem rp_pair {t b : Int} (h : t.natAbs < 10 ^ 61) (h' : b.natAbs < 10 ^ 61) : ∃ x, reprF noG [.tup [.int t, .int b]] = some (.vl (.str x)) := by
  have l1 := numZ_len h
  have l2 := numZ_len h'
  have e1 : rtxt noG (.tup [.int t, .int b]) = some (tupleText [S (numZ t), S (numZ b)]) := by
    simp only [rtxt, rtxtL, if_pos (lg' 204 (tenE h)), if_pos (lg' 204 (tenE h')), num_Z, Option.bind_some, Option.map_some]
  have e2 : tupleText [S (numZ t), S (numZ b)] = S ([40] ++ (numZ t ++ [44, 32] ++ numZ b) ++ [41]) := by
    show Str.ofString "(" ++ (S (numZ t) ++ Str.ofString ", " ++ S (numZ b)) ++ Str.ofString ")" = _
    rw [sC, sP, show Str.ofString "(" = S [40] by decide +kernel, S_cat, S_cat, S_cat, S_cat]
  have e3 : dep (.tup [.int t, .int b]) = 1 := by simp [dep, depL]
  refine ⟨S ([40] ++ (numZ t ++ [44, 32] ++ numZ b) ++ [41]), ?_⟩
  show ((rtxt noG (.tup [.int t, .int b])).bind fun x => if x.length ≤ 1000000 ∧ dep (.tup [.int t, .int b]) ≤ 10 then some (T1.vl (.str x)) else none) = _
  rw [e1, e2, e3, Option.bind_some, if_pos ⟨by rw [S_len]; simp only [List.length_append, List.length_cons, List.length_nil]; omega, by decide⟩]
theorem rp_frac {t b : Int} (h : t.natAbs < 10 ^ 61) (h' : b.natAbs < 10 ^ 61) : reprF (insG 2 p_Ratioq_reprq) [.ins 2 [.int t, .int b]] = some (.vl (.str (S (rtx t b)))) := by
  have l1 := numZ_len h
  have l2 := numZ_len h'
  have e1 : rtxt (insG 2 p_Ratioq_reprq) (.ins 2 [.int t, .int b]) = some (S (rtx t b)) := by
    simp only [rtxt, insG, if_true, repr_ok h h']
  have e3 : dep (.ins 2 [.int t, .int b]) = 0 := by simp [dep]
  show ((rtxt (insG 2 p_Ratioq_reprq) (.ins 2 [.int t, .int b])).bind fun x => if x.length ≤ 1000000 ∧ dep (.ins 2 [.int t, .int b]) ≤ 10 then some (T1.vl (.str x)) else none) = _
  rw [e1, e3, Option.bind_some, if_pos ⟨by rw [S_len]; unfold rtx; simp only [List.length_append, List.length_cons, List.length_nil]; omega, by decide⟩]
/-- what both readings give, and its repr -/
theorem same_rp {v : D} (h : Same v) : ∃ b d x, p__law_told [v] = .ok b d [] ∧ p__law_read [v] = .ok b d [] ∧ reprF noG [d] = some (.vl (.str x)) := by
  obtain ⟨o, h1, h2, h3⟩ := h.ex
  cases o with
  | none =>
    obtain ⟨x, hx⟩ := rp_non
    exact ⟨false, .non, x, h1, h2, hx⟩
  | some p =>
    obtain ⟨t, b⟩ := p
    obtain ⟨k1, k2⟩ := h3 t b rfl
    obtain ⟨x, hx⟩ := rp_pair (p6 k1) (p6 k2)
    exact ⟨true, _, x, h1, h2, hx⟩
end Fw
end

section
set_option maxRecDepth 100000
set_option maxHeartbeats 4000000
namespace Fw
open PySem L2 SX
theorem vals_ok (x0 x1 x2 x3 x4 x5 x6 x7 : Slot) : ∀ (vs : List D), (∀ v ∈ vs, Same v) → ∀ s8 : Slot, (s8 = .un ∨ ∃ d, s8 = .val d) →
    ∃ s8', (s8' = .un ∨ ∃ d, s8' = .val d) ∧ forD (Tg.nm 8) (ifM (cmp neD (callB (reprF noG) [(callP [false] p__law_told [0] [] [(var 8)])]) (callB (reprF noG) [(callP [false] p__law_read [0] [] [(var 8)])]))
    (retM (cst (.bl false))) nxM) vs [x0, x1, x2, x3, x4, x5, x6, x7, s8] = .ok .nx [x0, x1, x2, x3, x4, x5, x6, x7, s8']
  | [], _, s8, h => ⟨s8, h, rfl⟩
  | v :: vs, hv, s8, h => by
    obtain ⟨b, d, x, e1, e2, e3⟩ := same_rp (hv v (List.mem_cons_self ..))
    obtain ⟨s8', h', ih⟩ := vals_ok x0 x1 x2 x3 x4 x5 x6 x7 vs (fun w hw => hv w (List.mem_cons_of_mem _ hw)) (.val v) (.inr ⟨v, rfl⟩)
    refine ⟨s8', h', ?_⟩
    unfold forD
    rcases h with rfl | ⟨d0, rfl⟩ <;> cases b <;> simp only [↓v_onS, ↓v_bnd, ↓v_ret, ↓v_stk, ↓v_lf, ↓v_rv, ↓v_var, ↓v_pk, ↓v_mov, ↓v_cst, ↓v_ops2, ↓v_ops1, ↓v_bin, ↓v_sub, ↓v_cmp, ↓v_un, ↓v_asV, ↓v_and, ↓v_or, ↓v_not, ↓v_if, ↓v_andV, ↓v_orV, ↓v_notV, ↓v_tst, ↓v_args0, ↓v_args1, ↓v_rvs0, ↓v_rvs1, ↓v_tup, ↓v_lst, ↓v_callB, ↓v_seq, ↓v_nx, ↓v_drop, ↓v_retM, ↓v_sto, ↓v_set, ↓v_att, ↓v_part0, ↓v_part1, ↓v_sli, ↓v_unp, ↓v_par, ↓v_seqI, ↓v_onVl, ↓v_rng, ↓v_for, ↓v_lc, ↓v_yes, ↓v_mth, ↓v_mut, ↓v_call, ↓v_meth, ↓v_cmet, ↓v_make, ↓v_makT, ↓v_makL, ↓v_callT, ↓v_six, ↓v_fld, ↓v_isi, ↓v_rs0, ↓v_try, ↓v_ise, ↓v_chn, ↓v_fmt, ↓v_lit, ↓v_cat0, ↓v_cat1, ↓v_fst, ↓v_ite, ↓reduceIte, fz, vlsO, vlO, sto1, bindAll, bind1, bindT, List.getElem?_cons_zero, List.getElem?_cons_succ, List.set_cons_zero, List.set_cons_succ, Option.map_some, Option.map_none, Option.bind_some, Option.bind_none, isTup, picks_1, picks_2, picks_21, resO, pks, putB, setO, List.nodup_cons, List.nodup_nil, List.not_mem_nil, not_false_eq_true, and_true, List.map_nil, List.map_cons, List.append_nil, List.cons_append, List.nil_append, isIns, isCls, BEq.rfl, capN, capS, Bool.false_eq_true, Bool.not_true, Bool.not_false, e1, e2, e3, neD_str] <;> exact ih
end Fw
end

section
set_option maxRecDepth 100000
set_option maxHeartbeats 4000000
namespace Fw
open PySem L2 SX
theorem numL_head : ∀ n : Nat, 0 < n → (TL.numL n).head? ≠ some 48 := by
  intro n
  induction n using Nat.strongRecOn with
  | _ n ih =>
    intro h
    by_cases h10 : n < 10
    · rw [TL.numL_lt h10]
      intro z
      have := Option.some.inj z
      omega
    · rw [TL.numL_step (by omega)]
      have := ih (n / 10) (by omega) (by omega)
      have ne := TL.numL_ne (n / 10)
      cases e : TL.numL (n / 10) with
      | nil => exact absurd e ne
      | cons c r => rw [e] at this; exact this
theorem numL_dg (n : Nat) : (TL.numL n).all dg = true := List.all_eq_true.mpr fun c hc => by
  have := TL.numL_digits n c hc
  unfold dg
  rw [Bool.and_eq_true, decide_eq_true_eq, decide_eq_true_eq]
  exact this
theorem wr_num {n : Nat} (h : n < 10 ^ 60) : wr (TL.numL n) = true := by
  unfold wr
  have h1 : 1 ≤ (TL.numL n).length := List.length_pos_iff.mpr (TL.numL_ne n)
  have h2 := numL_le 60 (by decide) h
  rw [decide_eq_true h1, decide_eq_true h2, numL_dg]
  by_cases h0 : n = 0
  · subst h0
    have : TL.numL 0 = [48] := by decide +kernel
    rw [this] <;> rfl
  · rw [decide_eq_true (numL_head n (by omega)), Bool.or_true] <;> rfl
theorem dv_num (n : Nat) : dv (TL.numL n) = n := TL.numL_val n
theorem numL_c (n : Nat) : ∃ c r, TL.numL n = c :: r ∧ 48 ≤ c ∧ c ≤ 57 := by
  cases e : TL.numL n with
  | nil => exact absurd e (TL.numL_ne n)
  | cons c r =>
    have := TL.numL_digits n c (by rw [e]; exact List.mem_cons_self ..)
    exact ⟨c, r, rfl, this⟩
theorem ok_num {t : Int} (h : t.natAbs < 10 ^ 60) : okN (numZ t) = true ∧ ival (numZ t) = t := by
  unfold numZ
  by_cases h0 : t < 0
  · rw [if_pos h0]
    have e1 : (45 :: TL.numL t.natAbs).take 1 = [45] := rfl
    have e2 : (45 :: TL.numL t.natAbs).drop 1 = TL.numL t.natAbs := rfl
    unfold okN ival
    rw [if_pos e1, if_pos e1, e2, wr_num h, dv_num]
    refine ⟨?_, by omega⟩
    have : ¬ (45 :: TL.numL t.natAbs = [45, 48]) := fun z => by
      have e3 : TL.numL t.natAbs = [48] := (List.cons.inj z).2
      have e4 := congrArg dv e3
      rw [dv_num] at e4
      have : dv [48] = 0 := rfl
      omega
    rw [decide_eq_false this] <;> rfl
  · rw [if_neg h0]
    have e1 : ¬ ((TL.numL t.natAbs).take 1 = [45]) := fun z => by
      obtain ⟨c, r, e, c1, c2⟩ := numL_c t.natAbs
      rw [e] at z
      have : c = 45 := by simpa using z
      omega
    unfold okN ival
    rw [if_neg e1, if_neg e1, wr_num h, dv_num]
    exact ⟨rfl, by omega⟩
theorem numZ_len60 {i : Int} (h : i.natAbs < 10 ^ 60) : (numZ i).length ≤ 62 := numZ_len (p6 h)
theorem numZ_asc (i : Int) : ∀ c ∈ numZ i, c < 128 := fun c hc => by
  unfold numZ at hc
  split at hc
  · rcases List.mem_cons.mp hc with z | z
    · omega
    · have := TL.numL_digits _ c z
      omega
  · have := TL.numL_digits _ c hc
    omega
theorem txt_asc (t b : Int) : ∀ c ∈ txt t b, c < 128 := by
  unfold txt
  split
  · exact numZ_asc t
  · exact asc_app (asc_app (numZ_asc t) (by decide)) (numZ_asc b)
theorem read_txt {t b : Int} (ht : t.natAbs < 10 ^ 60) (hb : 1 ≤ b) (hb' : b.natAbs < 10 ^ 60) (g : Int.gcd t b = 1) : p_Ratio_read [.cls 2, .str (S (txt t b))] = .ok true (.ins 2 [.int t, .int b]) [] := by
  obtain ⟨o1, o2⟩ := ok_num ht
  have l1 := numZ_len60 ht
  have l2 := numZ_len60 hb'
  unfold txt
  by_cases h1 : b = 1
  · subst h1
    rw [if_pos rfl, read0 (numZ_no t) (by omega)]
    unfold rd0
    rw [if_pos o1, o2] <;> rfl
  · rw [if_neg h1, read1 (numZ_no t) (by simp only [List.length_append, List.length_singleton]; omega)]
    have hz : numZ b = TL.numL b.natAbs := by unfold numZ; rw [if_neg (by omega)]
    have w := wr_num hb'
    have q0 : decide (numZ b = [48]) = false := decide_eq_false fun z => by
      rw [hz] at z
      have e4 := congrArg dv z
      rw [dv_num] at e4
      have : dv [48] = 0 := rfl
      omega
    have q1 : decide (numZ b = [49]) = false := decide_eq_false fun z => by
      rw [hz] at z
      have e4 := congrArg dv z
      rw [dv_num] at e4
      have : dv [49] = 1 := rfl
      omega
    have vb : ((dv (numZ b) : Nat) : Int) = b := by rw [hz, dv_num]; omega
    unfold rd1
    rw [irt_s, hz, w, ← hz, q0, q1, o1, if_pos (by decide), o2, vb, if_pos g] <;> rfl
theorem eq_ok (t b u c : Int) : p_Ratioq_eqq [.ins 2 [.int t, .int b], .ins 2 [.int u, .int c]] = .ok false (.bl (t == u && b == c)) [] := by
  unfold p_Ratioq_eqq
  rw [fnOf_eq _ _ _ _ rfl]
  show finF _ (b_Ratioq_eqq _ [.val (.ins 2 [.int t, .int b]), .val (.ins 2 [.int u, .int c])]) = _
  unfold b_Ratioq_eqq
  have x1 : isO 2 (.ins 2 [.int u, .int c]) = some true := rfl
  cases h : t == u <;> simp only [↓v_onS, ↓v_bnd, ↓v_ret, ↓v_stk, ↓v_lf, ↓v_rv, ↓v_var, ↓v_pk, ↓v_mov, ↓v_cst, ↓v_ops2, ↓v_ops1, ↓v_bin, ↓v_sub, ↓v_cmp, ↓v_un, ↓v_asV, ↓v_and, ↓v_or, ↓v_not, ↓v_if, ↓v_andV, ↓v_orV, ↓v_notV, ↓v_tst, ↓v_args0, ↓v_args1, ↓v_rvs0, ↓v_rvs1, ↓v_tup, ↓v_lst, ↓v_callB, ↓v_seq, ↓v_nx, ↓v_drop, ↓v_retM, ↓v_sto, ↓v_set, ↓v_att, ↓v_part0, ↓v_part1, ↓v_sli, ↓v_unp, ↓v_par, ↓v_seqI, ↓v_onVl, ↓v_rng, ↓v_for, ↓v_lc, ↓v_yes, ↓v_mth, ↓v_mut, ↓v_call, ↓v_meth, ↓v_cmet, ↓v_make, ↓v_makT, ↓v_makL, ↓v_callT, ↓v_six, ↓v_fld, ↓v_isi, ↓v_rs0, ↓v_try, ↓v_ise, ↓v_chn, ↓v_fmt, ↓v_lit, ↓v_cat0, ↓v_cat1, ↓v_fst, ↓v_ite, ↓reduceIte, fz, vlsO, vlO, sto1, bindAll, bind1, bindT, List.getElem?_cons_zero, List.getElem?_cons_succ, List.set_cons_zero, List.set_cons_succ, Option.map_some, Option.map_none, Option.bind_some, Option.bind_none, isTup, picks_1, picks_2, picks_21, resO, pks, putB, setO, List.nodup_cons, List.nodup_nil, List.not_mem_nil, not_false_eq_true, and_true, List.map_nil, List.map_cons, List.append_nil, List.cons_append, List.nil_append, isIns, isCls, BEq.rfl, capN, capS, Bool.false_eq_true, Bool.not_true, Bool.not_false, x1, truD, at_top, at_bottom, eqD_int, h, boolD, finF, outsO, Bool.true_and, Bool.false_and]
theorem oeq_ok (t b u c : Int) : oeqD 2 p_Ratioq_eqq (.ins 2 [.int t, .int b]) (.ins 2 [.int u, .int c]) = some (t == u && b == c) := by
  simp only [oeqD, and_self, if_true, eq_ok]
end Fw
end

section
set_option maxRecDepth 100000
set_option maxHeartbeats 4000000
namespace Fw
open PySem L2 SX
def inner1 : M Flw := (ifM (cmp neD (callB (reprF noG) [(callP [false] p__law_told [0] [] [(var 8)])]) (callB (reprF noG) [(callP [false] p__law_read [0] [] [(var 8)])]))
    (retM (cst (.bl false))) nxM)
def body1 : M Flw :=
    (seqM (unpM [3, 4] (callP [true] p__law_parts [0] [] [(pk 1)]))
    (seqM (parM 5 6 [(makP 2 p_Ratioq_initq [0, 1] [(.int 1)] [(var 3), (var 4)]), (callP [false, false] p__law_text [0, 1] [] [(var 3), (var 4)])])
    (seqM (ifM (orM (cmp neD (callB (ostrF 2 p_Ratioq_strq) [(pk 5)]) (pk 6)) (cmp neD (callB (reprF (insG 2 p_Ratioq_reprq)) [(pk 5)]) (bin addD (bin addD (bin addD (bin addD (cst (.str (PySem.Str.ofString "Ratio("))) (callB strF [(pk 3)])) (cst (.str (PySem.Str.ofString ", ")))) (callB strF [(pk 4)])) (cst (.str (PySem.Str.ofString ")"))))))
    (retM (cst (.bl false))) nxM)
    (seqM (setM 7 (lstM [(var 6), (callP [true, false] p__law_bent [0, 1] [] [(pk 1), (var 6)]), (callP [true] p__law_far [0] [] [(pk 1)])]))
    (seqM (dropM (mutM 7 "list" appD [(callP [true, false] p__law_bent [0, 1] [] [(pk 1), (subM (pk 7) (cst (.int 1)))])]))
    (seqM (forM (Tg.nm 8) (seqI (var 7)) inner1)
    (ifM (orM (cmp (oneD 2 p_Ratioq_eqq) (cmetP 2 [false, false] p_Ratio_read [0, 1] [] (cst (.cls 2)) [(var 6)]) (pk 5)) (cmp neD (callB (ostrF 2 p_Ratioq_strq) [(pk 5)]) (pk 6)))
    (retM (cst (.bl false))) nxM)))))))
theorem tyL (ds : List D) : tyD "list" (.lst ds) = true := rfl
theorem appD3 (a b c d : D) : appD (.lst [a, b, c]) [d] = some (.lst [a, b, c, d], .non) := rfl
theorem seqDL (ds : List D) : seqD (.lst ds) = some ds := rfl
theorem sub1of3 (a b c : D) : subD (.lst [a, b, c]) (.int 1) = some (.vl b) := rfl
/-- the frame of part one: slots 2..7 all empty, or all filled; slot 8 either -/
def Fr1 (a pen : D) (st : Sl) : Prop := ∃ s8 : Slot, (s8 = .un ∨ ∃ d, s8 = .val d) ∧ (st = [.val a, .own false pen, .un, .un, .un, .un, .un, .un, s8] ∨ ∃ d2 d3 d4 d5 d6 d7, st = [.val a, .own false pen, .val d2, .val d3, .val d4, .val d5, .val d6, .val d7, s8])
theorem turn1 {n : Nat} {a pen d : D} {st : Sl} (h : Fr1 a pen st) (P : Pen n pen) (hn : n ≤ 800000) : ∃ st1 pen' st2, bindT (.nm 2) d st = some st1 ∧ body1 st1 = .ok .nx st2 ∧ Fr1 a pen' st2 ∧ Pen (n + 15) pen' := by
  obtain ⟨t, b, n1, e1, P1, pt, g⟩ := parts_ok P (by omega)
  have b0 := pt.b0
  have b1 := pt.b1
  have t1 := pt.t1
  have T61 : t.natAbs < 10 ^ 61 := Nat.lt_of_le_of_lt t1 (by decide)
  have T60 : t.natAbs < 10 ^ 60 := Nat.lt_of_le_of_lt t1 (by decide)
  have B61 : b.natAbs < 10 ^ 61 := Nat.lt_of_le_of_lt (show b.natAbs ≤ 3000 by omega) (by decide)
  have B60 : b.natAbs < 10 ^ 60 := Nat.lt_of_le_of_lt (show b.natAbs ≤ 3000 by omega) (by decide)
  have i1 := init_ok (t := t) (b := b) (by omega) (Nat.lt_of_le_of_lt (show b.natAbs ≤ 3000 by omega) (Nat.lt_of_lt_of_le (show 3000 < 2 ^ 64 by decide) (Nat.pow_le_pow_right (by decide) (by decide))))
  have q1 : nT t b = t := by rw [nT_pos (by omega), g]; exact Int.ediv_one _
  have q2 : nB t b = b := by rw [nB_pos (by omega), g]; exact Int.ediv_one _
  rw [q1, q2] at i1
  have lt := law_text_ok T61 B61
  have os := ostr_ok T61 B61
  have rf := rp_frac T61 B61
  have l1 := numZ_len T61
  have l2 := numZ_len B61
  have st1 := strF_int (lg' 204 (tenE T61))
  have st2 := strF_int (lg' 204 (tenE B61))
  have tl := txt_len T61 B61
  have ta := txt_asc t b
  obtain ⟨w1, n2, e2, P2, wl1, wa1⟩ := bent_ok P1 (by omega) (show (txt t b).length ≤ 1000 by omega) ta
  obtain ⟨v, n3, e3, P3, sv⟩ := far_ok P2 (by omega)
  obtain ⟨w2, n4, e4, P4, wl2, wa2⟩ := bent_ok P3 (by omega) (show w1.length ≤ 1000 by omega) wa1
  have rd := read_txt T60 b0 B60 g
  have oe : oneD 2 p_Ratioq_eqq (.ins 2 [.int t, .int b]) (.ins 2 [.int t, .int b]) = some false := by
    unfold oneD
    rw [oeq_ok]
    simp
  have ct : ∀ x y : List Nat, x.length ≤ 5000 → y.length ≤ 5000 → addD (.str (S x)) (.str (S y)) = some (.vl (.str (S (x ++ y)))) := fun x y h1 h2 => addD_S (by omega)
  have c1 := ct [82, 97, 116, 105, 111, 40] (numZ t) (by decide) (by omega)
  have c2 := ct ([82, 97, 116, 105, 111, 40] ++ numZ t) [44, 32] (by simp only [List.length_append, List.length_cons, List.length_nil]; omega) (by decide)
  have c3 := ct ([82, 97, 116, 105, 111, 40] ++ numZ t ++ [44, 32]) (numZ b) (by simp only [List.length_append, List.length_cons, List.length_nil]; omega) (by omega)
  have c4 : addD (.str (S ([82, 97, 116, 105, 111, 40] ++ numZ t ++ [44, 32] ++ numZ b))) (.str (S [41])) = some (.vl (.str (S (rtx t b)))) := ct _ _ (by simp only [List.length_append, List.length_cons, List.length_nil]; omega) (by decide)
  generalize [82, 97, 116, 105, 111, 40] ++ numZ t ++ [44, 32] ++ numZ b = L3 at *
  generalize [82, 97, 116, 105, 111, 40] ++ numZ t ++ [44, 32] = L2 at *
  generalize hL1 : [82, 97, 116, 105, 111, 40] ++ numZ t = L1 at *
  have sm : ∀ x ∈ [D.str (S (txt t b)), .str (S w1), v, .str (S w2)], Same x := by
    intro x hx
    simp only [List.mem_cons, List.not_mem_nil, or_false] at hx
    rcases hx with rfl | rfl | rfl | rfl
    · exact same_str (by omega) ta
    · exact same_str (by omega) wa1
    · exact sv
    · exact same_str (by omega) wa2
  obtain ⟨s8, h8, hs⟩ := h
  obtain ⟨s8', h8', ev⟩ := vals_ok (.val a) (.own false n4) (.val d) (.val (.int t)) (.val (.int b)) (.val (.ins 2 [.int t, .int b])) (.val (.str (S (txt t b)))) (.val (.lst [D.str (S (txt t b)), .str (S w1), v, .str (S w2)])) _ sm s8 h8
  have ev' : forD (Tg.nm 8) inner1 [D.str (S (txt t b)), .str (S w1), v, .str (S w2)] _ = _ := ev
  rcases hs with rfl | ⟨d2, d3, d4, d5, d6, d7, rfl⟩
  · refine ⟨_, n4, [.val a, .own false n4, .val d, .val (.int t), .val (.int b), .val (.ins 2 [.int t, .int b]), .val (.str (S (txt t b))), .val (.lst [D.str (S (txt t b)), .str (S w1), v, .str (S w2)]), s8'], rfl, ?_, ⟨s8', h8', .inr ⟨_, _, _, _, _, _, rfl⟩⟩, P4.mono (by omega)⟩
    unfold body1
    simp only [↓v_onS, ↓v_bnd, ↓v_ret, ↓v_stk, ↓v_lf, ↓v_rv, ↓v_var, ↓v_pk, ↓v_mov, ↓v_cst, ↓v_ops2, ↓v_ops1, ↓v_bin, ↓v_sub, ↓v_cmp, ↓v_un, ↓v_asV, ↓v_and, ↓v_or, ↓v_not, ↓v_if, ↓v_andV, ↓v_orV, ↓v_notV, ↓v_tst, ↓v_args0, ↓v_args1, ↓v_rvs0, ↓v_rvs1, ↓v_tup, ↓v_lst, ↓v_callB, ↓v_seq, ↓v_nx, ↓v_drop, ↓v_retM, ↓v_sto, ↓v_set, ↓v_att, ↓v_part0, ↓v_part1, ↓v_sli, ↓v_unp, ↓v_par, ↓v_seqI, ↓v_onVl, ↓v_rng, ↓v_for, ↓v_lc, ↓v_yes, ↓v_mth, ↓v_mut, ↓v_call, ↓v_meth, ↓v_cmet, ↓v_make, ↓v_makT, ↓v_makL, ↓v_callT, ↓v_six, ↓v_fld, ↓v_isi, ↓v_rs0, ↓v_try, ↓v_ise, ↓v_chn, ↓v_fmt, ↓v_lit, ↓v_cat0, ↓v_cat1, ↓v_fst, ↓v_ite, ↓reduceIte, fz, vlsO, vlO, sto1, bindAll, bind1, bindT, List.getElem?_cons_zero, List.getElem?_cons_succ, List.set_cons_zero, List.set_cons_succ, Option.map_some, Option.map_none, Option.bind_some, Option.bind_none, isTup, picks_1, picks_2, picks_21, resO, pks, putB, setO, List.nodup_cons, List.nodup_nil, List.not_mem_nil, not_false_eq_true, and_true, List.map_nil, List.map_cons, List.append_nil, List.cons_append, List.nil_append, isIns, isCls, BEq.rfl, capN, capS, Bool.false_eq_true, Bool.not_true, Bool.not_false, e1, i1, lt, os, rf, st1, st2, sR, sC, sP, c1, c2, c3, c4, neD_str, e2, e3, e4, tyL, appD3, seqDL, sub1of3, ev', rd, oe]
  · refine ⟨_, n4, [.val a, .own false n4, .val d, .val (.int t), .val (.int b), .val (.ins 2 [.int t, .int b]), .val (.str (S (txt t b))), .val (.lst [D.str (S (txt t b)), .str (S w1), v, .str (S w2)]), s8'], rfl, ?_, ⟨s8', h8', .inr ⟨_, _, _, _, _, _, rfl⟩⟩, P4.mono (by omega)⟩
    unfold body1
    simp only [↓v_onS, ↓v_bnd, ↓v_ret, ↓v_stk, ↓v_lf, ↓v_rv, ↓v_var, ↓v_pk, ↓v_mov, ↓v_cst, ↓v_ops2, ↓v_ops1, ↓v_bin, ↓v_sub, ↓v_cmp, ↓v_un, ↓v_asV, ↓v_and, ↓v_or, ↓v_not, ↓v_if, ↓v_andV, ↓v_orV, ↓v_notV, ↓v_tst, ↓v_args0, ↓v_args1, ↓v_rvs0, ↓v_rvs1, ↓v_tup, ↓v_lst, ↓v_callB, ↓v_seq, ↓v_nx, ↓v_drop, ↓v_retM, ↓v_sto, ↓v_set, ↓v_att, ↓v_part0, ↓v_part1, ↓v_sli, ↓v_unp, ↓v_par, ↓v_seqI, ↓v_onVl, ↓v_rng, ↓v_for, ↓v_lc, ↓v_yes, ↓v_mth, ↓v_mut, ↓v_call, ↓v_meth, ↓v_cmet, ↓v_make, ↓v_makT, ↓v_makL, ↓v_callT, ↓v_six, ↓v_fld, ↓v_isi, ↓v_rs0, ↓v_try, ↓v_ise, ↓v_chn, ↓v_fmt, ↓v_lit, ↓v_cat0, ↓v_cat1, ↓v_fst, ↓v_ite, ↓reduceIte, fz, vlsO, vlO, sto1, bindAll, bind1, bindT, List.getElem?_cons_zero, List.getElem?_cons_succ, List.set_cons_zero, List.set_cons_succ, Option.map_some, Option.map_none, Option.bind_some, Option.bind_none, isTup, picks_1, picks_2, picks_21, resO, pks, putB, setO, List.nodup_cons, List.nodup_nil, List.not_mem_nil, not_false_eq_true, and_true, List.map_nil, List.map_cons, List.append_nil, List.cons_append, List.nil_append, isIns, isCls, BEq.rfl, capN, capS, Bool.false_eq_true, Bool.not_true, Bool.not_false, e1, i1, lt, os, rf, st1, st2, sR, sC, sP, c1, c2, c3, c4, neD_str, e2, e3, e4, tyL, appD3, seqDL, sub1of3, ev', rd, oe]
end Fw
end

section
set_option maxRecDepth 100000
set_option maxHeartbeats 4000000
namespace Fw
open PySem L2 SX
theorem loop1 {a : D} : ∀ (ds : List D) (n : Nat) (pen : D) (st : Sl), Fr1 a pen st → Pen n pen → n + 15 * ds.length ≤ 800000 → ∃ st', forD (Tg.nm 2) body1 ds st = .ok .nx st'
  | [], _, _, st, _, _, _ => ⟨st, rfl⟩
  | d :: ds, n, pen, st, h, P, hn => by
    rw [List.length_cons] at hn
    obtain ⟨st1, pen', st2, e1, e2, h2, P2⟩ := turn1 (d := d) h P (by omega)
    obtain ⟨st', e3⟩ := loop1 ds (n + 15) pen' st2 h2 P2 (by omega)
    refine ⟨st', ?_⟩
    unfold forD
    rw [e1]
    simp only [e2]
    exact e3
theorem rng1_ok {n : Int} (h : -(2 ^ 62) ≤ n ∧ n < 2 ^ 62) : rngD1 [.int n] = some ((List.range n.toNat).map fun (i : Nat) => D.int (0 + (i : Int))) := if_pos h
theorem one_ok {ns : List Int} (hl : ns.length ≤ 63) (hb : ∀ z ∈ ns, Builtin.Int.intBits z ≤ 1048576) : p__law_part_one [.scr ns] = .ok false (.bl true) [] := by
  obtain ⟨pen, e, P⟩ := pen_ok hl hb
  unfold p__law_part_one
  rw [fnOf_eq _ _ _ _ rfl]
  show finF _ ((seqM (setM 1 (callP [false] p__law_pen [0] [] [(var 0)])) (seqM (forM (Tg.nm 2) (rngI rngD1 [(cst (.int 8))]) body1) (retM (cst (.bl true))))) [.val (.scr ns), .un, .un, .un, .un, .un, .un, .un, .un]) = _
  have r : rngD1 [.int 8] = some ((List.range 8).map fun (i : Nat) => D.int (0 + (i : Int))) := rng1_ok (by decide)
  have hl8 : 0 + 15 * ((List.range 8).map fun (i : Nat) => D.int (0 + (i : Int))).length ≤ 800000 := by rw [List.length_map, List.length_range]; decide
  obtain ⟨st', e3⟩ := loop1 (a := .scr ns) ((List.range 8).map fun (i : Nat) => D.int (0 + (i : Int))) 0 pen [.val (.scr ns), .own false pen, .un, .un, .un, .un, .un, .un, .un] ⟨.un, .inl rfl, .inl rfl⟩ P hl8
  generalize (List.range 8).map (fun (i : Nat) => D.int (0 + (i : Int))) = R at r e3
  have hp := P.ex
  obtain ⟨cs, at_, gr, rfl, _⟩ := hp
  unfold penD at e e3
  simp only [↓v_onS, ↓v_bnd, ↓v_ret, ↓v_stk, ↓v_lf, ↓v_rv, ↓v_var, ↓v_pk, ↓v_mov, ↓v_cst, ↓v_ops2, ↓v_ops1, ↓v_bin, ↓v_sub, ↓v_cmp, ↓v_un, ↓v_asV, ↓v_and, ↓v_or, ↓v_not, ↓v_if, ↓v_andV, ↓v_orV, ↓v_notV, ↓v_tst, ↓v_args0, ↓v_args1, ↓v_rvs0, ↓v_rvs1, ↓v_tup, ↓v_lst, ↓v_callB, ↓v_seq, ↓v_nx, ↓v_drop, ↓v_retM, ↓v_sto, ↓v_set, ↓v_att, ↓v_part0, ↓v_part1, ↓v_sli, ↓v_unp, ↓v_par, ↓v_seqI, ↓v_onVl, ↓v_rng, ↓v_for, ↓v_lc, ↓v_yes, ↓v_mth, ↓v_mut, ↓v_call, ↓v_meth, ↓v_cmet, ↓v_make, ↓v_makT, ↓v_makL, ↓v_callT, ↓v_six, ↓v_fld, ↓v_isi, ↓v_rs0, ↓v_try, ↓v_ise, ↓v_chn, ↓v_fmt, ↓v_lit, ↓v_cat0, ↓v_cat1, ↓v_fst, ↓v_ite, ↓reduceIte, fz, vlsO, vlO, sto1, bindAll, bind1, bindT, List.getElem?_cons_zero, List.getElem?_cons_succ, List.set_cons_zero, List.set_cons_succ, Option.map_some, Option.map_none, Option.bind_some, Option.bind_none, isTup, picks_1, picks_2, picks_21, resO, pks, putB, setO, List.nodup_cons, List.nodup_nil, List.not_mem_nil, not_false_eq_true, and_true, List.map_nil, List.map_cons, List.append_nil, List.cons_append, List.nil_append, isIns, isCls, BEq.rfl, capN, capS, Bool.false_eq_true, Bool.not_true, Bool.not_false, e, r, e3, finF, outsO]
end Fw
end

section
set_option maxRecDepth 100000
set_option maxHeartbeats 4000000
namespace Fw
open PySem L2 SX
def ptD (p : Int × Int) : D := .tup [.int p.1, .int p.2]
structure Pq (p : Int × Int) : Prop where
  b0 : 1 ≤ p.2
  b1 : p.2 ≤ 1000
  t1 : p.1.natAbs ≤ 1000000
theorem pick5 {a b c d e : Int} {r : Int} (h0 : 0 ≤ r) (h1 : r < 5) : ∃ t, subD (.lst [.int a, .int b, .int c, .int d, .int e]) (.int r) = some (.vl (.int t)) ∧ (t = a ∨ t = b ∨ t = c ∨ t = d ∨ t = e) := by
  have : r = 0 ∨ r = 1 ∨ r = 2 ∨ r = 3 ∨ r = 4 := by omega
  rcases this with rfl | rfl | rfl | rfl | rfl
  · exact ⟨a, rfl, .inl rfl⟩
  · exact ⟨b, rfl, .inr (.inl rfl)⟩
  · exact ⟨c, rfl, .inr (.inr (.inl rfl))⟩
  · exact ⟨d, rfl, .inr (.inr (.inr (.inl rfl)))⟩
  · exact ⟨e, rfl, .inr (.inr (.inr (.inr rfl)))⟩
theorem pick4 {a b c d : Int} {r : Int} (h0 : 0 ≤ r) (h1 : r < 4) : ∃ t, subD (.lst [.int a, .int b, .int c, .int d]) (.int r) = some (.vl (.int t)) ∧ (t = a ∨ t = b ∨ t = c ∨ t = d) := by
  have : r = 0 ∨ r = 1 ∨ r = 2 ∨ r = 3 := by omega
  rcases this with rfl | rfl | rfl | rfl
  · exact ⟨a, rfl, .inl rfl⟩
  · exact ⟨b, rfl, .inr (.inl rfl)⟩
  · exact ⟨c, rfl, .inr (.inr (.inl rfl))⟩
  · exact ⟨d, rfl, .inr (.inr (.inr rfl))⟩
theorem partsb_ok {n : Nat} {pen : D} (P : Pen n pen) (hn : n ≤ 900000) : ∃ p pen', p__law_parts_b [pen] = .ok true (ptD p) [pen'] ∧ Pen (n + 5) pen' ∧ Pq p := by
  obtain ⟨r1, n1, e1, l1, u1, P1⟩ := draw_ok P (many := 7) (by omega) (by decide) (by decide +kernel)
  obtain ⟨r2, n2, e2, l2, u2, P2⟩ := draw_ok P1 (many := 1999999) (by omega) (by decide) (lg 64 (by decide))
  obtain ⟨r3, n3, e3, l3, u3, P3⟩ := draw_ok P2 (many := 4) (by omega) (by decide) (by decide +kernel)
  obtain ⟨r4, n4, e4, l4, u4, P4⟩ := draw_ok P3 (many := 1000) (by omega) (by decide) (by decide +kernel)
  obtain ⟨r5, n5, e5, l5, u5, P5⟩ := draw_ok P4 (many := 5) (by omega) (by decide) (by decide +kernel)
  obtain ⟨b, eb, hb⟩ := pick5 (a := 1) (b := 2) (c := 3) (d := 4) (e := 1 + r4) l5 u5
  have b1 : 1 ≤ b := by rcases hb with h | h | h | h | h <;> omega
  have b2 : b ≤ 1000 := by rcases hb with h | h | h | h | h <;> omega
  have k0 (a c : D) : subD (.lst [a, c]) (.int 0) = some (.vl a) := rfl
  have k1 (a c : D) : subD (.lst [a, c]) (.int 1) = some (.vl c) := rfl
  unfold p__law_parts_b
  rw [fnOf_eq _ _ _ _ rfl]
  show ∃ p pen', finF _ (b__law_parts_b _ [.own true pen, .un]) = _ ∧ _
  unfold b__law_parts_b
  cases h3 : r3 == 0 with
  | true =>
    simp only [↓v_onS, ↓v_bnd, ↓v_ret, ↓v_stk, ↓v_lf, ↓v_rv, ↓v_var, ↓v_pk, ↓v_mov, ↓v_cst, ↓v_ops2, ↓v_ops1, ↓v_bin, ↓v_sub, ↓v_cmp, ↓v_un, ↓v_asV, ↓v_and, ↓v_or, ↓v_not, ↓v_if, ↓v_andV, ↓v_orV, ↓v_notV, ↓v_tst, ↓v_args0, ↓v_args1, ↓v_rvs0, ↓v_rvs1, ↓v_tup, ↓v_lst, ↓v_callB, ↓v_seq, ↓v_nx, ↓v_drop, ↓v_retM, ↓v_sto, ↓v_set, ↓v_att, ↓v_part0, ↓v_part1, ↓v_sli, ↓v_unp, ↓v_par, ↓v_seqI, ↓v_onVl, ↓v_rng, ↓v_for, ↓v_lc, ↓v_yes, ↓v_mth, ↓v_mut, ↓v_call, ↓v_meth, ↓v_cmet, ↓v_make, ↓v_makT, ↓v_makL, ↓v_callT, ↓v_six, ↓v_fld, ↓v_isi, ↓v_rs0, ↓v_try, ↓v_ise, ↓v_chn, ↓v_fmt, ↓v_lit, ↓v_cat0, ↓v_cat1, ↓v_fst, ↓v_ite, ↓reduceIte, fz, vlsO, vlO, sto1, bindAll, bind1, bindT, List.getElem?_cons_zero, List.getElem?_cons_succ, List.set_cons_zero, List.set_cons_succ, Option.map_some, Option.map_none, Option.bind_some, Option.bind_none, isTup, picks_1, picks_2, picks_21, resO, pks, putB, setO, List.nodup_cons, List.nodup_nil, List.not_mem_nil, not_false_eq_true, and_true, List.map_nil, List.map_cons, List.append_nil, List.cons_append, List.nil_append, isIns, isCls, BEq.rfl, capN, capS, Bool.false_eq_true, Bool.not_true, Bool.not_false, e1, e2, e3, e4, e5, subI_int, addD_int, eqD_int, h3, intF_bl, k1, eb, finF, outsO]
    exact ⟨(r2 - 999999, b), _, rfl, P5, ⟨b1, b2, show (r2 - 999999).natAbs ≤ 1000000 by omega⟩⟩
  | false =>
    simp only [↓v_onS, ↓v_bnd, ↓v_ret, ↓v_stk, ↓v_lf, ↓v_rv, ↓v_var, ↓v_pk, ↓v_mov, ↓v_cst, ↓v_ops2, ↓v_ops1, ↓v_bin, ↓v_sub, ↓v_cmp, ↓v_un, ↓v_asV, ↓v_and, ↓v_or, ↓v_not, ↓v_if, ↓v_andV, ↓v_orV, ↓v_notV, ↓v_tst, ↓v_args0, ↓v_args1, ↓v_rvs0, ↓v_rvs1, ↓v_tup, ↓v_lst, ↓v_callB, ↓v_seq, ↓v_nx, ↓v_drop, ↓v_retM, ↓v_sto, ↓v_set, ↓v_att, ↓v_part0, ↓v_part1, ↓v_sli, ↓v_unp, ↓v_par, ↓v_seqI, ↓v_onVl, ↓v_rng, ↓v_for, ↓v_lc, ↓v_yes, ↓v_mth, ↓v_mut, ↓v_call, ↓v_meth, ↓v_cmet, ↓v_make, ↓v_makT, ↓v_makL, ↓v_callT, ↓v_six, ↓v_fld, ↓v_isi, ↓v_rs0, ↓v_try, ↓v_ise, ↓v_chn, ↓v_fmt, ↓v_lit, ↓v_cat0, ↓v_cat1, ↓v_fst, ↓v_ite, ↓reduceIte, fz, vlsO, vlO, sto1, bindAll, bind1, bindT, List.getElem?_cons_zero, List.getElem?_cons_succ, List.set_cons_zero, List.set_cons_succ, Option.map_some, Option.map_none, Option.bind_some, Option.bind_none, isTup, picks_1, picks_2, picks_21, resO, pks, putB, setO, List.nodup_cons, List.nodup_nil, List.not_mem_nil, not_false_eq_true, and_true, List.map_nil, List.map_cons, List.append_nil, List.cons_append, List.nil_append, isIns, isCls, BEq.rfl, capN, capS, Bool.false_eq_true, Bool.not_true, Bool.not_false, e1, e2, e3, e4, e5, subI_int, addD_int, eqD_int, h3, intF_bl, k0, eb, finF, outsO]
    exact ⟨(r1 - 3, b), _, rfl, P5, ⟨b1, b2, show (r1 - 3).natAbs ≤ 1000000 by omega⟩⟩
end Fw
end

section
set_option maxRecDepth 100000
set_option maxHeartbeats 4000000
namespace Fw
open PySem L2 SX
/-- the fraction of a part -/
def frD (p : Int × Int) : D := .ins 2 [.int (nT p.1 p.2), .int (nB p.1 p.2)]
/-- a number that stands for a part -/
inductive Nm (p : Int × Int) : D → Prop where
  | int (h : p.2 = 1) : Nm p (.int p.1)
  | frac : Nm p (frD p)
theorem nT_mul {t b k : Int} (hb : 0 < b) (hk : 0 < k) : nT (t * k) (b * k) = nT t b ∧ nB (t * k) (b * k) = nB t b := by
  have hbk : 0 < b * k := Int.mul_pos hb hk
  have g0 := gcd_pos' (t := t) (b := b) (by omega)
  have e : (Int.gcd (t * k) (b * k) : Int) = (Int.gcd t b : Int) * k := by
    rw [Int.gcd_mul_right, Int.natCast_mul, Int.natAbs_of_nonneg (by omega)]
  rw [nT_pos hbk, nB_pos hbk, nT_pos hb, nB_pos hb, e]
  exact ⟨Int.mul_ediv_mul_of_pos_left _ _ hk, Int.mul_ediv_mul_of_pos_left _ _ hk⟩
theorem number_ok {n : Nat} {pen : D} {p : Int × Int} (P : Pen n pen) (hn : n ≤ 900000) (h : Pq p) : ∃ b d pen', p__law_number [pen, ptD p] = .ok b d [pen'] ∧ Pen (n + 2) pen' ∧ Nm p d := by
  obtain ⟨t, b⟩ := p
  have b0 : 1 ≤ b := h.b0
  have b1 : b ≤ 1000 := h.b1
  have t1 : t.natAbs ≤ 1000000 := h.t1
  obtain ⟨r1, n1, e1, l1, u1, P1⟩ := draw_ok P (many := 2) (by omega) (by decide) (by decide +kernel)
  obtain ⟨r2, n2, e2, l2, u2, P2⟩ := draw_ok P1 (many := 4) (by omega) (by decide) (by decide +kernel)
  obtain ⟨r0, n0, e0, l0, u0, P0⟩ := draw_ok P (many := 4) (by omega) (by decide) (by decide +kernel)
  unfold p__law_number ptD
  rw [fnOf_eq _ _ _ _ rfl]
  show ∃ b' d pen', finF _ (b__law_number _ [.own true pen, .val (.tup [.int t, .int b]), .un, .un, .un]) = _ ∧ _
  unfold b__law_number
  have key : ∀ k : Int, (k = 1 ∨ k = 1 ∨ k = 2 ∨ k = 3) → mulD (.int t) (.int k) = some (.vl (.int (t * k))) ∧ mulD (.int b) (.int k) = some (.vl (.int (b * k))) ∧ p_Ratioq_initq [.ins 2 [], .int (t * k), .int (b * k)] = .ok false .non [frD (t, b)] := by
    intro k hk
    have k0 : 0 < k := by omega
    have k3 : k ≤ 3 := by omega
    have hbk : 0 < b * k := Int.mul_pos (by omega) k0
    have hle : b * k ≤ 1000 * 3 := Int.mul_le_mul b1 k3 (by omega) (by decide)
    obtain ⟨q1, q2⟩ := nT_mul (t := t) (b := b) (k := k) (by omega) k0
    have i1 := init_ok (t := t * k) (b := b * k) (by omega) (Nat.lt_of_le_of_lt (show (b * k).natAbs ≤ 3000 by omega) (Nat.lt_of_lt_of_le (show 3000 < 2 ^ 64 by decide) (Nat.pow_le_pow_right (by decide) (by decide))))
    rw [q1, q2] at i1
    exact ⟨mulD_sm (by omega) (by omega), mulD_sm (by omega) (by omega), i1⟩
  cases hb : b == 1 with
  | false =>
    obtain ⟨k, ek, hk⟩ := pick4 (a := 1) (b := 1) (c := 2) (d := 3) l0 u0
    obtain ⟨m1, m2, i1⟩ := key k hk
    simp only [↓v_onS, ↓v_bnd, ↓v_ret, ↓v_stk, ↓v_lf, ↓v_rv, ↓v_var, ↓v_pk, ↓v_mov, ↓v_cst, ↓v_ops2, ↓v_ops1, ↓v_bin, ↓v_sub, ↓v_cmp, ↓v_un, ↓v_asV, ↓v_and, ↓v_or, ↓v_not, ↓v_if, ↓v_andV, ↓v_orV, ↓v_notV, ↓v_tst, ↓v_args0, ↓v_args1, ↓v_rvs0, ↓v_rvs1, ↓v_tup, ↓v_lst, ↓v_callB, ↓v_seq, ↓v_nx, ↓v_drop, ↓v_retM, ↓v_sto, ↓v_set, ↓v_att, ↓v_part0, ↓v_part1, ↓v_sli, ↓v_unp, ↓v_par, ↓v_seqI, ↓v_onVl, ↓v_rng, ↓v_for, ↓v_lc, ↓v_yes, ↓v_mth, ↓v_mut, ↓v_call, ↓v_meth, ↓v_cmet, ↓v_make, ↓v_makT, ↓v_makL, ↓v_callT, ↓v_six, ↓v_fld, ↓v_isi, ↓v_rs0, ↓v_try, ↓v_ise, ↓v_chn, ↓v_fmt, ↓v_lit, ↓v_cat0, ↓v_cat1, ↓v_fst, ↓v_ite, ↓reduceIte, fz, vlsO, vlO, sto1, bindAll, bind1, bindT, List.getElem?_cons_zero, List.getElem?_cons_succ, List.set_cons_zero, List.set_cons_succ, Option.map_some, Option.map_none, Option.bind_some, Option.bind_none, isTup, picks_1, picks_2, picks_21, resO, pks, putB, setO, List.nodup_cons, List.nodup_nil, List.not_mem_nil, not_false_eq_true, and_true, List.map_nil, List.map_cons, List.append_nil, List.cons_append, List.nil_append, isIns, isCls, BEq.rfl, capN, capS, Bool.false_eq_true, Bool.not_true, Bool.not_false, eqD_int, hb, e0, ek, m1, m2, i1, finF, outsO]
    exact ⟨_, _, _, rfl, P0.mono (by omega), .frac⟩
  | true =>
    cases hr : r1 == 0 with
    | true =>
      simp only [↓v_onS, ↓v_bnd, ↓v_ret, ↓v_stk, ↓v_lf, ↓v_rv, ↓v_var, ↓v_pk, ↓v_mov, ↓v_cst, ↓v_ops2, ↓v_ops1, ↓v_bin, ↓v_sub, ↓v_cmp, ↓v_un, ↓v_asV, ↓v_and, ↓v_or, ↓v_not, ↓v_if, ↓v_andV, ↓v_orV, ↓v_notV, ↓v_tst, ↓v_args0, ↓v_args1, ↓v_rvs0, ↓v_rvs1, ↓v_tup, ↓v_lst, ↓v_callB, ↓v_seq, ↓v_nx, ↓v_drop, ↓v_retM, ↓v_sto, ↓v_set, ↓v_att, ↓v_part0, ↓v_part1, ↓v_sli, ↓v_unp, ↓v_par, ↓v_seqI, ↓v_onVl, ↓v_rng, ↓v_for, ↓v_lc, ↓v_yes, ↓v_mth, ↓v_mut, ↓v_call, ↓v_meth, ↓v_cmet, ↓v_make, ↓v_makT, ↓v_makL, ↓v_callT, ↓v_six, ↓v_fld, ↓v_isi, ↓v_rs0, ↓v_try, ↓v_ise, ↓v_chn, ↓v_fmt, ↓v_lit, ↓v_cat0, ↓v_cat1, ↓v_fst, ↓v_ite, ↓reduceIte, fz, vlsO, vlO, sto1, bindAll, bind1, bindT, List.getElem?_cons_zero, List.getElem?_cons_succ, List.set_cons_zero, List.set_cons_succ, Option.map_some, Option.map_none, Option.bind_some, Option.bind_none, isTup, picks_1, picks_2, picks_21, resO, pks, putB, setO, List.nodup_cons, List.nodup_nil, List.not_mem_nil, not_false_eq_true, and_true, List.map_nil, List.map_cons, List.append_nil, List.cons_append, List.nil_append, isIns, isCls, BEq.rfl, capN, capS, Bool.false_eq_true, Bool.not_true, Bool.not_false, eqD_int, hb, hr, e1, finF, outsO]
      exact ⟨_, _, _, rfl, P1.mono (by omega), .int (p := (t, b)) (beq_iff_eq.mp hb)⟩
    | false =>
      obtain ⟨k, ek, hk⟩ := pick4 (a := 1) (b := 1) (c := 2) (d := 3) l2 u2
      obtain ⟨m1, m2, i1⟩ := key k hk
      simp only [↓v_onS, ↓v_bnd, ↓v_ret, ↓v_stk, ↓v_lf, ↓v_rv, ↓v_var, ↓v_pk, ↓v_mov, ↓v_cst, ↓v_ops2, ↓v_ops1, ↓v_bin, ↓v_sub, ↓v_cmp, ↓v_un, ↓v_asV, ↓v_and, ↓v_or, ↓v_not, ↓v_if, ↓v_andV, ↓v_orV, ↓v_notV, ↓v_tst, ↓v_args0, ↓v_args1, ↓v_rvs0, ↓v_rvs1, ↓v_tup, ↓v_lst, ↓v_callB, ↓v_seq, ↓v_nx, ↓v_drop, ↓v_retM, ↓v_sto, ↓v_set, ↓v_att, ↓v_part0, ↓v_part1, ↓v_sli, ↓v_unp, ↓v_par, ↓v_seqI, ↓v_onVl, ↓v_rng, ↓v_for, ↓v_lc, ↓v_yes, ↓v_mth, ↓v_mut, ↓v_call, ↓v_meth, ↓v_cmet, ↓v_make, ↓v_makT, ↓v_makL, ↓v_callT, ↓v_six, ↓v_fld, ↓v_isi, ↓v_rs0, ↓v_try, ↓v_ise, ↓v_chn, ↓v_fmt, ↓v_lit, ↓v_cat0, ↓v_cat1, ↓v_fst, ↓v_ite, ↓reduceIte, fz, vlsO, vlO, sto1, bindAll, bind1, bindT, List.getElem?_cons_zero, List.getElem?_cons_succ, List.set_cons_zero, List.set_cons_succ, Option.map_some, Option.map_none, Option.bind_some, Option.bind_none, isTup, picks_1, picks_2, picks_21, resO, pks, putB, setO, List.nodup_cons, List.nodup_nil, List.not_mem_nil, not_false_eq_true, and_true, List.map_nil, List.map_cons, List.append_nil, List.cons_append, List.nil_append, isIns, isCls, BEq.rfl, capN, capS, Bool.false_eq_true, Bool.not_true, Bool.not_false, eqD_int, hb, hr, e1, e2, ek, m1, m2, i1, finF, outsO]
      exact ⟨_, _, _, rfl, P2, .frac⟩
end Fw
end

section
set_option maxRecDepth 100000
set_option maxHeartbeats 4000000
namespace Fw
open PySem L2 SX
def lt (p q : Int × Int) : Bool := decide (p.1 * q.2 < q.1 * p.2)
theorem of_ok {p : Int × Int} {d : D} (h : Nm p d) : ∃ b, p_Ratio_of [.cls 2, d] = .ok b (frD p) [] := by
  unfold p_Ratio_of
  rw [fnOf_eq _ _ _ _ rfl]
  show ∃ b, finF _ (b_Ratio_of _ [.val (.cls 2), .val d]) = _
  unfold b_Ratio_of
  cases h with
  | int hp =>
    have x1 : isO 2 (.int p.1) = some false := rfl
    have i1 := init_ok (t := p.1) (b := 1) (by decide) (by decide +kernel)
    have e : D.ins 2 [.int (nT p.1 1), .int (nB p.1 1)] = frD p := by unfold frD; rw [hp]
    rw [e] at i1
    simp only [↓v_onS, ↓v_bnd, ↓v_ret, ↓v_stk, ↓v_lf, ↓v_rv, ↓v_var, ↓v_pk, ↓v_mov, ↓v_cst, ↓v_ops2, ↓v_ops1, ↓v_bin, ↓v_sub, ↓v_cmp, ↓v_un, ↓v_asV, ↓v_and, ↓v_or, ↓v_not, ↓v_if, ↓v_andV, ↓v_orV, ↓v_notV, ↓v_tst, ↓v_args0, ↓v_args1, ↓v_rvs0, ↓v_rvs1, ↓v_tup, ↓v_lst, ↓v_callB, ↓v_seq, ↓v_nx, ↓v_drop, ↓v_retM, ↓v_sto, ↓v_set, ↓v_att, ↓v_part0, ↓v_part1, ↓v_sli, ↓v_unp, ↓v_par, ↓v_seqI, ↓v_onVl, ↓v_rng, ↓v_for, ↓v_lc, ↓v_yes, ↓v_mth, ↓v_mut, ↓v_call, ↓v_meth, ↓v_cmet, ↓v_make, ↓v_makT, ↓v_makL, ↓v_callT, ↓v_six, ↓v_fld, ↓v_isi, ↓v_rs0, ↓v_try, ↓v_ise, ↓v_chn, ↓v_fmt, ↓v_lit, ↓v_cat0, ↓v_cat1, ↓v_fst, ↓v_ite, ↓reduceIte, fz, vlsO, vlO, sto1, bindAll, bind1, bindT, List.getElem?_cons_zero, List.getElem?_cons_succ, List.set_cons_zero, List.set_cons_succ, Option.map_some, Option.map_none, Option.bind_some, Option.bind_none, isTup, picks_1, picks_2, picks_21, resO, pks, putB, setO, List.nodup_cons, List.nodup_nil, List.not_mem_nil, not_false_eq_true, and_true, List.map_nil, List.map_cons, List.append_nil, List.cons_append, List.nil_append, isIns, isCls, BEq.rfl, capN, capS, Bool.false_eq_true, Bool.not_true, Bool.not_false, x1, truD, i1, finF, outsO]
    exact ⟨_, rfl⟩
  | frac =>
    have x1 : isO 2 (frD p) = some true := rfl
    simp only [↓v_onS, ↓v_bnd, ↓v_ret, ↓v_stk, ↓v_lf, ↓v_rv, ↓v_var, ↓v_pk, ↓v_mov, ↓v_cst, ↓v_ops2, ↓v_ops1, ↓v_bin, ↓v_sub, ↓v_cmp, ↓v_un, ↓v_asV, ↓v_and, ↓v_or, ↓v_not, ↓v_if, ↓v_andV, ↓v_orV, ↓v_notV, ↓v_tst, ↓v_args0, ↓v_args1, ↓v_rvs0, ↓v_rvs1, ↓v_tup, ↓v_lst, ↓v_callB, ↓v_seq, ↓v_nx, ↓v_drop, ↓v_retM, ↓v_sto, ↓v_set, ↓v_att, ↓v_part0, ↓v_part1, ↓v_sli, ↓v_unp, ↓v_par, ↓v_seqI, ↓v_onVl, ↓v_rng, ↓v_for, ↓v_lc, ↓v_yes, ↓v_mth, ↓v_mut, ↓v_call, ↓v_meth, ↓v_cmet, ↓v_make, ↓v_makT, ↓v_makL, ↓v_callT, ↓v_six, ↓v_fld, ↓v_isi, ↓v_rs0, ↓v_try, ↓v_ise, ↓v_chn, ↓v_fmt, ↓v_lit, ↓v_cat0, ↓v_cat1, ↓v_fst, ↓v_ite, ↓reduceIte, fz, vlsO, vlO, sto1, bindAll, bind1, bindT, List.getElem?_cons_zero, List.getElem?_cons_succ, List.set_cons_zero, List.set_cons_succ, Option.map_some, Option.map_none, Option.bind_some, Option.bind_none, isTup, picks_1, picks_2, picks_21, resO, pks, putB, setO, List.nodup_cons, List.nodup_nil, List.not_mem_nil, not_false_eq_true, and_true, List.map_nil, List.map_cons, List.append_nil, List.cons_append, List.nil_append, isIns, isCls, BEq.rfl, capN, capS, Bool.false_eq_true, Bool.not_true, Bool.not_false, x1, truD, finF, outsO]
    exact ⟨_, rfl⟩
structure Red (p : Int × Int) : Prop where
  ex : ∃ g : Int, 0 < g ∧ p.1 = nT p.1 p.2 * g ∧ p.2 = nB p.1 p.2 * g ∧ 0 < nB p.1 p.2 ∧ (nT p.1 p.2).natAbs ≤ 1000000 ∧ nB p.1 p.2 ≤ 1000
theorem red {p : Int × Int} (h : Pq p) : Red p := by
  have b0 := h.b0
  have g0 := gcd_pos' (t := p.1) (b := p.2) (by omega)
  refine ⟨_, g0, ?_, ?_, ?_, ?_, ?_⟩
  · rw [nT_pos (by omega)]
    exact (Int.ediv_mul_cancel (Int.gcd_dvd_left ..)).symm
  · rw [nB_pos (by omega)]
    exact (Int.ediv_mul_cancel (Int.gcd_dvd_right ..)).symm
  · rw [nB_pos (by omega)]
    exact Int.ediv_pos_of_pos_of_dvd (by omega) (by omega) (Int.gcd_dvd_right ..)
  · rw [nT_pos (by omega)]
    exact Nat.le_of_lt_succ (ediv_abs g0 (Int.gcd_dvd_left ..) (Nat.lt_succ_of_le h.t1))
  · rw [nB_pos (by omega)]
    exact Int.le_trans (Int.ediv_le_self _ (by omega)) h.b1
theorem under_ok {p q : Int × Int} (hp : Pq p) (hq : Pq q) : p_Ratio_under [frD p, frD q] = .ok false (.bl (lt p q)) [] := by
  obtain ⟨g, g0, a1, a2, a3, a4, a5⟩ := (red hp).ex
  obtain ⟨k, k0, c1, c2, c3, c4, c5⟩ := (red hq).ex
  have e : decide (nT p.1 p.2 * nB q.1 q.2 < nT q.1 q.2 * nB p.1 p.2) = lt p q := by
    unfold lt
    refine decide_eq_decide.mpr ?_
    generalize nT p.1 p.2 = T at *
    generalize nB p.1 p.2 = B at *
    generalize nT q.1 q.2 = U at *
    generalize nB q.1 q.2 = C at *
    have gk : 0 < g * k := Int.mul_pos g0 k0
    have z1 : p.1 * q.2 = (T * C) * (g * k) := by rw [a1, c2]; simp only [Int.mul_assoc, Int.mul_left_comm, Int.mul_comm]
    have z2 : q.1 * p.2 = (U * B) * (g * k) := by rw [c1, a2]; simp only [Int.mul_assoc, Int.mul_left_comm, Int.mul_comm]
    rw [z1, z2]
    exact ⟨fun h => Int.mul_lt_mul_of_pos_right h gk, fun h => Int.lt_of_mul_lt_mul_right h (Int.le_of_lt gk)⟩
  have m1 : mulD (.int (nT p.1 p.2)) (.int (nB q.1 q.2)) = some (.vl (.int (nT p.1 p.2 * nB q.1 q.2))) := mulD_sm (by omega) (by omega)
  have m2 : mulD (.int (nT q.1 q.2)) (.int (nB p.1 p.2)) = some (.vl (.int (nT q.1 q.2 * nB p.1 p.2))) := mulD_sm (by omega) (by omega)
  unfold p_Ratio_under frD
  rw [fnOf_eq _ _ _ _ rfl]
  show finF _ (b_Ratio_under _ [.val (.ins 2 [.int (nT p.1 p.2), .int (nB p.1 p.2)]), .val (.ins 2 [.int (nT q.1 q.2), .int (nB q.1 q.2)])]) = _
  unfold b_Ratio_under
  simp only [↓v_onS, ↓v_bnd, ↓v_ret, ↓v_stk, ↓v_lf, ↓v_rv, ↓v_var, ↓v_pk, ↓v_mov, ↓v_cst, ↓v_ops2, ↓v_ops1, ↓v_bin, ↓v_sub, ↓v_cmp, ↓v_un, ↓v_asV, ↓v_and, ↓v_or, ↓v_not, ↓v_if, ↓v_andV, ↓v_orV, ↓v_notV, ↓v_tst, ↓v_args0, ↓v_args1, ↓v_rvs0, ↓v_rvs1, ↓v_tup, ↓v_lst, ↓v_callB, ↓v_seq, ↓v_nx, ↓v_drop, ↓v_retM, ↓v_sto, ↓v_set, ↓v_att, ↓v_part0, ↓v_part1, ↓v_sli, ↓v_unp, ↓v_par, ↓v_seqI, ↓v_onVl, ↓v_rng, ↓v_for, ↓v_lc, ↓v_yes, ↓v_mth, ↓v_mut, ↓v_call, ↓v_meth, ↓v_cmet, ↓v_make, ↓v_makT, ↓v_makL, ↓v_callT, ↓v_six, ↓v_fld, ↓v_isi, ↓v_rs0, ↓v_try, ↓v_ise, ↓v_chn, ↓v_fmt, ↓v_lit, ↓v_cat0, ↓v_cat1, ↓v_fst, ↓v_ite, ↓reduceIte, fz, vlsO, vlO, sto1, bindAll, bind1, bindT, List.getElem?_cons_zero, List.getElem?_cons_succ, List.set_cons_zero, List.set_cons_succ, Option.map_some, Option.map_none, Option.bind_some, Option.bind_none, isTup, picks_1, picks_2, picks_21, resO, pks, putB, setO, List.nodup_cons, List.nodup_nil, List.not_mem_nil, not_false_eq_true, and_true, List.map_nil, List.map_cons, List.append_nil, List.cons_append, List.nil_append, isIns, isCls, BEq.rfl, capN, capS, Bool.false_eq_true, Bool.not_true, Bool.not_false, at_top, at_bottom, m1, m2, cmpI, e, finF, outsO]
theorem before_ok {p q : Int × Int} (hp : Pq p) (hq : Pq q) : p__law_before [ptD p, ptD q] = .ok false (.bl (lt p q)) [] := by
  have := hp.b0
  have := hp.b1
  have := hp.t1
  have := hq.b0
  have := hq.b1
  have := hq.t1
  have m1 : mulD (.int p.1) (.int q.2) = some (.vl (.int (p.1 * q.2))) := mulD_sm (by omega) (by omega)
  have m2 : mulD (.int q.1) (.int p.2) = some (.vl (.int (q.1 * p.2))) := mulD_sm (by omega) (by omega)
  unfold p__law_before ptD
  rw [fnOf_eq _ _ _ _ rfl]
  show finF _ (b__law_before _ [.val (.tup [.int p.1, .int p.2]), .val (.tup [.int q.1, .int q.2])]) = _
  unfold b__law_before
  simp only [↓v_onS, ↓v_bnd, ↓v_ret, ↓v_stk, ↓v_lf, ↓v_rv, ↓v_var, ↓v_pk, ↓v_mov, ↓v_cst, ↓v_ops2, ↓v_ops1, ↓v_bin, ↓v_sub, ↓v_cmp, ↓v_un, ↓v_asV, ↓v_and, ↓v_or, ↓v_not, ↓v_if, ↓v_andV, ↓v_orV, ↓v_notV, ↓v_tst, ↓v_args0, ↓v_args1, ↓v_rvs0, ↓v_rvs1, ↓v_tup, ↓v_lst, ↓v_callB, ↓v_seq, ↓v_nx, ↓v_drop, ↓v_retM, ↓v_sto, ↓v_set, ↓v_att, ↓v_part0, ↓v_part1, ↓v_sli, ↓v_unp, ↓v_par, ↓v_seqI, ↓v_onVl, ↓v_rng, ↓v_for, ↓v_lc, ↓v_yes, ↓v_mth, ↓v_mut, ↓v_call, ↓v_meth, ↓v_cmet, ↓v_make, ↓v_makT, ↓v_makL, ↓v_callT, ↓v_six, ↓v_fld, ↓v_isi, ↓v_rs0, ↓v_try, ↓v_ise, ↓v_chn, ↓v_fmt, ↓v_lit, ↓v_cat0, ↓v_cat1, ↓v_fst, ↓v_ite, ↓reduceIte, fz, vlsO, vlO, sto1, bindAll, bind1, bindT, List.getElem?_cons_zero, List.getElem?_cons_succ, List.set_cons_zero, List.set_cons_succ, Option.map_some, Option.map_none, Option.bind_some, Option.bind_none, isTup, picks_1, picks_2, picks_21, resO, pks, putB, setO, List.nodup_cons, List.nodup_nil, List.not_mem_nil, not_false_eq_true, and_true, List.map_nil, List.map_cons, List.append_nil, List.cons_append, List.nil_append, isIns, isCls, BEq.rfl, capN, capS, Bool.false_eq_true, Bool.not_true, Bool.not_false, subT0, subT1, m1, m2, cmpI, finF, outsO, lt]
end Fw
end

section
set_option maxRecDepth 100000
set_option maxHeartbeats 4000000
namespace Fw
open PySem L2 SX
/-! ### order -/
theorem lt_iff {p q : Int × Int} : lt p q = true ↔ p.1 * q.2 < q.1 * p.2 := by unfold lt; rw [decide_eq_true_eq]
theorem mul_lt {a b c : Int} (h : a * c < b * c) (hc : 0 < c) : a < b := Int.lt_of_mul_lt_mul_right h (Int.le_of_lt hc)
theorem lt_trans {p q r : Int × Int} (hp : Pq p) (hq : Pq q) (hr : Pq r) (h1 : lt p q = true) (h2 : lt q r = true) : lt p r = true := by
  rw [lt_iff] at *
  have a := hp.b0
  have b := hq.b0
  have c := hr.b0
  have s1 := Int.mul_lt_mul_of_pos_right h1 (show 0 < r.2 by omega)
  have s2 := Int.mul_lt_mul_of_pos_right h2 (show 0 < p.2 by omega)
  refine mul_lt (c := q.2) ?_ (by omega)
  have e1 : p.1 * q.2 * r.2 = p.1 * r.2 * q.2 := by rw [Int.mul_assoc, Int.mul_assoc, Int.mul_comm q.2]
  have e2 : q.1 * p.2 * r.2 = q.1 * r.2 * p.2 := by rw [Int.mul_assoc, Int.mul_assoc, Int.mul_comm p.2]
  have e3 : r.1 * q.2 * p.2 = r.1 * p.2 * q.2 := by rw [Int.mul_assoc, Int.mul_assoc, Int.mul_comm q.2]
  omega
theorem lt_irr (p : Int × Int) : lt p p = false := by unfold lt; exact decide_eq_false (by omega)
theorem lt_asym {p q : Int × Int} (h : lt p q = true) : lt q p = false := by
  cases e : lt q p with
  | false => rfl
  | true => rw [lt_iff] at h e; omega
/-- neither is less: one fraction -/
theorem fr_eq {p q : Int × Int} (hp : Pq p) (hq : Pq q) (h1 : lt p q = false) (h2 : lt q p = false) : frD p = frD q := by
  have h : p.1 * q.2 = q.1 * p.2 := by
    unfold lt at h1 h2
    have := of_decide_eq_false h1
    have := of_decide_eq_false h2
    omega
  have a := hp.b0
  have b := hq.b0
  have e1 := nT_mul (t := p.1) (b := p.2) (k := q.2) (by omega) (by omega)
  have e2 := nT_mul (t := q.1) (b := q.2) (k := p.2) (by omega) (by omega)
  rw [h, Int.mul_comm p.2 q.2] at e1
  unfold frD
  rw [← e1.1, ← e1.2, e2.1, e2.2]
theorem lt_fr {p q r : Int × Int} (hp : Pq p) (hq : Pq q) (hr : Pq r) (h : frD p = frD q) : lt p r = lt q r ∧ lt r p = lt r q := by
  have u1 := under_ok hp hr
  have u2 := under_ok hq hr
  have u3 := under_ok hr hp
  have u4 := under_ok hr hq
  rw [h] at u1 u3
  rw [u1] at u2
  rw [u3] at u4
  exact ⟨by injection u2 with _ e; injection e, by injection u4 with _ e; injection e⟩
theorem fr_nlt {p q : Int × Int} (hp : Pq p) (hq : Pq q) (h : frD p = frD q) : lt p q = false := by
  rw [(lt_fr hp hq hq h).1]
  exact lt_irr q
abbrev Srt (l : List (Int × Int)) : Prop := l.Pairwise fun p q => lt p q = true
abbrev Pqs (l : List (Int × Int)) : Prop := ∀ p ∈ l, Pq p
theorem uniq : ∀ {l m : List (Int × Int)}, Pqs l → Pqs m → Srt l → Srt m → (∀ x, x ∈ l.map frD ↔ x ∈ m.map frD) → l.map frD = m.map frD
  | [], [], _, _, _, _, _ => rfl
  | [], q :: m, _, _, _, _, h => by
    have := (h (frD q)).mpr (by simp)
    simp at this
  | p :: l, [], _, _, _, _, h => by
    have := (h (frD p)).mp (by simp)
    simp at this
  | p :: l, q :: m, hl, hm, sl, sm, h => by
    have hp := hl p (List.mem_cons_self ..)
    have hq := hm q (List.mem_cons_self ..)
    have sl' := List.pairwise_cons.mp sl
    have sm' := List.pairwise_cons.mp sm
    have pq : frD p = frD q := by
      obtain ⟨a, ha, ea⟩ := List.mem_map.mp ((h (frD p)).mp (List.mem_map.mpr ⟨p, List.mem_cons_self .., rfl⟩))
      obtain ⟨b, hb, eb⟩ := List.mem_map.mp ((h (frD q)).mpr (List.mem_map.mpr ⟨q, List.mem_cons_self .., rfl⟩))
      rcases List.mem_cons.mp ha with rfl | ha
      · exact ea.symm
      · rcases List.mem_cons.mp hb with rfl | hb
        · exact eb
        · have k1 := sm'.1 a ha
          have k2 := sl'.1 b hb
          have ha' := hm a (List.mem_cons_of_mem _ ha)
          have hb' := hl b (List.mem_cons_of_mem _ hb)
          rw [(lt_fr ha' hp hq ea).2] at k1
          rw [(lt_fr hb' hq hp eb).2] at k2
          rw [lt_asym k1] at k2
          cases k2
    have tl : l.map frD = m.map frD := by
      refine uniq (fun x hx => hl x (List.mem_cons_of_mem _ hx)) (fun x hx => hm x (List.mem_cons_of_mem _ hx)) sl'.2 sm'.2 fun x => ?_
      constructor
      · intro hx
        obtain ⟨a, ha, rfl⟩ := List.mem_map.mp hx
        have := (h (frD a)).mp (List.mem_map.mpr ⟨a, List.mem_cons_of_mem _ ha, rfl⟩)
        rw [List.map_cons, List.mem_cons] at this
        rcases this with z | z
        · have k := sl'.1 a ha
          rw [fr_nlt hp (hl a (List.mem_cons_of_mem _ ha)) (pq.trans z.symm)] at k
          cases k
        · exact z
      · intro hx
        obtain ⟨a, ha, rfl⟩ := List.mem_map.mp hx
        have := (h (frD a)).mpr (List.mem_map.mpr ⟨a, List.mem_cons_of_mem _ ha, rfl⟩)
        rw [List.map_cons, List.mem_cons] at this
        rcases this with z | z
        · have k := sm'.1 a ha
          rw [fr_nlt hq (hm a (List.mem_cons_of_mem _ ha)) (pq.symm.trans z.symm)] at k
          cases k
        · exact z
    rw [List.map_cons, List.map_cons, pq, tl]
end Fw
end

section
set_option maxRecDepth 100000
set_option maxHeartbeats 4000000
namespace Fw
open PySem L2 SX
theorem ah_lc (x0 x1 x3 x5 : Slot) {p : Int × Int} (hp : Pq p) : ∀ l : List (Int × Int), Pqs l →
    lcR [4] (Tg.nm 4) (tst (callP [false, false] p__law_before [0, 1] [] [(var 4), (var 2)])) (var 4) (l.map ptD) [x0, x1, .val (ptD p), x3, .un, x5] = .ok ((l.filter fun q => lt q p).map ptD) [x0, x1, .val (ptD p), x3, .un, x5]
  | [], _ => rfl
  | q :: l, h => by
    have ih := ah_lc x0 x1 x3 x5 hp l fun x hx => h x (List.mem_cons_of_mem _ hx)
    have e := before_ok (h q (List.mem_cons_self ..)) hp
    rw [List.map_cons]
    unfold lcR
    cases c : lt q p <;> rw [c] at e <;> simp only [↓v_onS, ↓v_bnd, ↓v_ret, ↓v_stk, ↓v_lf, ↓v_rv, ↓v_var, ↓v_pk, ↓v_mov, ↓v_cst, ↓v_ops2, ↓v_ops1, ↓v_bin, ↓v_sub, ↓v_cmp, ↓v_un, ↓v_asV, ↓v_and, ↓v_or, ↓v_not, ↓v_if, ↓v_andV, ↓v_orV, ↓v_notV, ↓v_tst, ↓v_args0, ↓v_args1, ↓v_rvs0, ↓v_rvs1, ↓v_tup, ↓v_lst, ↓v_callB, ↓v_seq, ↓v_nx, ↓v_drop, ↓v_retM, ↓v_sto, ↓v_set, ↓v_att, ↓v_part0, ↓v_part1, ↓v_sli, ↓v_unp, ↓v_par, ↓v_seqI, ↓v_onVl, ↓v_rng, ↓v_for, ↓v_lc, ↓v_yes, ↓v_mth, ↓v_mut, ↓v_call, ↓v_meth, ↓v_cmet, ↓v_make, ↓v_makT, ↓v_makL, ↓v_callT, ↓v_six, ↓v_fld, ↓v_isi, ↓v_rs0, ↓v_try, ↓v_ise, ↓v_chn, ↓v_fmt, ↓v_lit, ↓v_cat0, ↓v_cat1, ↓v_fst, ↓v_ite, ↓reduceIte, fz, vlsO, vlO, sto1, bindAll, bind1, bindT, List.getElem?_cons_zero, List.getElem?_cons_succ, List.set_cons_zero, List.set_cons_succ, Option.map_some, Option.map_none, Option.bind_some, Option.bind_none, isTup, picks_1, picks_2, picks_21, resO, pks, putB, setO, List.nodup_cons, List.nodup_nil, List.not_mem_nil, not_false_eq_true, and_true, List.map_nil, List.map_cons, List.append_nil, List.cons_append, List.nil_append, isIns, isCls, BEq.rfl, capN, capS, Bool.false_eq_true, Bool.not_true, Bool.not_false, e, truD, wipeS, List.foldr_cons, List.foldr_nil, ih, List.filter_cons, c]
theorem be_lc (x0 x1 x3 x5 : Slot) {p : Int × Int} (hp : Pq p) : ∀ l : List (Int × Int), Pqs l →
    lcR [4] (Tg.nm 4) (tst (callP [false, false] p__law_before [0, 1] [] [(var 2), (var 4)])) (var 4) (l.map ptD) [x0, x1, .val (ptD p), x3, .un, x5] = .ok ((l.filter fun q => lt p q).map ptD) [x0, x1, .val (ptD p), x3, .un, x5]
  | [], _ => rfl
  | q :: l, h => by
    have ih := be_lc x0 x1 x3 x5 hp l fun x hx => h x (List.mem_cons_of_mem _ hx)
    have e := before_ok hp (h q (List.mem_cons_self ..))
    rw [List.map_cons]
    unfold lcR
    cases c : lt p q <;> rw [c] at e <;> simp only [↓v_onS, ↓v_bnd, ↓v_ret, ↓v_stk, ↓v_lf, ↓v_rv, ↓v_var, ↓v_pk, ↓v_mov, ↓v_cst, ↓v_ops2, ↓v_ops1, ↓v_bin, ↓v_sub, ↓v_cmp, ↓v_un, ↓v_asV, ↓v_and, ↓v_or, ↓v_not, ↓v_if, ↓v_andV, ↓v_orV, ↓v_notV, ↓v_tst, ↓v_args0, ↓v_args1, ↓v_rvs0, ↓v_rvs1, ↓v_tup, ↓v_lst, ↓v_callB, ↓v_seq, ↓v_nx, ↓v_drop, ↓v_retM, ↓v_sto, ↓v_set, ↓v_att, ↓v_part0, ↓v_part1, ↓v_sli, ↓v_unp, ↓v_par, ↓v_seqI, ↓v_onVl, ↓v_rng, ↓v_for, ↓v_lc, ↓v_yes, ↓v_mth, ↓v_mut, ↓v_call, ↓v_meth, ↓v_cmet, ↓v_make, ↓v_makT, ↓v_makL, ↓v_callT, ↓v_six, ↓v_fld, ↓v_isi, ↓v_rs0, ↓v_try, ↓v_ise, ↓v_chn, ↓v_fmt, ↓v_lit, ↓v_cat0, ↓v_cat1, ↓v_fst, ↓v_ite, ↓reduceIte, fz, vlsO, vlO, sto1, bindAll, bind1, bindT, List.getElem?_cons_zero, List.getElem?_cons_succ, List.set_cons_zero, List.set_cons_succ, Option.map_some, Option.map_none, Option.bind_some, Option.bind_none, isTup, picks_1, picks_2, picks_21, resO, pks, putB, setO, List.nodup_cons, List.nodup_nil, List.not_mem_nil, not_false_eq_true, and_true, List.map_nil, List.map_cons, List.append_nil, List.cons_append, List.nil_append, isIns, isCls, BEq.rfl, capN, capS, Bool.false_eq_true, Bool.not_true, Bool.not_false, e, truD, wipeS, List.foldr_cons, List.foldr_nil, ih, List.filter_cons, c]
end Fw
end

section
set_option maxRecDepth 100000
set_option maxHeartbeats 4000000
namespace Fw
open PySem L2 SX
def ins2 (l : List (Int × Int)) (p : Int × Int) : List (Int × Int) := (l.filter fun q => lt q p) ++ [p] ++ l.filter fun q => lt p q
theorem filt_len (p : Int × Int) : ∀ l : List (Int × Int), (l.filter fun q => lt q p).length + (l.filter fun q => lt p q).length ≤ l.length
  | [] => by simp
  | q :: l => by
    have ih := filt_len p l
    rw [List.filter_cons, List.filter_cons]
    cases c : lt q p with
    | true =>
      rw [lt_asym c]
      simp only [if_true, Bool.false_eq_true, if_false, List.length_cons]
      omega
    | false =>
      cases c2 : lt p q <;> simp only [if_true, Bool.false_eq_true, if_false, List.length_cons] <;> omega
theorem ins2_len (l : List (Int × Int)) (p : Int × Int) : (ins2 l p).length ≤ l.length + 1 := by
  have := filt_len p l
  unfold ins2
  rw [List.length_append, List.length_append, List.length_singleton]
  omega
theorem ins2_pq {l : List (Int × Int)} {p : Int × Int} (h : Pqs l) (hp : Pq p) : Pqs (ins2 l p) := by
  intro x hx
  unfold ins2 at hx
  simp only [List.mem_append, List.mem_filter, List.mem_singleton] at hx
  rcases hx with (hx | hx) | hx
  · exact h x hx.1
  · rw [hx]; exact hp
  · exact h x hx.1
theorem ins2_srt {l : List (Int × Int)} {p : Int × Int} (h : Pqs l) (hp : Pq p) (s : Srt l) : Srt (ins2 l p) := by
  unfold ins2 Srt
  rw [List.append_assoc, List.pairwise_append]
  refine ⟨s.filter _, ?_, ?_⟩
  · rw [List.singleton_append, List.pairwise_cons]
    exact ⟨fun q hq => (List.mem_filter.mp hq).2, s.filter _⟩
  · intro a ha b hb
    have ha' := List.mem_filter.mp ha
    rw [List.singleton_append] at hb
    rcases List.mem_cons.mp hb with rfl | hb
    · exact ha'.2
    · have hb' := List.mem_filter.mp hb
      exact lt_trans (h a ha'.1) hp (h b hb'.1) ha'.2 hb'.2
theorem ins2_mem {l : List (Int × Int)} {p : Int × Int} (h : Pqs l) (hp : Pq p) (x : D) : x ∈ (ins2 l p).map frD ↔ x ∈ l.map frD ∨ x = frD p := by
  unfold ins2
  simp only [List.map_append, List.mem_append, List.mem_map, List.mem_filter, List.mem_singleton, List.map_cons, List.map_nil]
  constructor
  · rintro ((⟨q, hq, rfl⟩ | hx) | ⟨q, hq, rfl⟩)
    · exact .inl ⟨q, hq.1, rfl⟩
    · exact .inr hx
    · exact .inl ⟨q, hq.1, rfl⟩
  · rintro (⟨q, hq, rfl⟩ | rfl)
    · cases c : lt q p with
      | true => exact .inl (.inl ⟨q, ⟨hq, c⟩, rfl⟩)
      | false =>
        cases c2 : lt p q with
        | true => exact .inr ⟨q, ⟨hq, c2⟩, rfl⟩
        | false => exact .inl (.inr (fr_eq (h q hq) hp c c2))
    · exact .inl (.inr rfl)
def sbody : M Flw :=
    (seqM (setM 3 (lcM [4] (Tg.nm 4) (seqI (var 1)) (tst (callP [false, false] p__law_before [0, 1] [] [(var 4), (var 2)])) (var 4)))
    (seqM (setM 5 (lcM [4] (Tg.nm 4) (seqI (var 1)) (tst (callP [false, false] p__law_before [0, 1] [] [(var 2), (var 4)])) (var 4)))
    (setM 1 (bin addD (bin addD (pk 3) (lstM [(var 2)])) (pk 5)))))
def FrS (a : D) (l : List (Int × Int)) (st : Sl) : Prop := st = [.val a, .own false (.lst (l.map ptD)), .un, .un, .un, .un] ∨ ∃ d2 d3 d5, st = [.val a, .own false (.lst (l.map ptD)), .val d2, .own false d3, .un, .own false d5]
theorem stepS {a : D} {l : List (Int × Int)} {p : Int × Int} {st : Sl} (h : FrS a l st) (hl : Pqs l) (hp : Pq p) (hn : l.length ≤ 1000) : ∃ st1 st2, bindT (.nm 2) (ptD p) st = some st1 ∧ sbody st1 = .ok .nx st2 ∧ FrS a (ins2 l p) st2 := by
  have c1 : (l.map ptD).length ≤ 1000000 := by rw [List.length_map]; omega
  have fl := filt_len p l
  have a1 : addD (.lst ((l.filter fun q => lt q p).map ptD)) (.lst [ptD p]) = some (.fr (.lst (((l.filter fun q => lt q p).map ptD) ++ [ptD p]))) := addL (by rw [List.length_map, List.length_singleton]; omega)
  have a2 : addD (.lst (((l.filter fun q => lt q p).map ptD) ++ [ptD p])) (.lst ((l.filter fun q => lt p q).map ptD)) = some (.fr (.lst ((ins2 l p).map ptD))) := by
    rw [addL (by rw [List.length_append, List.length_map, List.length_map, List.length_singleton]; omega)]
    unfold ins2
    rw [List.map_append, List.map_append] <;> rfl
  rcases h with rfl | ⟨d2, d3, d5, rfl⟩
  · refine ⟨_, [.val a, .own false (.lst ((ins2 l p).map ptD)), .val (ptD p), .own false (.lst ((l.filter fun q => lt q p).map ptD)), .un, .own false (.lst ((l.filter fun q => lt p q).map ptD))], rfl, ?_, .inr ⟨_, _, _, rfl⟩⟩
    have e1 := ah_lc (.val a) (.val (.lst (l.map ptD))) .un .un hp l hl
    have e2 := be_lc (.val a) (.val (.lst (l.map ptD))) (.own false (.lst ((l.filter fun q => lt q p).map ptD))) .un hp l hl
    unfold sbody
    simp only [↓v_onS, ↓v_bnd, ↓v_ret, ↓v_stk, ↓v_lf, ↓v_rv, ↓v_var, ↓v_pk, ↓v_mov, ↓v_cst, ↓v_ops2, ↓v_ops1, ↓v_bin, ↓v_sub, ↓v_cmp, ↓v_un, ↓v_asV, ↓v_and, ↓v_or, ↓v_not, ↓v_if, ↓v_andV, ↓v_orV, ↓v_notV, ↓v_tst, ↓v_args0, ↓v_args1, ↓v_rvs0, ↓v_rvs1, ↓v_tup, ↓v_lst, ↓v_callB, ↓v_seq, ↓v_nx, ↓v_drop, ↓v_retM, ↓v_sto, ↓v_set, ↓v_att, ↓v_part0, ↓v_part1, ↓v_sli, ↓v_unp, ↓v_par, ↓v_seqI, ↓v_onVl, ↓v_rng, ↓v_for, ↓v_lc, ↓v_yes, ↓v_mth, ↓v_mut, ↓v_call, ↓v_meth, ↓v_cmet, ↓v_make, ↓v_makT, ↓v_makL, ↓v_callT, ↓v_six, ↓v_fld, ↓v_isi, ↓v_rs0, ↓v_try, ↓v_ise, ↓v_chn, ↓v_fmt, ↓v_lit, ↓v_cat0, ↓v_cat1, ↓v_fst, ↓v_ite, ↓reduceIte, fz, vlsO, vlO, sto1, bindAll, bind1, bindT, List.getElem?_cons_zero, List.getElem?_cons_succ, List.set_cons_zero, List.set_cons_succ, Option.map_some, Option.map_none, Option.bind_some, Option.bind_none, isTup, picks_1, picks_2, picks_21, resO, pks, putB, setO, List.nodup_cons, List.nodup_nil, List.not_mem_nil, not_false_eq_true, and_true, List.map_nil, List.map_cons, List.append_nil, List.cons_append, List.nil_append, isIns, isCls, BEq.rfl, capN, capS, Bool.false_eq_true, Bool.not_true, Bool.not_false, seqDL, c1, notOwn, List.all_cons, List.all_nil, Bool.and_self, and_self, wipeS, List.foldr_cons, List.foldr_nil, backS, e1, e2, a1, a2]
  · refine ⟨_, [.val a, .own false (.lst ((ins2 l p).map ptD)), .val (ptD p), .own false (.lst ((l.filter fun q => lt q p).map ptD)), .un, .own false (.lst ((l.filter fun q => lt p q).map ptD))], rfl, ?_, .inr ⟨_, _, _, rfl⟩⟩
    have e1 := ah_lc (.val a) (.val (.lst (l.map ptD))) (.own false d3) (.own false d5) hp l hl
    have e2 := be_lc (.val a) (.val (.lst (l.map ptD))) (.own false (.lst ((l.filter fun q => lt q p).map ptD))) (.own false d5) hp l hl
    unfold sbody
    simp only [↓v_onS, ↓v_bnd, ↓v_ret, ↓v_stk, ↓v_lf, ↓v_rv, ↓v_var, ↓v_pk, ↓v_mov, ↓v_cst, ↓v_ops2, ↓v_ops1, ↓v_bin, ↓v_sub, ↓v_cmp, ↓v_un, ↓v_asV, ↓v_and, ↓v_or, ↓v_not, ↓v_if, ↓v_andV, ↓v_orV, ↓v_notV, ↓v_tst, ↓v_args0, ↓v_args1, ↓v_rvs0, ↓v_rvs1, ↓v_tup, ↓v_lst, ↓v_callB, ↓v_seq, ↓v_nx, ↓v_drop, ↓v_retM, ↓v_sto, ↓v_set, ↓v_att, ↓v_part0, ↓v_part1, ↓v_sli, ↓v_unp, ↓v_par, ↓v_seqI, ↓v_onVl, ↓v_rng, ↓v_for, ↓v_lc, ↓v_yes, ↓v_mth, ↓v_mut, ↓v_call, ↓v_meth, ↓v_cmet, ↓v_make, ↓v_makT, ↓v_makL, ↓v_callT, ↓v_six, ↓v_fld, ↓v_isi, ↓v_rs0, ↓v_try, ↓v_ise, ↓v_chn, ↓v_fmt, ↓v_lit, ↓v_cat0, ↓v_cat1, ↓v_fst, ↓v_ite, ↓reduceIte, fz, vlsO, vlO, sto1, bindAll, bind1, bindT, List.getElem?_cons_zero, List.getElem?_cons_succ, List.set_cons_zero, List.set_cons_succ, Option.map_some, Option.map_none, Option.bind_some, Option.bind_none, isTup, picks_1, picks_2, picks_21, resO, pks, putB, setO, List.nodup_cons, List.nodup_nil, List.not_mem_nil, not_false_eq_true, and_true, List.map_nil, List.map_cons, List.append_nil, List.cons_append, List.nil_append, isIns, isCls, BEq.rfl, capN, capS, Bool.false_eq_true, Bool.not_true, Bool.not_false, seqDL, c1, notOwn, List.all_cons, List.all_nil, Bool.and_self, and_self, wipeS, List.foldr_cons, List.foldr_nil, backS, e1, e2, a1, a2]
theorem loopS {a : D} : ∀ (ps l : List (Int × Int)) (st : Sl), FrS a l st → Pqs l → Pqs ps → Srt l → l.length + ps.length ≤ 1000 →
    ∃ m st', forD (Tg.nm 2) sbody (ps.map ptD) st = .ok .nx st' ∧ FrS a m st' ∧ Pqs m ∧ Srt m ∧ m.length ≤ l.length + ps.length ∧ ∀ x, x ∈ m.map frD ↔ x ∈ l.map frD ∨ x ∈ ps.map frD
  | [], l, st, h, hl, _, s, _ => ⟨l, st, rfl, h, hl, s, by simp, fun x => by simp⟩
  | p :: ps, l, st, h, hl, hps, s, hn => by
    have hp := hps p (List.mem_cons_self ..)
    have il := ins2_len l p
    rw [List.length_cons] at hn
    obtain ⟨st1, st2, e1, e2, h2⟩ := stepS (p := p) h hl hp (by omega)
    obtain ⟨m, st', e3, h3, k1, k2, k3, k4⟩ := loopS ps (ins2 l p) st2 h2 (ins2_pq hl hp) (fun x hx => hps x (List.mem_cons_of_mem _ hx)) (ins2_srt hl hp s) (by omega)
    refine ⟨m, st', ?_, h3, k1, k2, by rw [List.length_cons]; omega, fun x => ?_⟩
    · rw [List.map_cons]
      unfold forD
      rw [e1]
      simp only [e2]
      exact e3
    · rw [k4 x, ins2_mem hl hp, List.map_cons, List.mem_cons]
      constructor
      · rintro ((h | h) | h)
        · exact .inl h
        · exact .inr (.inl h)
        · exact .inr (.inr h)
      · rintro (h | h | h)
        · exact .inl (.inl h)
        · exact .inl (.inr h)
        · exact .inr h
theorem sorted_ok {ps : List (Int × Int)} (h : Pqs ps) (hn : ps.length ≤ 1000) : ∃ m, p__law_sorted [.lst (ps.map ptD)] = .ok true (.lst (m.map ptD)) [] ∧ Pqs m ∧ Srt m ∧ m.length ≤ ps.length ∧ ∀ x, x ∈ m.map frD ↔ x ∈ ps.map frD := by
  obtain ⟨m, st', e, f, k1, k2, k3, k4⟩ := loopS (a := .lst (ps.map ptD)) ps [] [.val (.lst (ps.map ptD)), .own false (.lst []), .un, .un, .un, .un] (.inl rfl) (fun _ h => nomatch h) h .nil (by simpa using hn)
  refine ⟨m, ?_, k1, k2, by simpa using k3, fun x => by simpa using k4 x⟩
  unfold p__law_sorted
  rw [fnOf_eq _ _ _ _ rfl]
  show finF _ ((seqM (setM 1 (lstM [])) (seqM (forM (Tg.nm 2) (seqI (var 0)) sbody) (retM (mov 1)))) [.val (.lst (ps.map ptD)), .un, .un, .un, .un, .un]) = _
  rcases f with rfl | ⟨d2, d3, d5, rfl⟩ <;> simp only [↓v_onS, ↓v_bnd, ↓v_ret, ↓v_stk, ↓v_lf, ↓v_rv, ↓v_var, ↓v_pk, ↓v_mov, ↓v_cst, ↓v_ops2, ↓v_ops1, ↓v_bin, ↓v_sub, ↓v_cmp, ↓v_un, ↓v_asV, ↓v_and, ↓v_or, ↓v_not, ↓v_if, ↓v_andV, ↓v_orV, ↓v_notV, ↓v_tst, ↓v_args0, ↓v_args1, ↓v_rvs0, ↓v_rvs1, ↓v_tup, ↓v_lst, ↓v_callB, ↓v_seq, ↓v_nx, ↓v_drop, ↓v_retM, ↓v_sto, ↓v_set, ↓v_att, ↓v_part0, ↓v_part1, ↓v_sli, ↓v_unp, ↓v_par, ↓v_seqI, ↓v_onVl, ↓v_rng, ↓v_for, ↓v_lc, ↓v_yes, ↓v_mth, ↓v_mut, ↓v_call, ↓v_meth, ↓v_cmet, ↓v_make, ↓v_makT, ↓v_makL, ↓v_callT, ↓v_six, ↓v_fld, ↓v_isi, ↓v_rs0, ↓v_try, ↓v_ise, ↓v_chn, ↓v_fmt, ↓v_lit, ↓v_cat0, ↓v_cat1, ↓v_fst, ↓v_ite, ↓reduceIte, fz, vlsO, vlO, sto1, bindAll, bind1, bindT, List.getElem?_cons_zero, List.getElem?_cons_succ, List.set_cons_zero, List.set_cons_succ, Option.map_some, Option.map_none, Option.bind_some, Option.bind_none, isTup, picks_1, picks_2, picks_21, resO, pks, putB, setO, List.nodup_cons, List.nodup_nil, List.not_mem_nil, not_false_eq_true, and_true, List.map_nil, List.map_cons, List.append_nil, List.cons_append, List.nil_append, isIns, isCls, BEq.rfl, capN, capS, Bool.false_eq_true, Bool.not_true, Bool.not_false, seqDL, e, finF, outsO]
end Fw
end

section
set_option maxRecDepth 100000
set_option maxHeartbeats 4000000
namespace Fw
open PySem L2 SX
theorem isIns_fr (p : Int × Int) : isIns 2 (frD p) = true := rfl
theorem isTup_fr (p : Int × Int) : isTup (frD p) = false := rfl
theorem tup_lst (ds : List D) : isTup (.lst ds) = false := rfl
theorem lenF_L (ds : List D) : lenF [.lst ds] = some (.vl (.int ds.length)) := rfl
theorem getfr {l : List (Int × Int)} {k : Nat} {q : Int × Int} (h : l[k]? = some q) : subD (.lst (l.map frD)) (.int (k : Int)) = some (.vl (frD q)) := subL (by rw [List.getElem?_map, h] <;> rfl)
def acond : M Bool := (andM (cmp (cmpI fun i j => decide (i < j)) (pk 4) (callB lenF [(pk 1)])) (tst (methP 2 [false, false] p_Ratio_under [0, 1] [] (subM (pk 1) (pk 4)) [(var 3)])))
def astep : M Flw := (augM 4 iaddD (cst (.int 1)))
def Sl3 (p : Int × Int) (s : Slot) : Prop := s = .own false (frD p) ∨ s = .val (frD p)
theorem v_aug (i : Nat) (f : D → D → Option T1) (m : M T1) (st : Sl) : augM i f m st = M.bnd (pk i) (fun x => M.bnd m fun y => M.bnd (rv x) fun dx => M.bnd (rv y) fun dy => M.bnd (lf (f dx dy)) fun t => stoM i t) st := rfl
theorem aloop {x0 x2 : Slot} {p : Int × Int} (hp : Pq p) : ∀ (n : Nat) (a b : List (Int × Int)) (s3 : Slot), Sl3 p s3 → Pqs (a ++ b) → (∀ x ∈ a, lt x p = true) → b.length < n →
    ∃ a' b' s3', a' ++ b' = a ++ b ∧ (∀ x ∈ a', lt x p = true) ∧ (b' = [] ∨ ∃ q r, b' = q :: r ∧ lt q p = false) ∧ Sl3 p s3' ∧
      whlD acond astep n [x0, .own false (.lst ((a ++ b).map frD)), x2, s3, .val (.int (a.length : Int))] = .ok .nx [x0, .own false (.lst ((a ++ b).map frD)), x2, s3', .val (.int (a'.length : Int))]
  | 0, a, b, s3, _, _, _, h => absurd h (Nat.not_lt_zero _)
  | n + 1, a, [], s3, h3, hl, ha, h => by
    refine ⟨a, [], s3, rfl, ha, .inl rfl, h3, ?_⟩
    have c : ¬ ((a.length : Int) < (((a ++ []).map frD).length : Int)) := by
      rw [List.length_map, List.append_nil]; omega
    unfold whlD acond
    generalize (a ++ []).map frD = L at *
    simp only [↓v_onS, ↓v_bnd, ↓v_ret, ↓v_stk, ↓v_lf, ↓v_rv, ↓v_var, ↓v_pk, ↓v_mov, ↓v_cst, ↓v_ops2, ↓v_ops1, ↓v_bin, ↓v_sub, ↓v_cmp, ↓v_un, ↓v_asV, ↓v_and, ↓v_or, ↓v_not, ↓v_if, ↓v_andV, ↓v_orV, ↓v_notV, ↓v_tst, ↓v_args0, ↓v_args1, ↓v_rvs0, ↓v_rvs1, ↓v_tup, ↓v_lst, ↓v_callB, ↓v_seq, ↓v_nx, ↓v_drop, ↓v_retM, ↓v_sto, ↓v_set, ↓v_att, ↓v_part0, ↓v_part1, ↓v_sli, ↓v_unp, ↓v_par, ↓v_seqI, ↓v_onVl, ↓v_rng, ↓v_for, ↓v_lc, ↓v_yes, ↓v_mth, ↓v_mut, ↓v_call, ↓v_meth, ↓v_cmet, ↓v_make, ↓v_makT, ↓v_makL, ↓v_callT, ↓v_six, ↓v_fld, ↓v_isi, ↓v_rs0, ↓v_try, ↓v_ise, ↓v_chn, ↓v_fmt, ↓v_lit, ↓v_cat0, ↓v_cat1, ↓v_fst, ↓v_ite, ↓reduceIte, fz, vlsO, vlO, sto1, bindAll, bind1, bindT, List.getElem?_cons_zero, List.getElem?_cons_succ, List.set_cons_zero, List.set_cons_succ, Option.map_some, Option.map_none, Option.bind_some, Option.bind_none, tup_lst, isTup_fr, picks_1, picks_2, picks_21, resO, pks, putB, setO, List.nodup_cons, List.nodup_nil, List.not_mem_nil, not_false_eq_true, and_true, List.map_nil, List.map_cons, List.append_nil, List.cons_append, List.nil_append, isIns_fr, isCls, BEq.rfl, capN, capS, Bool.false_eq_true, Bool.not_true, Bool.not_false, lenF_L, cmpI, c, decide_false]
  | n + 1, a, q :: b, s3, h3, hl, ha, h => by
    have hq := hl q (by simp)
    have c : (a.length : Int) < (((a ++ q :: b).map frD).length : Int) := by
      rw [List.length_map, List.length_append, List.length_cons]; omega
    have g : (a ++ q :: b)[a.length]? = some q := by simp
    have gs := getfr g
    have u := under_ok hq hp
    cases hc : lt q p with
    | false =>
      rw [hc] at u
      refine ⟨a, q :: b, .val (frD p), rfl, ha, .inr ⟨q, b, rfl, hc⟩, .inr rfl, ?_⟩
      unfold whlD acond
      generalize (a ++ q :: b).map frD = L at *
      rcases h3 with rfl | rfl <;> simp only [↓v_onS, ↓v_bnd, ↓v_ret, ↓v_stk, ↓v_lf, ↓v_rv, ↓v_var, ↓v_pk, ↓v_mov, ↓v_cst, ↓v_ops2, ↓v_ops1, ↓v_bin, ↓v_sub, ↓v_cmp, ↓v_un, ↓v_asV, ↓v_and, ↓v_or, ↓v_not, ↓v_if, ↓v_andV, ↓v_orV, ↓v_notV, ↓v_tst, ↓v_args0, ↓v_args1, ↓v_rvs0, ↓v_rvs1, ↓v_tup, ↓v_lst, ↓v_callB, ↓v_seq, ↓v_nx, ↓v_drop, ↓v_retM, ↓v_sto, ↓v_set, ↓v_att, ↓v_part0, ↓v_part1, ↓v_sli, ↓v_unp, ↓v_par, ↓v_seqI, ↓v_onVl, ↓v_rng, ↓v_for, ↓v_lc, ↓v_yes, ↓v_mth, ↓v_mut, ↓v_call, ↓v_meth, ↓v_cmet, ↓v_make, ↓v_makT, ↓v_makL, ↓v_callT, ↓v_six, ↓v_fld, ↓v_isi, ↓v_rs0, ↓v_try, ↓v_ise, ↓v_chn, ↓v_fmt, ↓v_lit, ↓v_cat0, ↓v_cat1, ↓v_fst, ↓v_ite, ↓reduceIte, fz, vlsO, vlO, sto1, bindAll, bind1, bindT, List.getElem?_cons_zero, List.getElem?_cons_succ, List.set_cons_zero, List.set_cons_succ, Option.map_some, Option.map_none, Option.bind_some, Option.bind_none, tup_lst, isTup_fr, picks_1, picks_2, picks_21, resO, pks, putB, setO, List.nodup_cons, List.nodup_nil, List.not_mem_nil, not_false_eq_true, and_true, List.map_nil, List.map_cons, List.append_nil, List.cons_append, List.nil_append, isIns_fr, isCls, BEq.rfl, capN, capS, Bool.false_eq_true, Bool.not_true, Bool.not_false, lenF_L, cmpI, c, decide_true, gs, u, truD]
    | true =>
      rw [hc] at u
      obtain ⟨a', b', s3', e1, e2, e3, e4, e5⟩ := aloop hp (x0 := x0) (x2 := x2) n (a ++ [q]) b (.val (frD p)) (.inr rfl) (by rw [List.append_assoc]; exact hl) (fun x hx => by
        rcases List.mem_append.mp hx with hx | hx
        · exact ha x hx
        · rw [List.mem_singleton.mp hx]; exact hc) (by rw [List.length_cons] at h; omega)
      have eq : (a ++ [q]) ++ b = a ++ q :: b := by rw [List.append_assoc] <;> rfl
      rw [eq] at e1 e5
      rw [List.length_append, List.length_singleton] at e5
      have cst1 : iaddD (.int (a.length : Int)) (.int 1) = some (.vl (.int ((a.length + 1 : Nat) : Int))) := rfl
      refine ⟨a', b', s3', e1, e2, e3, e4, ?_⟩
      unfold whlD acond astep
      unfold acond astep at e5
      generalize (a ++ q :: b).map frD = L at *
      rcases h3 with rfl | rfl <;> simp only [↓v_onS, ↓v_bnd, ↓v_ret, ↓v_stk, ↓v_lf, ↓v_rv, ↓v_var, ↓v_pk, ↓v_mov, ↓v_cst, ↓v_ops2, ↓v_ops1, ↓v_bin, ↓v_sub, ↓v_cmp, ↓v_un, ↓v_asV, ↓v_and, ↓v_or, ↓v_not, ↓v_if, ↓v_andV, ↓v_orV, ↓v_notV, ↓v_tst, ↓v_args0, ↓v_args1, ↓v_rvs0, ↓v_rvs1, ↓v_tup, ↓v_lst, ↓v_callB, ↓v_seq, ↓v_nx, ↓v_drop, ↓v_retM, ↓v_sto, ↓v_set, ↓v_att, ↓v_part0, ↓v_part1, ↓v_sli, ↓v_unp, ↓v_par, ↓v_seqI, ↓v_onVl, ↓v_rng, ↓v_for, ↓v_lc, ↓v_yes, ↓v_mth, ↓v_mut, ↓v_call, ↓v_meth, ↓v_cmet, ↓v_make, ↓v_makT, ↓v_makL, ↓v_callT, ↓v_six, ↓v_fld, ↓v_isi, ↓v_rs0, ↓v_try, ↓v_ise, ↓v_chn, ↓v_fmt, ↓v_lit, ↓v_cat0, ↓v_cat1, ↓v_fst, ↓v_ite, ↓reduceIte, fz, vlsO, vlO, sto1, bindAll, bind1, bindT, List.getElem?_cons_zero, List.getElem?_cons_succ, List.set_cons_zero, List.set_cons_succ, Option.map_some, Option.map_none, Option.bind_some, Option.bind_none, tup_lst, isTup_fr, picks_1, picks_2, picks_21, resO, pks, putB, setO, List.nodup_cons, List.nodup_nil, List.not_mem_nil, not_false_eq_true, and_true, List.map_nil, List.map_cons, List.append_nil, List.cons_append, List.nil_append, isIns_fr, isCls, BEq.rfl, capN, capS, Bool.false_eq_true, Bool.not_true, Bool.not_false, v_aug, lenF_L, cmpI, c, decide_true, gs, u, truD, cst1, e5]
end Fw
end

section
set_option maxRecDepth 100000
set_option maxHeartbeats 4000000
namespace Fw
open PySem L2 SX
theorem sto_fr (i : Nat) (st : Sl) (p : Int × Int) : sto1 i st (.fr (frD p)) = .ok .nx (st.set i (Slot.own false (frD p))) := rfl
theorem sto_vl (i : Nat) (st : Sl) (d : D) : sto1 i st (.vl d) = .ok .nx (st.set i (Slot.val d)) := rfl
theorem sto_L (i : Nat) (st : Sl) (ds : List D) : sto1 i st (.fr (.lst ds)) = .ok .nx (st.set i (Slot.own false (.lst ds))) := rfl
theorem asc_head {x0 s3 s4 : Slot} {L d : D} {p : Int × Int} (hd : Nm p d) (h3 : s3 = .un ∨ ∃ q, Sl3 q s3) (h4 : s4 = .un ∨ ∃ e, s4 = .val e) (m : M Flw) : ∃ s3', Sl3 p s3' ∧ (seqM (setM 3 (cmetP 2 [false, false] p_Ratio_of [0, 1] [] (cst (.cls 2)) [(var 2)])) (seqM (setM 4 (cst (.int 0))) m)) [x0, .own false L, .val d, s3, s4] = m [x0, .own false L, .val d, s3', .val (.int 0)] := by
  obtain ⟨b, e⟩ := of_ok hd
  cases b with
  | true =>
    refine ⟨.own false (frD p), .inl rfl, ?_⟩
    rcases h3 with rfl | ⟨q, rfl | rfl⟩ <;> rcases h4 with rfl | ⟨_, rfl⟩ <;> simp only [↓v_onS, ↓v_bnd, ↓v_ret, ↓v_stk, ↓v_lf, ↓v_rv, ↓v_var, ↓v_pk, ↓v_mov, ↓v_cst, ↓v_ops2, ↓v_ops1, ↓v_bin, ↓v_sub, ↓v_cmp, ↓v_un, ↓v_asV, ↓v_and, ↓v_or, ↓v_not, ↓v_if, ↓v_andV, ↓v_orV, ↓v_notV, ↓v_tst, ↓v_args0, ↓v_args1, ↓v_rvs0, ↓v_rvs1, ↓v_tup, ↓v_lst, ↓v_callB, ↓v_seq, ↓v_nx, ↓v_drop, ↓v_retM, ↓v_sto, ↓v_set, ↓v_att, ↓v_part0, ↓v_part1, ↓v_sli, ↓v_unp, ↓v_par, ↓v_seqI, ↓v_onVl, ↓v_rng, ↓v_for, ↓v_lc, ↓v_yes, ↓v_mth, ↓v_mut, ↓v_call, ↓v_meth, ↓v_cmet, ↓v_make, ↓v_makT, ↓v_makL, ↓v_callT, ↓v_six, ↓v_fld, ↓v_isi, ↓v_rs0, ↓v_try, ↓v_ise, ↓v_chn, ↓v_fmt, ↓v_lit, ↓v_cat0, ↓v_cat1, ↓v_fst, ↓v_ite, ↓reduceIte, fz, vlsO, vlO, sto_vl, sto_fr, sto_L, bindAll, bind1, bindT, List.getElem?_cons_zero, List.getElem?_cons_succ, List.set_cons_zero, List.set_cons_succ, Option.map_some, Option.map_none, Option.bind_some, Option.bind_none, tup_lst, isTup_fr, picks_1, picks_2, picks_21, resO, pks, putB, setO, List.nodup_cons, List.nodup_nil, List.not_mem_nil, not_false_eq_true, and_true, List.map_nil, List.map_cons, List.append_nil, List.cons_append, List.nil_append, isIns_fr, isCls, BEq.rfl, capN, capS, Bool.false_eq_true, Bool.not_true, Bool.not_false, e, sto_fr]
  | false =>
    refine ⟨.val (frD p), .inr rfl, ?_⟩
    rcases h3 with rfl | ⟨q, rfl | rfl⟩ <;> rcases h4 with rfl | ⟨_, rfl⟩ <;> simp only [↓v_onS, ↓v_bnd, ↓v_ret, ↓v_stk, ↓v_lf, ↓v_rv, ↓v_var, ↓v_pk, ↓v_mov, ↓v_cst, ↓v_ops2, ↓v_ops1, ↓v_bin, ↓v_sub, ↓v_cmp, ↓v_un, ↓v_asV, ↓v_and, ↓v_or, ↓v_not, ↓v_if, ↓v_andV, ↓v_orV, ↓v_notV, ↓v_tst, ↓v_args0, ↓v_args1, ↓v_rvs0, ↓v_rvs1, ↓v_tup, ↓v_lst, ↓v_callB, ↓v_seq, ↓v_nx, ↓v_drop, ↓v_retM, ↓v_sto, ↓v_set, ↓v_att, ↓v_part0, ↓v_part1, ↓v_sli, ↓v_unp, ↓v_par, ↓v_seqI, ↓v_onVl, ↓v_rng, ↓v_for, ↓v_lc, ↓v_yes, ↓v_mth, ↓v_mut, ↓v_call, ↓v_meth, ↓v_cmet, ↓v_make, ↓v_makT, ↓v_makL, ↓v_callT, ↓v_six, ↓v_fld, ↓v_isi, ↓v_rs0, ↓v_try, ↓v_ise, ↓v_chn, ↓v_fmt, ↓v_lit, ↓v_cat0, ↓v_cat1, ↓v_fst, ↓v_ite, ↓reduceIte, fz, vlsO, vlO, sto_vl, sto_fr, sto_L, bindAll, bind1, bindT, List.getElem?_cons_zero, List.getElem?_cons_succ, List.set_cons_zero, List.set_cons_succ, Option.map_some, Option.map_none, Option.bind_some, Option.bind_none, tup_lst, isTup_fr, picks_1, picks_2, picks_21, resO, pks, putB, setO, List.nodup_cons, List.nodup_nil, List.not_mem_nil, not_false_eq_true, and_true, List.map_nil, List.map_cons, List.append_nil, List.cons_append, List.nil_append, isIns_fr, isCls, BEq.rfl, capN, capS, Bool.false_eq_true, Bool.not_true, Bool.not_false, e]
def atail : M Flw := (ifM (orM (cmp eqD (pk 4) (callB lenF [(pk 1)])) (tst (methP 2 [false, false] p_Ratio_under [0, 1] [] (var 3) [(subM (pk 1) (pk 4))])))
    (dropM (mutM 1 "list" insD [(var 4), (var 3)])) nxM)
theorem ins_ok {a b : List (Int × Int)} {p : Int × Int} (h : (a ++ b).length ≤ 1000) : insD (.lst ((a ++ b).map frD)) [.int (a.length : Int), frD p] = some (.lst ((a ++ [p] ++ b).map frD), .non) := by
  have hl : a.length ≤ 1000 := by rw [List.length_append] at h; omega
  have c : ((a ++ b).map frD).length ≤ 1000000 ∧ (0 : Int) ≤ (a.length : Int) ∧ (a.length : Int) < 2 ^ 63 := ⟨by rw [List.length_map]; omega, by omega, by omega⟩
  show (if ((a ++ b).map frD).length ≤ 1000000 ∧ (0 : Int) ≤ (a.length : Int) ∧ (a.length : Int) < 2 ^ 63 then some (D.lst (((a ++ b).map frD).take (a.length : Int).toNat ++ [frD p] ++ ((a ++ b).map frD).drop (a.length : Int).toNat), D.non) else none) = _
  rw [if_pos c, Int.toNat_natCast, List.map_append]
  have e1 : (a.map frD ++ b.map frD).take a.length = a.map frD := by
    have := List.take_left' (l₁ := a.map frD) (l₂ := b.map frD) (i := a.length) (by rw [List.length_map])
    exact this
  have e2 : (a.map frD ++ b.map frD).drop a.length = b.map frD := by
    have := List.drop_left' (l₁ := a.map frD) (l₂ := b.map frD) (i := a.length) (by rw [List.length_map])
    exact this
  rw [e1, e2, List.map_append, List.map_append] <;> rfl
theorem asc_tail {x0 x2 s3 : Slot} {p : Int × Int} {a b : List (Int × Int)} (hp : Pq p) (h3 : Sl3 p s3) (hl : Pqs (a ++ b)) (s : Srt (a ++ b)) (ha : ∀ x ∈ a, lt x p = true) (hb : b = [] ∨ ∃ q r, b = q :: r ∧ lt q p = false) (hn : (a ++ b).length ≤ 1000) :
    ∃ m s3' e4, Sl3 p s3' ∧ atail [x0, .own false (.lst ((a ++ b).map frD)), x2, s3, .val (.int (a.length : Int))] = .ok .nx [x0, .own false (.lst (m.map frD)), x2, s3', .val e4] ∧ Pqs m ∧ Srt m ∧ m.length ≤ (a ++ b).length + 1 ∧ ∀ x, x ∈ m.map frD ↔ x ∈ (a ++ b).map frD ∨ x = frD p := by
  have io := ins_ok (p := p) hn
  have lf : lenF [.lst ((a ++ b).map frD)] = some (.vl (.int ((a ++ b).length : Int))) := by rw [lenF_L, List.length_map]
  have tyl : tyD "list" (.lst ((a ++ b).map frD)) = true := rfl
  have pqm : Pqs (a ++ [p] ++ b) := fun x hx => by
    simp only [List.mem_append, List.mem_singleton] at hx
    rcases hx with (hx | rfl) | hx
    · exact hl x (by simp [hx])
    · exact hp
    · exact hl x (by simp [hx])
  have mm : ∀ x, x ∈ (a ++ [p] ++ b).map frD ↔ x ∈ (a ++ b).map frD ∨ x = frD p := fun x => by
    simp only [List.map_append, List.mem_append, List.map_cons, List.map_nil, List.mem_singleton]
    constructor
    · rintro ((h | h) | h)
      · exact .inl (.inl h)
      · exact .inr h
      · exact .inl (.inr h)
    · rintro ((h | h) | h)
      · exact .inl (.inl h)
      · exact .inr h
      · exact .inl (.inr h)
  have lm : (a ++ [p] ++ b).length ≤ (a ++ b).length + 1 := by simp only [List.length_append, List.length_singleton]; omega
  have s' := List.pairwise_append.mp s
  rcases hb with rfl | ⟨q, r, rfl, hq⟩
  · have c : ((a.length : Int) == ((a ++ []).length : Int)) = true := by rw [List.append_nil]; exact beq_self_eq_true _
    have sm : Srt (a ++ [p] ++ []) := by
      rw [List.append_nil]
      refine List.pairwise_append.mpr ⟨s'.1, List.pairwise_singleton _ _, fun x hx y hy => ?_⟩
      rw [List.mem_singleton.mp hy]
      exact ha x hx
    refine ⟨a ++ [p] ++ [], .val (frD p), .int (a.length : Int), .inr rfl, ?_, pqm, sm, lm, mm⟩
    unfold atail
    generalize (a ++ []).map frD = L at *
    generalize (a ++ [p] ++ []).map frD = L' at *
    rcases h3 with rfl | rfl <;> simp only [↓v_onS, ↓v_bnd, ↓v_ret, ↓v_stk, ↓v_lf, ↓v_rv, ↓v_var, ↓v_pk, ↓v_mov, ↓v_cst, ↓v_ops2, ↓v_ops1, ↓v_bin, ↓v_sub, ↓v_cmp, ↓v_un, ↓v_asV, ↓v_and, ↓v_or, ↓v_not, ↓v_if, ↓v_andV, ↓v_orV, ↓v_notV, ↓v_tst, ↓v_args0, ↓v_args1, ↓v_rvs0, ↓v_rvs1, ↓v_tup, ↓v_lst, ↓v_callB, ↓v_seq, ↓v_nx, ↓v_drop, ↓v_retM, ↓v_sto, ↓v_set, ↓v_att, ↓v_part0, ↓v_part1, ↓v_sli, ↓v_unp, ↓v_par, ↓v_seqI, ↓v_onVl, ↓v_rng, ↓v_for, ↓v_lc, ↓v_yes, ↓v_mth, ↓v_mut, ↓v_call, ↓v_meth, ↓v_cmet, ↓v_make, ↓v_makT, ↓v_makL, ↓v_callT, ↓v_six, ↓v_fld, ↓v_isi, ↓v_rs0, ↓v_try, ↓v_ise, ↓v_chn, ↓v_fmt, ↓v_lit, ↓v_cat0, ↓v_cat1, ↓v_fst, ↓v_ite, ↓reduceIte, fz, vlsO, vlO, sto_vl, sto_fr, sto_L, bindAll, bind1, bindT, List.getElem?_cons_zero, List.getElem?_cons_succ, List.set_cons_zero, List.set_cons_succ, Option.map_some, Option.map_none, Option.bind_some, Option.bind_none, tup_lst, isTup_fr, picks_1, picks_2, picks_21, resO, pks, putB, setO, List.nodup_cons, List.nodup_nil, List.not_mem_nil, not_false_eq_true, and_true, List.map_nil, List.map_cons, List.append_nil, List.cons_append, List.nil_append, isIns_fr, isCls, BEq.rfl, capN, capS, Bool.false_eq_true, Bool.not_true, Bool.not_false, lf, eqD_int, c, io, tyl]
  · have c : ((a.length : Int) == ((a ++ q :: r).length : Int)) = false := beq_false_of_ne (by rw [List.length_append, List.length_cons]; omega)
    have hq' := hl q (by simp)
    have u := under_ok hp hq'
    have g : (a ++ q :: r)[a.length]? = some q := by simp
    have gs := getfr g
    cases hc : lt p q with
    | true =>
      rw [hc] at u
      have sm : Srt (a ++ [p] ++ q :: r) := by
        rw [List.append_assoc]
        refine List.pairwise_append.mpr ⟨s'.1, List.pairwise_cons.mpr ⟨fun x hx => ?_, s'.2.1⟩, fun x hx y hy => ?_⟩
        · rcases List.mem_cons.mp hx with rfl | hx'
          · exact hc
          · exact lt_trans hp hq' (hl x (by simp [hx'])) hc ((List.pairwise_cons.mp s'.2.1).1 x hx')
        · rcases List.mem_cons.mp hy with rfl | hy
          · exact ha x hx
          · exact s'.2.2 x hx y hy
      refine ⟨a ++ [p] ++ q :: r, .val (frD p), .int (a.length : Int), .inr rfl, ?_, pqm, sm, lm, mm⟩
      unfold atail
      generalize (a ++ q :: r).map frD = L at *
      generalize (a ++ [p] ++ q :: r).map frD = L' at *
      rcases h3 with rfl | rfl <;> simp only [↓v_onS, ↓v_bnd, ↓v_ret, ↓v_stk, ↓v_lf, ↓v_rv, ↓v_var, ↓v_pk, ↓v_mov, ↓v_cst, ↓v_ops2, ↓v_ops1, ↓v_bin, ↓v_sub, ↓v_cmp, ↓v_un, ↓v_asV, ↓v_and, ↓v_or, ↓v_not, ↓v_if, ↓v_andV, ↓v_orV, ↓v_notV, ↓v_tst, ↓v_args0, ↓v_args1, ↓v_rvs0, ↓v_rvs1, ↓v_tup, ↓v_lst, ↓v_callB, ↓v_seq, ↓v_nx, ↓v_drop, ↓v_retM, ↓v_sto, ↓v_set, ↓v_att, ↓v_part0, ↓v_part1, ↓v_sli, ↓v_unp, ↓v_par, ↓v_seqI, ↓v_onVl, ↓v_rng, ↓v_for, ↓v_lc, ↓v_yes, ↓v_mth, ↓v_mut, ↓v_call, ↓v_meth, ↓v_cmet, ↓v_make, ↓v_makT, ↓v_makL, ↓v_callT, ↓v_six, ↓v_fld, ↓v_isi, ↓v_rs0, ↓v_try, ↓v_ise, ↓v_chn, ↓v_fmt, ↓v_lit, ↓v_cat0, ↓v_cat1, ↓v_fst, ↓v_ite, ↓reduceIte, fz, vlsO, vlO, sto_vl, sto_fr, sto_L, bindAll, bind1, bindT, List.getElem?_cons_zero, List.getElem?_cons_succ, List.set_cons_zero, List.set_cons_succ, Option.map_some, Option.map_none, Option.bind_some, Option.bind_none, tup_lst, isTup_fr, picks_1, picks_2, picks_21, resO, pks, putB, setO, List.nodup_cons, List.nodup_nil, List.not_mem_nil, not_false_eq_true, and_true, List.map_nil, List.map_cons, List.append_nil, List.cons_append, List.nil_append, isIns_fr, isCls, BEq.rfl, capN, capS, Bool.false_eq_true, Bool.not_true, Bool.not_false, lf, eqD_int, c, io, tyl, gs, u, truD]
    | false =>
      rw [hc] at u
      refine ⟨a ++ q :: r, .val (frD p), .int (a.length : Int), .inr rfl, ?_, hl, s, by omega, fun x => ⟨.inl, fun h => ?_⟩⟩
      · unfold atail
        generalize (a ++ q :: r).map frD = L at *
        generalize (a ++ [p] ++ q :: r).map frD = L' at *
        rcases h3 with rfl | rfl <;> simp only [↓v_onS, ↓v_bnd, ↓v_ret, ↓v_stk, ↓v_lf, ↓v_rv, ↓v_var, ↓v_pk, ↓v_mov, ↓v_cst, ↓v_ops2, ↓v_ops1, ↓v_bin, ↓v_sub, ↓v_cmp, ↓v_un, ↓v_asV, ↓v_and, ↓v_or, ↓v_not, ↓v_if, ↓v_andV, ↓v_orV, ↓v_notV, ↓v_tst, ↓v_args0, ↓v_args1, ↓v_rvs0, ↓v_rvs1, ↓v_tup, ↓v_lst, ↓v_callB, ↓v_seq, ↓v_nx, ↓v_drop, ↓v_retM, ↓v_sto, ↓v_set, ↓v_att, ↓v_part0, ↓v_part1, ↓v_sli, ↓v_unp, ↓v_par, ↓v_seqI, ↓v_onVl, ↓v_rng, ↓v_for, ↓v_lc, ↓v_yes, ↓v_mth, ↓v_mut, ↓v_call, ↓v_meth, ↓v_cmet, ↓v_make, ↓v_makT, ↓v_makL, ↓v_callT, ↓v_six, ↓v_fld, ↓v_isi, ↓v_rs0, ↓v_try, ↓v_ise, ↓v_chn, ↓v_fmt, ↓v_lit, ↓v_cat0, ↓v_cat1, ↓v_fst, ↓v_ite, ↓reduceIte, fz, vlsO, vlO, sto_vl, sto_fr, sto_L, bindAll, bind1, bindT, List.getElem?_cons_zero, List.getElem?_cons_succ, List.set_cons_zero, List.set_cons_succ, Option.map_some, Option.map_none, Option.bind_some, Option.bind_none, tup_lst, isTup_fr, picks_1, picks_2, picks_21, resO, pks, putB, setO, List.nodup_cons, List.nodup_nil, List.not_mem_nil, not_false_eq_true, and_true, List.map_nil, List.map_cons, List.append_nil, List.cons_append, List.nil_append, isIns_fr, isCls, BEq.rfl, capN, capS, Bool.false_eq_true, Bool.not_true, Bool.not_false, lf, eqD_int, c, gs, u, truD]
      · rcases h with h | rfl
        · exact h
        · rw [fr_eq hp hq' hc hq]
          exact List.mem_map.mpr ⟨q, by simp, rfl⟩
/-- numbers that stand for parts -/
inductive Nms : List (Int × Int) → List D → Prop where
  | nil : Nms [] []
  | cons {p : Int × Int} {d : D} {ps : List (Int × Int)} {ds : List D} : Nm p d → Nms ps ds → Nms (p :: ps) (d :: ds)
theorem Nms.len : ∀ {ps : List (Int × Int)} {ds : List D}, Nms ps ds → ds.length = ps.length
  | [], _, .nil => rfl
  | _ :: _, _, .cons _ h => by rw [List.length_cons, List.length_cons, h.len]
theorem Nms.app : ∀ {ps qs : List (Int × Int)} {ds es : List D}, Nms ps ds → Nms qs es → Nms (ps ++ qs) (ds ++ es)
  | _, _, _, _, .nil, h => h
  | _, _, _, _, .cons a r, h => .cons a (r.app h)
theorem Nms.rev : ∀ {ps : List (Int × Int)} {ds : List D}, Nms ps ds → Nms ps.reverse ds.reverse
  | _, _, .nil => .nil
  | _, _, .cons a r => by
    rw [List.reverse_cons, List.reverse_cons]
    exact r.rev.app (.cons a .nil)
def abody : M Flw := (seqM (setM 3 (cmetP 2 [false, false] p_Ratio_of [0, 1] [] (cst (.cls 2)) [(var 2)]))
    (seqM (setM 4 (cst (.int 0)))
    (seqM (whlD acond astep 1000) atail)))
def FrA (a : D) (l : List (Int × Int)) (st : Sl) : Prop := ∃ s2 s3 s4 : Slot, (s2 = .un ∨ ∃ e, s2 = .val e) ∧ (s3 = .un ∨ ∃ q, Sl3 q s3) ∧ (s4 = .un ∨ ∃ e, s4 = .val e) ∧ st = [.val a, .own false (.lst (l.map frD)), s2, s3, s4]
theorem asc_loop {a : D} : ∀ {ps : List (Int × Int)} {ds : List D}, Nms ps ds → ∀ (l : List (Int × Int)) (st : Sl), FrA a l st → Pqs l → Pqs ps → Srt l → l.length + ps.length ≤ 900 →
    ∃ m st', forD (Tg.nm 2) abody ds st = .ok .nx st' ∧ FrA a m st' ∧ Pqs m ∧ Srt m ∧ ∀ x, x ∈ m.map frD ↔ x ∈ l.map frD ∨ x ∈ ps.map frD
  | _, _, .nil, l, st, h, hl, _, s, _ => ⟨l, st, rfl, h, hl, s, fun x => by simp⟩
  | _, _, .cons (p := p) (d := d) (ps := ps) (ds := ds) hd hr, l, st, h, hl, hps, s, hn => by
    have hp := hps p (List.mem_cons_self ..)
    rw [List.length_cons] at hn
    obtain ⟨s2, s3, s4, h2, h3, h4, rfl⟩ := h
    obtain ⟨t3, k3, eh⟩ := asc_head (x0 := .val a) (L := .lst (l.map frD)) hd h3 h4 (seqM (whlD acond astep 1000) atail)
    obtain ⟨a', b', u3, e1, e2, e3, e4, e5⟩ := aloop (x0 := .val a) (x2 := .val d) hp 1000 [] l t3 k3 hl (fun _ h => nomatch h) (by omega)
    rw [List.nil_append] at e1 e5
    subst e1
    obtain ⟨m, v3, w4, f1, f2, f3, f4, f5, f6⟩ := asc_tail (x0 := .val a) (x2 := .val d) hp e4 hl s e2 e3 (by omega)
    obtain ⟨m', st', g1, g2, g3, g4, g5⟩ := asc_loop hr m [.val a, .own false (.lst (m.map frD)), .val d, v3, .val w4] ⟨_, _, _, .inr ⟨_, rfl⟩, .inr ⟨_, f1⟩, .inr ⟨_, rfl⟩, rfl⟩ f3 (fun x hx => hps x (List.mem_cons_of_mem _ hx)) f4 (by omega)
    refine ⟨m', st', ?_, g2, g3, g4, fun x => ?_⟩
    · have eb : bindT (.nm 2) d [.val a, .own false (.lst ((a' ++ b').map frD)), s2, s3, s4] = some [.val a, .own false (.lst ((a' ++ b').map frD)), .val d, s3, s4] := by
        rcases h2 with rfl | ⟨_, rfl⟩ <;> rfl
      have ea : abody [.val a, .own false (.lst ((a' ++ b').map frD)), .val d, s3, s4] = .ok .nx [.val a, .own false (.lst (m.map frD)), .val d, v3, .val w4] := by
        unfold abody
        rw [eh, v_seq]
        have e5' : whlD acond astep 1000 [.val a, .own false (.lst ((a' ++ b').map frD)), .val d, t3, .val (.int 0)] = _ := e5
        rw [e5']
        exact f2
      unfold forD
      rw [eb]
      simp only [ea]
      exact g1
    · rw [g5 x, f6 x, List.map_cons, List.mem_cons]
      constructor
      · rintro ((h | h) | h)
        · exact .inl h
        · exact .inr (.inl h)
        · exact .inr (.inr h)
      · rintro (h | h | h)
        · exact .inl (.inl h)
        · exact .inl (.inr h)
        · exact .inr h
theorem asc_ok {ps : List (Int × Int)} {ds : List D} (h : Nms ps ds) (hps : Pqs ps) (hn : ps.length ≤ 800) : ∃ m, p_ascending [.lst ds] = .ok true (.lst (m.map frD)) [] ∧ Pqs m ∧ Srt m ∧ ∀ x, x ∈ m.map frD ↔ x ∈ ps.map frD := by
  obtain ⟨m, st', e, f, k1, k2, k3⟩ := asc_loop (a := .lst ds) h [] [.val (.lst ds), .own false (.lst []), .un, .un, .un] ⟨_, _, _, .inl rfl, .inl rfl, .inl rfl, rfl⟩ (fun _ h => nomatch h) hps .nil (by simpa using by omega)
  refine ⟨m, ?_, k1, k2, fun x => by simpa using k3 x⟩
  unfold p_ascending
  rw [fnOf_eq _ _ _ _ rfl]
  show finF _ ((seqM (setM 1 (lstM [])) (seqM (forM (Tg.nm 2) (seqI (var 0)) abody) (retM (mov 1)))) [.val (.lst ds), .un, .un, .un, .un]) = _
  obtain ⟨s2, s3, s4, _, _, _, rfl⟩ := f
  generalize m.map frD = L at *
  simp only [↓v_onS, ↓v_bnd, ↓v_ret, ↓v_stk, ↓v_lf, ↓v_rv, ↓v_var, ↓v_pk, ↓v_mov, ↓v_cst, ↓v_ops2, ↓v_ops1, ↓v_bin, ↓v_sub, ↓v_cmp, ↓v_un, ↓v_asV, ↓v_and, ↓v_or, ↓v_not, ↓v_if, ↓v_andV, ↓v_orV, ↓v_notV, ↓v_tst, ↓v_args0, ↓v_args1, ↓v_rvs0, ↓v_rvs1, ↓v_tup, ↓v_lst, ↓v_callB, ↓v_seq, ↓v_nx, ↓v_drop, ↓v_retM, ↓v_sto, ↓v_set, ↓v_att, ↓v_part0, ↓v_part1, ↓v_sli, ↓v_unp, ↓v_par, ↓v_seqI, ↓v_onVl, ↓v_rng, ↓v_for, ↓v_lc, ↓v_yes, ↓v_mth, ↓v_mut, ↓v_call, ↓v_meth, ↓v_cmet, ↓v_make, ↓v_makT, ↓v_makL, ↓v_callT, ↓v_six, ↓v_fld, ↓v_isi, ↓v_rs0, ↓v_try, ↓v_ise, ↓v_chn, ↓v_fmt, ↓v_lit, ↓v_cat0, ↓v_cat1, ↓v_fst, ↓v_ite, ↓reduceIte, fz, vlsO, vlO, sto1, bindAll, bind1, bindT, List.getElem?_cons_zero, List.getElem?_cons_succ, List.set_cons_zero, List.set_cons_succ, Option.map_some, Option.map_none, Option.bind_some, Option.bind_none, isTup, picks_1, picks_2, picks_21, resO, pks, putB, setO, List.nodup_cons, List.nodup_nil, List.not_mem_nil, not_false_eq_true, and_true, List.map_nil, List.map_cons, List.append_nil, List.cons_append, List.nil_append, isIns, isCls, BEq.rfl, capN, capS, Bool.false_eq_true, Bool.not_true, Bool.not_false, seqDL, e, finF, outsO]
end Fw
end

section
set_option maxRecDepth 100000
set_option maxHeartbeats 4000000
namespace Fw
open PySem L2 SX
theorem odd_lc (x0 x1 x3 x4 : Slot) : ∀ l : List (Int × Int), lcR [2] (Tg.nm 2) (notM (tst (isiM (isO 2) (pk 2)))) (var 2) (l.map frD) [x0, x1, .un, x3, x4] = .ok [] [x0, x1, .un, x3, x4]
  | [] => rfl
  | p :: l => by
    have ih := odd_lc x0 x1 x3 x4 l
    have e : isO 2 (frD p) = some true := rfl
    rw [List.map_cons]
    unfold lcR
    simp only [↓v_onS, ↓v_bnd, ↓v_ret, ↓v_stk, ↓v_lf, ↓v_rv, ↓v_var, ↓v_pk, ↓v_mov, ↓v_cst, ↓v_ops2, ↓v_ops1, ↓v_bin, ↓v_sub, ↓v_cmp, ↓v_un, ↓v_asV, ↓v_and, ↓v_or, ↓v_not, ↓v_if, ↓v_andV, ↓v_orV, ↓v_notV, ↓v_tst, ↓v_args0, ↓v_args1, ↓v_rvs0, ↓v_rvs1, ↓v_tup, ↓v_lst, ↓v_callB, ↓v_seq, ↓v_nx, ↓v_drop, ↓v_retM, ↓v_sto, ↓v_set, ↓v_att, ↓v_part0, ↓v_part1, ↓v_sli, ↓v_unp, ↓v_par, ↓v_seqI, ↓v_onVl, ↓v_rng, ↓v_for, ↓v_lc, ↓v_yes, ↓v_mth, ↓v_mut, ↓v_call, ↓v_meth, ↓v_cmet, ↓v_make, ↓v_makT, ↓v_makL, ↓v_callT, ↓v_six, ↓v_fld, ↓v_isi, ↓v_rs0, ↓v_try, ↓v_ise, ↓v_chn, ↓v_fmt, ↓v_lit, ↓v_cat0, ↓v_cat1, ↓v_fst, ↓v_ite, ↓reduceIte, fz, vlsO, vlO, sto_vl, sto_fr, sto_L, bindAll, bind1, bindT, List.getElem?_cons_zero, List.getElem?_cons_succ, List.set_cons_zero, List.set_cons_succ, Option.map_some, Option.map_none, Option.bind_some, Option.bind_none, tup_lst, isTup_fr, picks_1, picks_2, picks_21, resO, pks, putB, setO, List.nodup_cons, List.nodup_nil, List.not_mem_nil, not_false_eq_true, and_true, List.map_nil, List.map_cons, List.append_nil, List.cons_append, List.nil_append, isIns_fr, isCls, BEq.rfl, capN, capS, Bool.false_eq_true, Bool.not_true, Bool.not_false, e, truD, wipeS, List.foldr_cons, List.foldr_nil, ih]
theorem init_fr {p : Int × Int} (h : Pq p) : p_Ratioq_initq [.ins 2 [], .int p.1, .int p.2] = .ok false .non [frD p] := by
  have b0 := h.b0
  have b1 := h.b1
  exact init_ok (t := p.1) (b := p.2) (by omega) (Nat.lt_of_le_of_lt (show p.2.natAbs ≤ 3000 by omega) (Nat.lt_of_lt_of_le (show 3000 < 2 ^ 64 by decide) (Nat.pow_le_pow_right (by decide) (by decide))))
theorem sub_p0 (p : Int × Int) : subD (ptD p) (.int 0) = some (.vl (.int p.1)) := rfl
theorem sub_p1 (p : Int × Int) : subD (ptD p) (.int 1) = some (.vl (.int p.2)) := rfl
theorem mk_lc (x0 x1 x2 x3 : Slot) : ∀ l : List (Int × Int), Pqs l → lcR [4] (Tg.nm 4) yesM (makP 2 p_Ratioq_initq [0, 1] [(.int 1)] [(subM (pk 4) (cst (.int 0))), (subM (pk 4) (cst (.int 1)))]) (l.map ptD) [x0, x1, x2, x3, .un] = .ok (l.map frD) [x0, x1, x2, x3, .un]
  | [], _ => rfl
  | p :: l, h => by
    have ih := mk_lc x0 x1 x2 x3 l fun x hx => h x (List.mem_cons_of_mem _ hx)
    have e := init_fr (h p (List.mem_cons_self ..))
    rw [List.map_cons]
    unfold lcR
    simp only [↓v_onS, ↓v_bnd, ↓v_ret, ↓v_stk, ↓v_lf, ↓v_rv, ↓v_var, ↓v_pk, ↓v_mov, ↓v_cst, ↓v_ops2, ↓v_ops1, ↓v_bin, ↓v_sub, ↓v_cmp, ↓v_un, ↓v_asV, ↓v_and, ↓v_or, ↓v_not, ↓v_if, ↓v_andV, ↓v_orV, ↓v_notV, ↓v_tst, ↓v_args0, ↓v_args1, ↓v_rvs0, ↓v_rvs1, ↓v_tup, ↓v_lst, ↓v_callB, ↓v_seq, ↓v_nx, ↓v_drop, ↓v_retM, ↓v_sto, ↓v_set, ↓v_att, ↓v_part0, ↓v_part1, ↓v_sli, ↓v_unp, ↓v_par, ↓v_seqI, ↓v_onVl, ↓v_rng, ↓v_for, ↓v_lc, ↓v_yes, ↓v_mth, ↓v_mut, ↓v_call, ↓v_meth, ↓v_cmet, ↓v_make, ↓v_makT, ↓v_makL, ↓v_callT, ↓v_six, ↓v_fld, ↓v_isi, ↓v_rs0, ↓v_try, ↓v_ise, ↓v_chn, ↓v_fmt, ↓v_lit, ↓v_cat0, ↓v_cat1, ↓v_fst, ↓v_ite, ↓reduceIte, fz, vlsO, vlO, sto1, bindAll, bind1, bindT, List.getElem?_cons_zero, List.getElem?_cons_succ, List.set_cons_zero, List.set_cons_succ, Option.map_some, Option.map_none, Option.bind_some, Option.bind_none, isTup, picks_1, picks_2, picks_21, resO, pks, putB, setO, List.nodup_cons, List.nodup_nil, List.not_mem_nil, not_false_eq_true, and_true, List.map_nil, List.map_cons, List.append_nil, List.cons_append, List.nil_append, isIns, isCls, BEq.rfl, capN, capS, Bool.false_eq_true, Bool.not_true, Bool.not_false, sub_p0, sub_p1, e, wipeS, List.foldr_cons, List.foldr_nil, ih]
theorem eql_same : ∀ l : List (Int × Int), eqlL 2 p_Ratioq_eqq (l.map frD) (l.map frD) = true
  | [] => rfl
  | p :: l => by
    have e : oeqD 2 p_Ratioq_eqq (frD p) (frD p) = some true := by
      unfold frD
      rw [oeq_ok]
      simp
    rw [List.map_cons]
    unfold eqlL
    rw [e, eql_same l] <;> rfl
theorem are_ok {l : List (Int × Int)} (h : Pqs l) (hn : l.length ≤ 1000) : p__law_are [.lst (l.map frD), .lst (l.map ptD)] = .ok false (.bl true) [] := by
  unfold p__law_are
  rw [fnOf_eq _ _ _ _ rfl]
  show finF _ (b__law_are _ [.val (.lst (l.map frD)), .val (.lst (l.map ptD)), .un, .un, .un]) = _
  unfold b__law_are
  have x1 : isT 2 aList (.lst (l.map frD)) = some true := rfl
  have nn : neD (.lst []) (.lst []) = some false := ne_nil []
  have c1 : (l.map frD).length ≤ 1000000 := by rw [List.length_map]; omega
  have c2 : (l.map ptD).length ≤ 1000000 := by rw [List.length_map]; omega
  have e1 := odd_lc (.val (.lst (l.map frD))) (.val (.lst (l.map ptD))) .un .un l
  have e2 := mk_lc (.val (.lst (l.map frD))) (.val (.lst (l.map ptD))) .un .un l h
  have e3 : eqlD 2 p_Ratioq_eqq (.lst (l.map frD)) (.lst (l.map frD)) = some true := by
    show (if eqlL 2 p_Ratioq_eqq (l.map frD) (l.map frD) = true then some true else none) = _
    rw [if_pos (eql_same l)]
  generalize l.map frD = L at *
  generalize l.map ptD = L' at *
  simp only [↓v_onS, ↓v_bnd, ↓v_ret, ↓v_stk, ↓v_lf, ↓v_rv, ↓v_var, ↓v_pk, ↓v_mov, ↓v_cst, ↓v_ops2, ↓v_ops1, ↓v_bin, ↓v_sub, ↓v_cmp, ↓v_un, ↓v_asV, ↓v_and, ↓v_or, ↓v_not, ↓v_if, ↓v_andV, ↓v_orV, ↓v_notV, ↓v_tst, ↓v_args0, ↓v_args1, ↓v_rvs0, ↓v_rvs1, ↓v_tup, ↓v_lst, ↓v_callB, ↓v_seq, ↓v_nx, ↓v_drop, ↓v_retM, ↓v_sto, ↓v_set, ↓v_att, ↓v_part0, ↓v_part1, ↓v_sli, ↓v_unp, ↓v_par, ↓v_seqI, ↓v_onVl, ↓v_rng, ↓v_for, ↓v_lc, ↓v_yes, ↓v_mth, ↓v_mut, ↓v_call, ↓v_meth, ↓v_cmet, ↓v_make, ↓v_makT, ↓v_makL, ↓v_callT, ↓v_six, ↓v_fld, ↓v_isi, ↓v_rs0, ↓v_try, ↓v_ise, ↓v_chn, ↓v_fmt, ↓v_lit, ↓v_cat0, ↓v_cat1, ↓v_fst, ↓v_ite, ↓reduceIte, fz, vlsO, vlO, sto_vl, sto_fr, sto_L, bindAll, bind1, bindT, List.getElem?_cons_zero, List.getElem?_cons_succ, List.set_cons_zero, List.set_cons_succ, Option.map_some, Option.map_none, Option.bind_some, Option.bind_none, tup_lst, isTup_fr, picks_1, picks_2, picks_21, resO, pks, putB, setO, List.nodup_cons, List.nodup_nil, List.not_mem_nil, not_false_eq_true, and_true, List.map_nil, List.map_cons, List.append_nil, List.cons_append, List.nil_append, isIns_fr, isCls, BEq.rfl, capN, capS, Bool.false_eq_true, Bool.not_true, Bool.not_false, seqDL, x1, truD, nn, c1, c2, notOwn, List.all_cons, List.all_nil, Bool.and_self, and_self, wipeS, List.foldr_cons, List.foldr_nil, backS, e1, e2, sto_L, e3, finF, outsO]
/-! ### the ends -/
def FrE (a : D) (q : Int × Int) (st : Sl) : Prop := ∃ s1 s2 : Slot, Sl3 q s1 ∧ (s2 = .un ∨ ∃ e, s2 = .val e) ∧ st = [.val a, s1, s2]
def lbody : M Flw := (ifM (tst (methP 2 [false, false] p_Ratio_under [0, 1] [] (cmetP 2 [false, false] p_Ratio_of [0, 1] [] (cst (.cls 2)) [(var 2)]) [(var 1)]))
    (setM 1 (cmetP 2 [false, false] p_Ratio_of [0, 1] [] (cst (.cls 2)) [(var 2)])) nxM)
def gbody : M Flw := (ifM (tst (methP 2 [false, false] p_Ratio_under [0, 1] [] (var 1) [(cmetP 2 [false, false] p_Ratio_of [0, 1] [] (cst (.cls 2)) [(var 2)])]))
    (setM 1 (cmetP 2 [false, false] p_Ratio_of [0, 1] [] (cst (.cls 2)) [(var 2)])) nxM)
theorem l_step {a d : D} {p q : Int × Int} {s1 : Slot} (hd : Nm p d) (hp : Pq p) (hq : Pq q) (h : Sl3 q s1) : ∃ s1', Sl3 (if lt p q = true then p else q) s1' ∧ lbody [.val a, s1, .val d] = .ok .nx [.val a, s1', .val d] := by
  obtain ⟨b, e⟩ := of_ok hd
  have u := under_ok hp hq
  unfold lbody
  cases hc : lt p q with
  | true =>
    rw [hc] at u
    cases b with
    | true =>
      refine ⟨.own false (frD p), .inl rfl, ?_⟩
      rcases h with rfl | rfl <;> simp only [↓v_onS, ↓v_bnd, ↓v_ret, ↓v_stk, ↓v_lf, ↓v_rv, ↓v_var, ↓v_pk, ↓v_mov, ↓v_cst, ↓v_ops2, ↓v_ops1, ↓v_bin, ↓v_sub, ↓v_cmp, ↓v_un, ↓v_asV, ↓v_and, ↓v_or, ↓v_not, ↓v_if, ↓v_andV, ↓v_orV, ↓v_notV, ↓v_tst, ↓v_args0, ↓v_args1, ↓v_rvs0, ↓v_rvs1, ↓v_tup, ↓v_lst, ↓v_callB, ↓v_seq, ↓v_nx, ↓v_drop, ↓v_retM, ↓v_sto, ↓v_set, ↓v_att, ↓v_part0, ↓v_part1, ↓v_sli, ↓v_unp, ↓v_par, ↓v_seqI, ↓v_onVl, ↓v_rng, ↓v_for, ↓v_lc, ↓v_yes, ↓v_mth, ↓v_mut, ↓v_call, ↓v_meth, ↓v_cmet, ↓v_make, ↓v_makT, ↓v_makL, ↓v_callT, ↓v_six, ↓v_fld, ↓v_isi, ↓v_rs0, ↓v_try, ↓v_ise, ↓v_chn, ↓v_fmt, ↓v_lit, ↓v_cat0, ↓v_cat1, ↓v_fst, ↓v_ite, ↓reduceIte, fz, vlsO, vlO, sto_vl, sto_fr, sto_L, bindAll, bind1, bindT, List.getElem?_cons_zero, List.getElem?_cons_succ, List.set_cons_zero, List.set_cons_succ, Option.map_some, Option.map_none, Option.bind_some, Option.bind_none, tup_lst, isTup_fr, picks_1, picks_2, picks_21, resO, pks, putB, setO, List.nodup_cons, List.nodup_nil, List.not_mem_nil, not_false_eq_true, and_true, List.map_nil, List.map_cons, List.append_nil, List.cons_append, List.nil_append, isIns_fr, isCls, BEq.rfl, capN, capS, Bool.false_eq_true, Bool.not_true, Bool.not_false, e, u, truD, sto_fr]
    | false =>
      refine ⟨.val (frD p), .inr rfl, ?_⟩
      rcases h with rfl | rfl <;> simp only [↓v_onS, ↓v_bnd, ↓v_ret, ↓v_stk, ↓v_lf, ↓v_rv, ↓v_var, ↓v_pk, ↓v_mov, ↓v_cst, ↓v_ops2, ↓v_ops1, ↓v_bin, ↓v_sub, ↓v_cmp, ↓v_un, ↓v_asV, ↓v_and, ↓v_or, ↓v_not, ↓v_if, ↓v_andV, ↓v_orV, ↓v_notV, ↓v_tst, ↓v_args0, ↓v_args1, ↓v_rvs0, ↓v_rvs1, ↓v_tup, ↓v_lst, ↓v_callB, ↓v_seq, ↓v_nx, ↓v_drop, ↓v_retM, ↓v_sto, ↓v_set, ↓v_att, ↓v_part0, ↓v_part1, ↓v_sli, ↓v_unp, ↓v_par, ↓v_seqI, ↓v_onVl, ↓v_rng, ↓v_for, ↓v_lc, ↓v_yes, ↓v_mth, ↓v_mut, ↓v_call, ↓v_meth, ↓v_cmet, ↓v_make, ↓v_makT, ↓v_makL, ↓v_callT, ↓v_six, ↓v_fld, ↓v_isi, ↓v_rs0, ↓v_try, ↓v_ise, ↓v_chn, ↓v_fmt, ↓v_lit, ↓v_cat0, ↓v_cat1, ↓v_fst, ↓v_ite, ↓reduceIte, fz, vlsO, vlO, sto_vl, sto_fr, sto_L, bindAll, bind1, bindT, List.getElem?_cons_zero, List.getElem?_cons_succ, List.set_cons_zero, List.set_cons_succ, Option.map_some, Option.map_none, Option.bind_some, Option.bind_none, tup_lst, isTup_fr, picks_1, picks_2, picks_21, resO, pks, putB, setO, List.nodup_cons, List.nodup_nil, List.not_mem_nil, not_false_eq_true, and_true, List.map_nil, List.map_cons, List.append_nil, List.cons_append, List.nil_append, isIns_fr, isCls, BEq.rfl, capN, capS, Bool.false_eq_true, Bool.not_true, Bool.not_false, e, u, truD, sto_fr]
  | false =>
    rw [hc] at u
    refine ⟨.val (frD q), .inr rfl, ?_⟩
    cases b <;> rcases h with rfl | rfl <;> simp only [↓v_onS, ↓v_bnd, ↓v_ret, ↓v_stk, ↓v_lf, ↓v_rv, ↓v_var, ↓v_pk, ↓v_mov, ↓v_cst, ↓v_ops2, ↓v_ops1, ↓v_bin, ↓v_sub, ↓v_cmp, ↓v_un, ↓v_asV, ↓v_and, ↓v_or, ↓v_not, ↓v_if, ↓v_andV, ↓v_orV, ↓v_notV, ↓v_tst, ↓v_args0, ↓v_args1, ↓v_rvs0, ↓v_rvs1, ↓v_tup, ↓v_lst, ↓v_callB, ↓v_seq, ↓v_nx, ↓v_drop, ↓v_retM, ↓v_sto, ↓v_set, ↓v_att, ↓v_part0, ↓v_part1, ↓v_sli, ↓v_unp, ↓v_par, ↓v_seqI, ↓v_onVl, ↓v_rng, ↓v_for, ↓v_lc, ↓v_yes, ↓v_mth, ↓v_mut, ↓v_call, ↓v_meth, ↓v_cmet, ↓v_make, ↓v_makT, ↓v_makL, ↓v_callT, ↓v_six, ↓v_fld, ↓v_isi, ↓v_rs0, ↓v_try, ↓v_ise, ↓v_chn, ↓v_fmt, ↓v_lit, ↓v_cat0, ↓v_cat1, ↓v_fst, ↓v_ite, ↓reduceIte, fz, vlsO, vlO, sto_vl, sto_fr, sto_L, bindAll, bind1, bindT, List.getElem?_cons_zero, List.getElem?_cons_succ, List.set_cons_zero, List.set_cons_succ, Option.map_some, Option.map_none, Option.bind_some, Option.bind_none, tup_lst, isTup_fr, picks_1, picks_2, picks_21, resO, pks, putB, setO, List.nodup_cons, List.nodup_nil, List.not_mem_nil, not_false_eq_true, and_true, List.map_nil, List.map_cons, List.append_nil, List.cons_append, List.nil_append, isIns_fr, isCls, BEq.rfl, capN, capS, Bool.false_eq_true, Bool.not_true, Bool.not_false, e, u, truD, sto_fr]
theorem g_step {a d : D} {p q : Int × Int} {s1 : Slot} (hd : Nm p d) (hp : Pq p) (hq : Pq q) (h : Sl3 q s1) : ∃ s1', Sl3 (if lt q p = true then p else q) s1' ∧ gbody [.val a, s1, .val d] = .ok .nx [.val a, s1', .val d] := by
  obtain ⟨b, e⟩ := of_ok hd
  have u := under_ok hq hp
  unfold gbody
  cases hc : lt q p with
  | true =>
    rw [hc] at u
    cases b with
    | true =>
      refine ⟨.own false (frD p), .inl rfl, ?_⟩
      rcases h with rfl | rfl <;> simp only [↓v_onS, ↓v_bnd, ↓v_ret, ↓v_stk, ↓v_lf, ↓v_rv, ↓v_var, ↓v_pk, ↓v_mov, ↓v_cst, ↓v_ops2, ↓v_ops1, ↓v_bin, ↓v_sub, ↓v_cmp, ↓v_un, ↓v_asV, ↓v_and, ↓v_or, ↓v_not, ↓v_if, ↓v_andV, ↓v_orV, ↓v_notV, ↓v_tst, ↓v_args0, ↓v_args1, ↓v_rvs0, ↓v_rvs1, ↓v_tup, ↓v_lst, ↓v_callB, ↓v_seq, ↓v_nx, ↓v_drop, ↓v_retM, ↓v_sto, ↓v_set, ↓v_att, ↓v_part0, ↓v_part1, ↓v_sli, ↓v_unp, ↓v_par, ↓v_seqI, ↓v_onVl, ↓v_rng, ↓v_for, ↓v_lc, ↓v_yes, ↓v_mth, ↓v_mut, ↓v_call, ↓v_meth, ↓v_cmet, ↓v_make, ↓v_makT, ↓v_makL, ↓v_callT, ↓v_six, ↓v_fld, ↓v_isi, ↓v_rs0, ↓v_try, ↓v_ise, ↓v_chn, ↓v_fmt, ↓v_lit, ↓v_cat0, ↓v_cat1, ↓v_fst, ↓v_ite, ↓reduceIte, fz, vlsO, vlO, sto_vl, sto_fr, sto_L, bindAll, bind1, bindT, List.getElem?_cons_zero, List.getElem?_cons_succ, List.set_cons_zero, List.set_cons_succ, Option.map_some, Option.map_none, Option.bind_some, Option.bind_none, tup_lst, isTup_fr, picks_1, picks_2, picks_21, resO, pks, putB, setO, List.nodup_cons, List.nodup_nil, List.not_mem_nil, not_false_eq_true, and_true, List.map_nil, List.map_cons, List.append_nil, List.cons_append, List.nil_append, isIns_fr, isCls, BEq.rfl, capN, capS, Bool.false_eq_true, Bool.not_true, Bool.not_false, e, u, truD, sto_fr]
    | false =>
      refine ⟨.val (frD p), .inr rfl, ?_⟩
      rcases h with rfl | rfl <;> simp only [↓v_onS, ↓v_bnd, ↓v_ret, ↓v_stk, ↓v_lf, ↓v_rv, ↓v_var, ↓v_pk, ↓v_mov, ↓v_cst, ↓v_ops2, ↓v_ops1, ↓v_bin, ↓v_sub, ↓v_cmp, ↓v_un, ↓v_asV, ↓v_and, ↓v_or, ↓v_not, ↓v_if, ↓v_andV, ↓v_orV, ↓v_notV, ↓v_tst, ↓v_args0, ↓v_args1, ↓v_rvs0, ↓v_rvs1, ↓v_tup, ↓v_lst, ↓v_callB, ↓v_seq, ↓v_nx, ↓v_drop, ↓v_retM, ↓v_sto, ↓v_set, ↓v_att, ↓v_part0, ↓v_part1, ↓v_sli, ↓v_unp, ↓v_par, ↓v_seqI, ↓v_onVl, ↓v_rng, ↓v_for, ↓v_lc, ↓v_yes, ↓v_mth, ↓v_mut, ↓v_call, ↓v_meth, ↓v_cmet, ↓v_make, ↓v_makT, ↓v_makL, ↓v_callT, ↓v_six, ↓v_fld, ↓v_isi, ↓v_rs0, ↓v_try, ↓v_ise, ↓v_chn, ↓v_fmt, ↓v_lit, ↓v_cat0, ↓v_cat1, ↓v_fst, ↓v_ite, ↓reduceIte, fz, vlsO, vlO, sto_vl, sto_fr, sto_L, bindAll, bind1, bindT, List.getElem?_cons_zero, List.getElem?_cons_succ, List.set_cons_zero, List.set_cons_succ, Option.map_some, Option.map_none, Option.bind_some, Option.bind_none, tup_lst, isTup_fr, picks_1, picks_2, picks_21, resO, pks, putB, setO, List.nodup_cons, List.nodup_nil, List.not_mem_nil, not_false_eq_true, and_true, List.map_nil, List.map_cons, List.append_nil, List.cons_append, List.nil_append, isIns_fr, isCls, BEq.rfl, capN, capS, Bool.false_eq_true, Bool.not_true, Bool.not_false, e, u, truD, sto_fr]
  | false =>
    rw [hc] at u
    refine ⟨.val (frD q), .inr rfl, ?_⟩
    cases b <;> rcases h with rfl | rfl <;> simp only [↓v_onS, ↓v_bnd, ↓v_ret, ↓v_stk, ↓v_lf, ↓v_rv, ↓v_var, ↓v_pk, ↓v_mov, ↓v_cst, ↓v_ops2, ↓v_ops1, ↓v_bin, ↓v_sub, ↓v_cmp, ↓v_un, ↓v_asV, ↓v_and, ↓v_or, ↓v_not, ↓v_if, ↓v_andV, ↓v_orV, ↓v_notV, ↓v_tst, ↓v_args0, ↓v_args1, ↓v_rvs0, ↓v_rvs1, ↓v_tup, ↓v_lst, ↓v_callB, ↓v_seq, ↓v_nx, ↓v_drop, ↓v_retM, ↓v_sto, ↓v_set, ↓v_att, ↓v_part0, ↓v_part1, ↓v_sli, ↓v_unp, ↓v_par, ↓v_seqI, ↓v_onVl, ↓v_rng, ↓v_for, ↓v_lc, ↓v_yes, ↓v_mth, ↓v_mut, ↓v_call, ↓v_meth, ↓v_cmet, ↓v_make, ↓v_makT, ↓v_makL, ↓v_callT, ↓v_six, ↓v_fld, ↓v_isi, ↓v_rs0, ↓v_try, ↓v_ise, ↓v_chn, ↓v_fmt, ↓v_lit, ↓v_cat0, ↓v_cat1, ↓v_fst, ↓v_ite, ↓reduceIte, fz, vlsO, vlO, sto_vl, sto_fr, sto_L, bindAll, bind1, bindT, List.getElem?_cons_zero, List.getElem?_cons_succ, List.set_cons_zero, List.set_cons_succ, Option.map_some, Option.map_none, Option.bind_some, Option.bind_none, tup_lst, isTup_fr, picks_1, picks_2, picks_21, resO, pks, putB, setO, List.nodup_cons, List.nodup_nil, List.not_mem_nil, not_false_eq_true, and_true, List.map_nil, List.map_cons, List.append_nil, List.cons_append, List.nil_append, isIns_fr, isCls, BEq.rfl, capN, capS, Bool.false_eq_true, Bool.not_true, Bool.not_false, e, u, truD, sto_fr]
theorem nlt_trans {p q r : Int × Int} (hp : Pq p) (hq : Pq q) (hr : Pq r) (h1 : lt p q = false) (h2 : lt q r = false) : lt p r = false := by
  cases c : lt p r with
  | false => rfl
  | true =>
    cases c2 : lt q p with
    | true =>
      have := lt_trans hq hp hr c2 c
      rw [h2] at this
      cases this
    | false =>
      have := (lt_fr hp hq hr (fr_eq hp hq h1 c2)).1
      rw [c, h2] at this
      cases this
theorem l_loop {a : D} : ∀ {ps : List (Int × Int)} {ds : List D}, Nms ps ds → ∀ (q : Int × Int) (st : Sl), FrE a q st → Pq q → Pqs ps →
    ∃ m st', forD (Tg.nm 2) lbody ds st = .ok .nx st' ∧ FrE a m st' ∧ (m = q ∨ m ∈ ps) ∧ Pq m ∧ lt q m = false ∧ ∀ x ∈ ps, lt x m = false
  | _, _, .nil, q, st, h, hq, _ => ⟨q, st, rfl, h, .inl rfl, hq, lt_irr q, fun _ h => nomatch h⟩
  | _, _, .cons (p := p) (d := d) (ps := ps) (ds := ds) hd hr, q, st, h, hq, hps => by
    have hp := hps p (List.mem_cons_self ..)
    obtain ⟨s1, s2, h1, h2, rfl⟩ := h
    obtain ⟨s1', k1, k2⟩ := l_step (a := a) hd hp hq h1
    have pq' : Pq (if lt p q = true then p else q) := by split <;> assumption
    obtain ⟨m, st', e1, e2, e3, e4, e5, e6⟩ := l_loop hr (if lt p q = true then p else q) [.val a, s1', .val d] ⟨_, _, k1, .inr ⟨_, rfl⟩, rfl⟩ pq' (fun x hx => hps x (List.mem_cons_of_mem _ hx))
    have eb : bindT (.nm 2) d [.val a, s1, s2] = some [.val a, s1, .val d] := by
      rcases h2 with rfl | ⟨_, rfl⟩ <;> rfl
    refine ⟨m, st', ?_, e2, ?_, e4, ?_, ?_⟩
    · unfold forD
      rw [eb]
      simp only [k2]
      exact e1
    · rcases e3 with e3 | e3
      · cases c : lt p q with
        | true => rw [c, if_pos rfl] at e3; exact .inr (by rw [e3]; exact List.mem_cons_self ..)
        | false => rw [c, if_neg (by decide)] at e3; exact .inl e3
      · exact .inr (List.mem_cons_of_mem _ e3)
    · cases c : lt p q with
      | true => rw [c, if_pos rfl] at e5; exact nlt_trans hq hp e4 (lt_asym c) e5
      | false => rw [c, if_neg (by decide)] at e5; exact e5
    · intro x hx
      rcases List.mem_cons.mp hx with rfl | hx
      · cases c : lt x q with
        | true => rw [c, if_pos rfl] at e5; exact e5
        | false => rw [c, if_neg (by decide)] at e5; exact nlt_trans hp hq e4 c e5
      · exact e6 x hx
theorem g_loop {a : D} : ∀ {ps : List (Int × Int)} {ds : List D}, Nms ps ds → ∀ (q : Int × Int) (st : Sl), FrE a q st → Pq q → Pqs ps →
    ∃ m st', forD (Tg.nm 2) gbody ds st = .ok .nx st' ∧ FrE a m st' ∧ (m = q ∨ m ∈ ps) ∧ Pq m ∧ lt m q = false ∧ ∀ x ∈ ps, lt m x = false
  | _, _, .nil, q, st, h, hq, _ => ⟨q, st, rfl, h, .inl rfl, hq, lt_irr q, fun _ h => nomatch h⟩
  | _, _, .cons (p := p) (d := d) (ps := ps) (ds := ds) hd hr, q, st, h, hq, hps => by
    have hp := hps p (List.mem_cons_self ..)
    obtain ⟨s1, s2, h1, h2, rfl⟩ := h
    obtain ⟨s1', k1, k2⟩ := g_step (a := a) hd hp hq h1
    have pq' : Pq (if lt q p = true then p else q) := by split <;> assumption
    obtain ⟨m, st', e1, e2, e3, e4, e5, e6⟩ := g_loop hr (if lt q p = true then p else q) [.val a, s1', .val d] ⟨_, _, k1, .inr ⟨_, rfl⟩, rfl⟩ pq' (fun x hx => hps x (List.mem_cons_of_mem _ hx))
    have eb : bindT (.nm 2) d [.val a, s1, s2] = some [.val a, s1, .val d] := by
      rcases h2 with rfl | ⟨_, rfl⟩ <;> rfl
    refine ⟨m, st', ?_, e2, ?_, e4, ?_, ?_⟩
    · unfold forD
      rw [eb]
      simp only [k2]
      exact e1
    · rcases e3 with e3 | e3
      · cases c : lt q p with
        | true => rw [c, if_pos rfl] at e3; exact .inr (by rw [e3]; exact List.mem_cons_self ..)
        | false => rw [c, if_neg (by decide)] at e3; exact .inl e3
      · exact .inr (List.mem_cons_of_mem _ e3)
    · cases c : lt q p with
      | true => rw [c, if_pos rfl] at e5; exact nlt_trans e4 hp hq e5 (lt_asym c)
      | false => rw [c, if_neg (by decide)] at e5; exact e5
    · intro x hx
      rcases List.mem_cons.mp hx with rfl | hx
      · cases c : lt q x with
        | true => rw [c, if_pos rfl] at e5; exact e5
        | false => rw [c, if_neg (by decide)] at e5; exact nlt_trans e4 hq hp e5 c
      · exact e6 x hx
theorem sub_h0 (d : D) (ds : List D) : subD (.lst (d :: ds)) (.int 0) = some (.vl d) := sub0 d ds
theorem least_ok {ps : List (Int × Int)} {ds : List D} (h : Nms ps ds) (hps : Pqs ps) (h0 : 0 < ps.length) : ∃ b m, p_least [.lst ds] = .ok b (frD m) [] ∧ m ∈ ps ∧ ∀ x ∈ ps, lt x m = false := by
  cases h with
  | nil => cases h0
  | cons hd hr =>
    rename_i p d ps ds
    obtain ⟨b, e⟩ := of_ok hd
    have hp := hps p (List.mem_cons_self ..)
    have key : ∀ s1, Sl3 p s1 → ∃ m st', forD (Tg.nm 2) lbody (d :: ds) [.val (.lst (d :: ds)), s1, .un] = .ok .nx st' ∧ FrE (.lst (d :: ds)) m st' ∧ m ∈ p :: ps ∧ ∀ x ∈ p :: ps, lt x m = false := by
      intro s1 h1
      obtain ⟨m, st', e1, e2, e3, e4, e5, e6⟩ := l_loop (a := .lst (d :: ds)) (.cons hd hr) p [.val (.lst (d :: ds)), s1, .un] ⟨_, _, h1, .inl rfl, rfl⟩ hp hps
      refine ⟨m, st', e1, e2, ?_, e6⟩
      rcases e3 with rfl | e3
      · exact List.mem_cons_self ..
      · exact e3
    unfold p_least
    rw [fnOf_eq _ _ _ _ rfl]
    show ∃ b m, finF _ ((seqM (setM 1 (cmetP 2 [false, false] p_Ratio_of [0, 1] [] (cst (.cls 2)) [(subM (pk 0) (cst (.int 0)))])) (seqM (forM (Tg.nm 2) (seqI (var 0)) lbody) (retM (mov 1)))) [.val (.lst (d :: ds)), .un, .un]) = _ ∧ _
    have sh := sub_h0 d ds
    generalize hL : D.lst (d :: ds) = L at *
    have sq : seqD L = some (d :: ds) := by rw [← hL]; rfl
    cases b with
    | true =>
      obtain ⟨m, st', e1, ⟨t1, t2, f1, _, rfl⟩, e3, e4⟩ := key (.own false (frD p)) (.inl rfl)
      rcases f1 with rfl | rfl <;> simp only [↓v_onS, ↓v_bnd, ↓v_ret, ↓v_stk, ↓v_lf, ↓v_rv, ↓v_var, ↓v_pk, ↓v_mov, ↓v_cst, ↓v_ops2, ↓v_ops1, ↓v_bin, ↓v_sub, ↓v_cmp, ↓v_un, ↓v_asV, ↓v_and, ↓v_or, ↓v_not, ↓v_if, ↓v_andV, ↓v_orV, ↓v_notV, ↓v_tst, ↓v_args0, ↓v_args1, ↓v_rvs0, ↓v_rvs1, ↓v_tup, ↓v_lst, ↓v_callB, ↓v_seq, ↓v_nx, ↓v_drop, ↓v_retM, ↓v_sto, ↓v_set, ↓v_att, ↓v_part0, ↓v_part1, ↓v_sli, ↓v_unp, ↓v_par, ↓v_seqI, ↓v_onVl, ↓v_rng, ↓v_for, ↓v_lc, ↓v_yes, ↓v_mth, ↓v_mut, ↓v_call, ↓v_meth, ↓v_cmet, ↓v_make, ↓v_makT, ↓v_makL, ↓v_callT, ↓v_six, ↓v_fld, ↓v_isi, ↓v_rs0, ↓v_try, ↓v_ise, ↓v_chn, ↓v_fmt, ↓v_lit, ↓v_cat0, ↓v_cat1, ↓v_fst, ↓v_ite, ↓reduceIte, fz, vlsO, vlO, sto_vl, sto_fr, sto_L, bindAll, bind1, bindT, List.getElem?_cons_zero, List.getElem?_cons_succ, List.set_cons_zero, List.set_cons_succ, Option.map_some, Option.map_none, Option.bind_some, Option.bind_none, tup_lst, isTup_fr, picks_1, picks_2, picks_21, resO, pks, putB, setO, List.nodup_cons, List.nodup_nil, List.not_mem_nil, not_false_eq_true, and_true, List.map_nil, List.map_cons, List.append_nil, List.cons_append, List.nil_append, isIns_fr, isCls, BEq.rfl, capN, capS, Bool.false_eq_true, Bool.not_true, Bool.not_false, sq, sh, e, sto_fr, e1, finF, outsO] <;> exact ⟨_, m, rfl, e3, e4⟩
    | false =>
      obtain ⟨m, st', e1, ⟨t1, t2, f1, _, rfl⟩, e3, e4⟩ := key (.val (frD p)) (.inr rfl)
      rcases f1 with rfl | rfl <;> simp only [↓v_onS, ↓v_bnd, ↓v_ret, ↓v_stk, ↓v_lf, ↓v_rv, ↓v_var, ↓v_pk, ↓v_mov, ↓v_cst, ↓v_ops2, ↓v_ops1, ↓v_bin, ↓v_sub, ↓v_cmp, ↓v_un, ↓v_asV, ↓v_and, ↓v_or, ↓v_not, ↓v_if, ↓v_andV, ↓v_orV, ↓v_notV, ↓v_tst, ↓v_args0, ↓v_args1, ↓v_rvs0, ↓v_rvs1, ↓v_tup, ↓v_lst, ↓v_callB, ↓v_seq, ↓v_nx, ↓v_drop, ↓v_retM, ↓v_sto, ↓v_set, ↓v_att, ↓v_part0, ↓v_part1, ↓v_sli, ↓v_unp, ↓v_par, ↓v_seqI, ↓v_onVl, ↓v_rng, ↓v_for, ↓v_lc, ↓v_yes, ↓v_mth, ↓v_mut, ↓v_call, ↓v_meth, ↓v_cmet, ↓v_make, ↓v_makT, ↓v_makL, ↓v_callT, ↓v_six, ↓v_fld, ↓v_isi, ↓v_rs0, ↓v_try, ↓v_ise, ↓v_chn, ↓v_fmt, ↓v_lit, ↓v_cat0, ↓v_cat1, ↓v_fst, ↓v_ite, ↓reduceIte, fz, vlsO, vlO, sto_vl, sto_fr, sto_L, bindAll, bind1, bindT, List.getElem?_cons_zero, List.getElem?_cons_succ, List.set_cons_zero, List.set_cons_succ, Option.map_some, Option.map_none, Option.bind_some, Option.bind_none, tup_lst, isTup_fr, picks_1, picks_2, picks_21, resO, pks, putB, setO, List.nodup_cons, List.nodup_nil, List.not_mem_nil, not_false_eq_true, and_true, List.map_nil, List.map_cons, List.append_nil, List.cons_append, List.nil_append, isIns_fr, isCls, BEq.rfl, capN, capS, Bool.false_eq_true, Bool.not_true, Bool.not_false, sq, sh, e, sto_fr, e1, finF, outsO] <;> exact ⟨_, m, rfl, e3, e4⟩
theorem greatest_ok {ps : List (Int × Int)} {ds : List D} (h : Nms ps ds) (hps : Pqs ps) (h0 : 0 < ps.length) : ∃ b m, p_greatest [.lst ds] = .ok b (frD m) [] ∧ m ∈ ps ∧ ∀ x ∈ ps, lt m x = false := by
  cases h with
  | nil => cases h0
  | cons hd hr =>
    rename_i p d ps ds
    obtain ⟨b, e⟩ := of_ok hd
    have hp := hps p (List.mem_cons_self ..)
    have key : ∀ s1, Sl3 p s1 → ∃ m st', forD (Tg.nm 2) gbody (d :: ds) [.val (.lst (d :: ds)), s1, .un] = .ok .nx st' ∧ FrE (.lst (d :: ds)) m st' ∧ m ∈ p :: ps ∧ ∀ x ∈ p :: ps, lt m x = false := by
      intro s1 h1
      obtain ⟨m, st', e1, e2, e3, e4, e5, e6⟩ := g_loop (a := .lst (d :: ds)) (.cons hd hr) p [.val (.lst (d :: ds)), s1, .un] ⟨_, _, h1, .inl rfl, rfl⟩ hp hps
      refine ⟨m, st', e1, e2, ?_, e6⟩
      rcases e3 with rfl | e3
      · exact List.mem_cons_self ..
      · exact e3
    unfold p_greatest
    rw [fnOf_eq _ _ _ _ rfl]
    show ∃ b m, finF _ ((seqM (setM 1 (cmetP 2 [false, false] p_Ratio_of [0, 1] [] (cst (.cls 2)) [(subM (pk 0) (cst (.int 0)))])) (seqM (forM (Tg.nm 2) (seqI (var 0)) gbody) (retM (mov 1)))) [.val (.lst (d :: ds)), .un, .un]) = _ ∧ _
    have sh := sub_h0 d ds
    generalize hL : D.lst (d :: ds) = L at *
    have sq : seqD L = some (d :: ds) := by rw [← hL]; rfl
    cases b with
    | true =>
      obtain ⟨m, st', e1, ⟨t1, t2, f1, _, rfl⟩, e3, e4⟩ := key (.own false (frD p)) (.inl rfl)
      rcases f1 with rfl | rfl <;> simp only [↓v_onS, ↓v_bnd, ↓v_ret, ↓v_stk, ↓v_lf, ↓v_rv, ↓v_var, ↓v_pk, ↓v_mov, ↓v_cst, ↓v_ops2, ↓v_ops1, ↓v_bin, ↓v_sub, ↓v_cmp, ↓v_un, ↓v_asV, ↓v_and, ↓v_or, ↓v_not, ↓v_if, ↓v_andV, ↓v_orV, ↓v_notV, ↓v_tst, ↓v_args0, ↓v_args1, ↓v_rvs0, ↓v_rvs1, ↓v_tup, ↓v_lst, ↓v_callB, ↓v_seq, ↓v_nx, ↓v_drop, ↓v_retM, ↓v_sto, ↓v_set, ↓v_att, ↓v_part0, ↓v_part1, ↓v_sli, ↓v_unp, ↓v_par, ↓v_seqI, ↓v_onVl, ↓v_rng, ↓v_for, ↓v_lc, ↓v_yes, ↓v_mth, ↓v_mut, ↓v_call, ↓v_meth, ↓v_cmet, ↓v_make, ↓v_makT, ↓v_makL, ↓v_callT, ↓v_six, ↓v_fld, ↓v_isi, ↓v_rs0, ↓v_try, ↓v_ise, ↓v_chn, ↓v_fmt, ↓v_lit, ↓v_cat0, ↓v_cat1, ↓v_fst, ↓v_ite, ↓reduceIte, fz, vlsO, vlO, sto_vl, sto_fr, sto_L, bindAll, bind1, bindT, List.getElem?_cons_zero, List.getElem?_cons_succ, List.set_cons_zero, List.set_cons_succ, Option.map_some, Option.map_none, Option.bind_some, Option.bind_none, tup_lst, isTup_fr, picks_1, picks_2, picks_21, resO, pks, putB, setO, List.nodup_cons, List.nodup_nil, List.not_mem_nil, not_false_eq_true, and_true, List.map_nil, List.map_cons, List.append_nil, List.cons_append, List.nil_append, isIns_fr, isCls, BEq.rfl, capN, capS, Bool.false_eq_true, Bool.not_true, Bool.not_false, sq, sh, e, sto_fr, e1, finF, outsO] <;> exact ⟨_, m, rfl, e3, e4⟩
    | false =>
      obtain ⟨m, st', e1, ⟨t1, t2, f1, _, rfl⟩, e3, e4⟩ := key (.val (frD p)) (.inr rfl)
      rcases f1 with rfl | rfl <;> simp only [↓v_onS, ↓v_bnd, ↓v_ret, ↓v_stk, ↓v_lf, ↓v_rv, ↓v_var, ↓v_pk, ↓v_mov, ↓v_cst, ↓v_ops2, ↓v_ops1, ↓v_bin, ↓v_sub, ↓v_cmp, ↓v_un, ↓v_asV, ↓v_and, ↓v_or, ↓v_not, ↓v_if, ↓v_andV, ↓v_orV, ↓v_notV, ↓v_tst, ↓v_args0, ↓v_args1, ↓v_rvs0, ↓v_rvs1, ↓v_tup, ↓v_lst, ↓v_callB, ↓v_seq, ↓v_nx, ↓v_drop, ↓v_retM, ↓v_sto, ↓v_set, ↓v_att, ↓v_part0, ↓v_part1, ↓v_sli, ↓v_unp, ↓v_par, ↓v_seqI, ↓v_onVl, ↓v_rng, ↓v_for, ↓v_lc, ↓v_yes, ↓v_mth, ↓v_mut, ↓v_call, ↓v_meth, ↓v_cmet, ↓v_make, ↓v_makT, ↓v_makL, ↓v_callT, ↓v_six, ↓v_fld, ↓v_isi, ↓v_rs0, ↓v_try, ↓v_ise, ↓v_chn, ↓v_fmt, ↓v_lit, ↓v_cat0, ↓v_cat1, ↓v_fst, ↓v_ite, ↓reduceIte, fz, vlsO, vlO, sto_vl, sto_fr, sto_L, bindAll, bind1, bindT, List.getElem?_cons_zero, List.getElem?_cons_succ, List.set_cons_zero, List.set_cons_succ, Option.map_some, Option.map_none, Option.bind_some, Option.bind_none, tup_lst, isTup_fr, picks_1, picks_2, picks_21, resO, pks, putB, setO, List.nodup_cons, List.nodup_nil, List.not_mem_nil, not_false_eq_true, and_true, List.map_nil, List.map_cons, List.append_nil, List.cons_append, List.nil_append, isIns_fr, isCls, BEq.rfl, capN, capS, Bool.false_eq_true, Bool.not_true, Bool.not_false, sq, sh, e, sto_fr, e1, finF, outsO] <;> exact ⟨_, m, rfl, e3, e4⟩
end Fw
end

section
set_option maxRecDepth 100000
set_option maxHeartbeats 4000000
namespace Fw
open PySem L2 SX PyProof.Rows
theorem strLen_cat (a b : Str) : (a ++ b).length = a.length + b.length := by
  rw [← S_tl a, ← S_tl b, S_cat, S_len, S_len, S_len, List.length_append]
theorem textFrom_le : ∀ (ts : List Str) (k : Nat) (acc : Str), (∀ t ∈ ts, t.length ≤ 200) → (textFrom k acc ts).length ≤ acc.length + 202 * ts.length
  | [], k, acc, _ => by show acc.length ≤ _; omega
  | t :: r, k, acc, h => by
    have ih := textFrom_le r (k + 1) (acc ++ (if k > 0 then ", " else "" : String) ++ t) fun x hx => h x (List.mem_cons_of_mem _ hx)
    have ht := h t (List.mem_cons_self ..)
    have e : (acc ++ (if k > 0 then ", " else "" : String) ++ t).length = acc.length + (if k > 0 then 2 else 0) + t.length := by
      rw [strLen_cat, strLen_cat]
      split <;> rfl
    rw [e] at ih
    show (textFrom (k + 1) _ r).length ≤ _
    rw [List.length_cons]
    have : (if k > 0 then 2 else 0 : Nat) ≤ 2 := by split <;> omega
    omega
theorem nm_rt {p : Int × Int} {d : D} (hp : Pq p) (h : Nm p d) : ∃ x, rtxt (insG 2 p_Ratioq_reprq) d = some x ∧ x.length ≤ 200 ∧ dep d = 0 := by
  cases h with
  | int h1 =>
    have t1 := hp.t1
    have T : p.1.natAbs < 10 ^ 61 := Nat.lt_of_le_of_lt t1 (by decide)
    have l1 := numZ_len T
    refine ⟨S (numZ p.1), ?_, by rw [S_len]; omega, by simp [dep]⟩
    simp only [rtxt, if_pos (lg' 204 (tenE T)), num_Z]
  | frac =>
    obtain ⟨g, g0, a1, a2, a3, a4, a5⟩ := (red hp).ex
    have T : (nT p.1 p.2).natAbs < 10 ^ 61 := Nat.lt_of_le_of_lt a4 (by decide)
    have B : (nB p.1 p.2).natAbs < 10 ^ 61 := Nat.lt_of_le_of_lt (show (nB p.1 p.2).natAbs ≤ 3000 by omega) (by decide)
    have l1 := numZ_len T
    have l2 := numZ_len B
    refine ⟨S (rtx (nT p.1 p.2) (nB p.1 p.2)), ?_, ?_, by unfold frD; simp [dep]⟩
    · unfold frD
      simp only [rtxt, insG, if_true, repr_ok T B]
    · rw [S_len]; unfold rtx; simp only [List.length_append, List.length_cons, List.length_nil]; omega
theorem nms_rt : ∀ {ps : List (Int × Int)} {ds : List D}, Nms ps ds → Pqs ps → ∃ ts, rtxtL (insG 2 p_Ratioq_reprq) ds = some ts ∧ (∀ t ∈ ts, t.length ≤ 200) ∧ ts.length = ps.length ∧ depL ds = 0
  | _, _, .nil, _ => ⟨[], rfl, (fun _ h => nomatch h), rfl, rfl⟩
  | _, _, .cons hd hr, h => by
    obtain ⟨x, e1, e2, e3⟩ := nm_rt (h _ (List.mem_cons_self ..)) hd
    obtain ⟨ts, f1, f2, f3, f4⟩ := nms_rt hr fun x hx => h x (List.mem_cons_of_mem _ hx)
    refine ⟨x :: ts, ?_, fun t ht => ?_, by rw [List.length_cons, List.length_cons, f3], ?_⟩
    · unfold rtxtL
      rw [e1, f1] <;> rfl
    · rcases List.mem_cons.mp ht with rfl | ht
      · exact e2
      · exact f2 t ht
    · unfold depL
      rw [e3, f4] <;> rfl
theorem rp_nums {ps : List (Int × Int)} {ds : List D} (h : Nms ps ds) (hp : Pqs ps) (hn : ps.length ≤ 1000) : ∃ x, reprF (insG 2 p_Ratioq_reprq) [.lst ds] = some (.vl (.str x)) := by
  obtain ⟨ts, e1, e2, e3, e4⟩ := nms_rt h hp
  have e5 : rtxt (insG 2 p_Ratioq_reprq) (.lst ds) = some (listText ts) := by
    unfold rtxt
    rw [e1] <;> rfl
  have e6 : dep (.lst ds) = 1 := by unfold dep; rw [e4]
  have e7 : (listText ts).length ≤ 1000000 := by
    unfold listText
    rw [strLen_cat]
    have := textFrom_le ts 0 "[" e2
    have l1 : ("[" : Str).length = 1 := rfl
    have l2 : ("]" : Str).length = 1 := rfl
    omega
  refine ⟨listText ts, ?_⟩
  show ((rtxt (insG 2 p_Ratioq_reprq) (.lst ds)).bind fun x => if x.length ≤ 1000000 ∧ dep (.lst ds) ≤ 10 then some (T1.vl (.str x)) else none) = _
  rw [e5, e6, Option.bind_some, if_pos ⟨e7, by decide⟩]
/-! ### the ends of a sorted list -/
theorem min_fr {ps m : List (Int × Int)} {q r : Int × Int} {l : List (Int × Int)} (hps : Pqs ps) (hm : Pqs m) (e : m = r :: l) (s : Srt m) (hx : ∀ x, x ∈ m.map frD ↔ x ∈ ps.map frD) (hq : q ∈ ps) (hl : ∀ x ∈ ps, lt x q = false) : frD q = frD r := by
  subst e
  have hr := hm r (List.mem_cons_self ..)
  obtain ⟨y, hy, ey⟩ := List.mem_map.mp ((hx (frD q)).mpr (List.mem_map.mpr ⟨q, hq, rfl⟩))
  rcases List.mem_cons.mp hy with rfl | hy'
  · exact ey.symm
  · have k := (List.pairwise_cons.mp s).1 y hy'
    rw [(lt_fr (hm y hy) (hps q hq) hr ey).2] at k
    obtain ⟨z, hz, ez⟩ := List.mem_map.mp ((hx (frD r)).mp (List.mem_map.mpr ⟨r, List.mem_cons_self .., rfl⟩))
    have k2 := hl z hz
    rw [(lt_fr (hps z hz) hr (hps q hq) ez).1, k] at k2
    cases k2
theorem max_fr {ps m : List (Int × Int)} {q r : Int × Int} {l : List (Int × Int)} (hps : Pqs ps) (hm : Pqs m) (e : m = l ++ [r]) (s : Srt m) (hx : ∀ x, x ∈ m.map frD ↔ x ∈ ps.map frD) (hq : q ∈ ps) (hl : ∀ x ∈ ps, lt q x = false) : frD q = frD r := by
  subst e
  have hr := hm r (by simp)
  obtain ⟨y, hy, ey⟩ := List.mem_map.mp ((hx (frD q)).mpr (List.mem_map.mpr ⟨q, hq, rfl⟩))
  rcases List.mem_append.mp hy with hy' | hy'
  · have k := (List.pairwise_append.mp s).2.2 y hy' r (List.mem_singleton.mpr rfl)
    rw [(lt_fr (hm y hy) (hps q hq) hr ey).1] at k
    obtain ⟨z, hz, ez⟩ := List.mem_map.mp ((hx (frD r)).mp (List.mem_map.mpr ⟨r, by simp, rfl⟩))
    have k2 := hl z hz
    rw [(lt_fr (hps z hz) hr (hps q hq) ez).2, k] at k2
    cases k2
  · rw [List.mem_singleton.mp hy'] at ey
    exact ey.symm
theorem sub_last {r : Int × Int} {l : List (Int × Int)} : subD (.lst ((l ++ [r]).map ptD)) (.int (-1)) = some (.vl (ptD r)) := by
  show (atI ((l ++ [r]).map ptD) (-1)).map T1.vl = _
  unfold atI ixN
  rw [if_neg (by decide)]
  have hl : ((l ++ [r]).map ptD).length = l.length + 1 := by rw [List.length_map, List.length_append, List.length_singleton]
  rw [hl, if_pos (by omega)]
  have e : (((l.length + 1 : Nat) : Int) + -1).toNat = l.length := by omega
  have e' : ((-1 : Int) + ((l.length + 1 : Nat) : Int)).toNat = l.length := by omega
  have g : (l ++ [r])[l.length]? = some r := by simp
  show (((l ++ [r]).map ptD)[((-1 : Int) + ((l.length + 1 : Nat) : Int)).toNat]?).map T1.vl = _
  rw [e', List.getElem?_map, g] <;> rfl
end Fw
end

section
set_option maxRecDepth 100000
set_option maxHeartbeats 4000000
namespace Fw
open PySem L2 SX
theorem parts_lc (x0 x2 x3 x5 x6 x7 x8 : Slot) : ∀ (es : List D) (n : Nat) (pen : D), Pen n pen → n + 5 * es.length ≤ 800000 →
    ∃ ps pen', lcR [4] (Tg.nm 4) yesM (callP [true] p__law_parts_b [0] [] [(pk 1)]) es [x0, .own false pen, x2, x3, .un, x5, x6, x7, x8] = .ok (ps.map ptD) [x0, .own false pen', x2, x3, .un, x5, x6, x7, x8] ∧ Pqs ps ∧ ps.length = es.length ∧ Pen (n + 5 * es.length) pen'
  | [], n, pen, P, _ => ⟨[], pen, rfl, (fun _ h => nomatch h), rfl, P⟩
  | e :: es, n, pen, P, hn => by
    rw [List.length_cons] at hn
    obtain ⟨p, pen1, e1, P1, hp⟩ := partsb_ok P (by omega)
    obtain ⟨ps, pen2, e2, h2, l2, P2⟩ := parts_lc x0 x2 x3 x5 x6 x7 x8 es (n + 5) pen1 P1 (by omega)
    refine ⟨p :: ps, pen2, ?_, fun x hx => ?_, by rw [List.length_cons, List.length_cons, l2], P2.mono (by rw [List.length_cons]; omega)⟩
    · unfold lcR
      simp only [↓v_onS, ↓v_bnd, ↓v_ret, ↓v_stk, ↓v_lf, ↓v_rv, ↓v_var, ↓v_pk, ↓v_mov, ↓v_cst, ↓v_ops2, ↓v_ops1, ↓v_bin, ↓v_sub, ↓v_cmp, ↓v_un, ↓v_asV, ↓v_and, ↓v_or, ↓v_not, ↓v_if, ↓v_andV, ↓v_orV, ↓v_notV, ↓v_tst, ↓v_args0, ↓v_args1, ↓v_rvs0, ↓v_rvs1, ↓v_tup, ↓v_lst, ↓v_callB, ↓v_seq, ↓v_nx, ↓v_drop, ↓v_retM, ↓v_sto, ↓v_set, ↓v_att, ↓v_part0, ↓v_part1, ↓v_sli, ↓v_unp, ↓v_par, ↓v_seqI, ↓v_onVl, ↓v_rng, ↓v_for, ↓v_lc, ↓v_yes, ↓v_mth, ↓v_mut, ↓v_call, ↓v_meth, ↓v_cmet, ↓v_make, ↓v_makT, ↓v_makL, ↓v_callT, ↓v_six, ↓v_fld, ↓v_isi, ↓v_rs0, ↓v_try, ↓v_ise, ↓v_chn, ↓v_fmt, ↓v_lit, ↓v_cat0, ↓v_cat1, ↓v_fst, ↓v_ite, ↓reduceIte, fz, vlsO, vlO, sto1, bindAll, bind1, bindT, List.getElem?_cons_zero, List.getElem?_cons_succ, List.set_cons_zero, List.set_cons_succ, Option.map_some, Option.map_none, Option.bind_some, Option.bind_none, isTup, picks_1, picks_2, picks_21, resO, pks, putB, setO, List.nodup_cons, List.nodup_nil, List.not_mem_nil, not_false_eq_true, and_true, List.map_nil, List.map_cons, List.append_nil, List.cons_append, List.nil_append, isIns, isCls, BEq.rfl, capN, capS, Bool.false_eq_true, Bool.not_true, Bool.not_false, e1, wipeS, List.foldr_cons, List.foldr_nil, e2]
    · rcases List.mem_cons.mp hx with rfl | hx
      · exact hp
      · exact h2 x hx
theorem nums_lc (x0 x2 x3 x4 x5 x7 x8 : Slot) : ∀ (ps : List (Int × Int)) (n : Nat) (pen : D), Pen n pen → Pqs ps → n + 2 * ps.length ≤ 800000 →
    ∃ ds pen', lcR [6] (Tg.nm 6) yesM (callP [true, false] p__law_number [0, 1] [] [(pk 1), (var 6)]) (ps.map ptD) [x0, .own false pen, x2, x3, x4, x5, .un, x7, x8] = .ok ds [x0, .own false pen', x2, x3, x4, x5, .un, x7, x8] ∧ Nms ps ds ∧ Pen (n + 2 * ps.length) pen'
  | [], n, pen, P, _, _ => ⟨[], pen, rfl, .nil, P⟩
  | p :: ps, n, pen, P, h, hn => by
    rw [List.length_cons] at hn
    obtain ⟨b, d, pen1, e1, P1, hd⟩ := number_ok P (by omega) (h p (List.mem_cons_self ..))
    obtain ⟨ds, pen2, e2, h2, P2⟩ := nums_lc x0 x2 x3 x4 x5 x7 x8 ps (n + 2) pen1 P1 (fun x hx => h x (List.mem_cons_of_mem _ hx)) (by omega)
    refine ⟨d :: ds, pen2, ?_, .cons hd h2, P2.mono (by rw [List.length_cons]; omega)⟩
    rw [List.map_cons]
    unfold lcR
    cases b <;> simp only [↓v_onS, ↓v_bnd, ↓v_ret, ↓v_stk, ↓v_lf, ↓v_rv, ↓v_var, ↓v_pk, ↓v_mov, ↓v_cst, ↓v_ops2, ↓v_ops1, ↓v_bin, ↓v_sub, ↓v_cmp, ↓v_un, ↓v_asV, ↓v_and, ↓v_or, ↓v_not, ↓v_if, ↓v_andV, ↓v_orV, ↓v_notV, ↓v_tst, ↓v_args0, ↓v_args1, ↓v_rvs0, ↓v_rvs1, ↓v_tup, ↓v_lst, ↓v_callB, ↓v_seq, ↓v_nx, ↓v_drop, ↓v_retM, ↓v_sto, ↓v_set, ↓v_att, ↓v_part0, ↓v_part1, ↓v_sli, ↓v_unp, ↓v_par, ↓v_seqI, ↓v_onVl, ↓v_rng, ↓v_for, ↓v_lc, ↓v_yes, ↓v_mth, ↓v_mut, ↓v_call, ↓v_meth, ↓v_cmet, ↓v_make, ↓v_makT, ↓v_makL, ↓v_callT, ↓v_six, ↓v_fld, ↓v_isi, ↓v_rs0, ↓v_try, ↓v_ise, ↓v_chn, ↓v_fmt, ↓v_lit, ↓v_cat0, ↓v_cat1, ↓v_fst, ↓v_ite, ↓reduceIte, fz, vlsO, vlO, sto1, bindAll, bind1, bindT, List.getElem?_cons_zero, List.getElem?_cons_succ, List.set_cons_zero, List.set_cons_succ, Option.map_some, Option.map_none, Option.bind_some, Option.bind_none, isTup, picks_1, picks_2, picks_21, resO, pks, putB, setO, List.nodup_cons, List.nodup_nil, List.not_mem_nil, not_false_eq_true, and_true, List.map_nil, List.map_cons, List.append_nil, List.cons_append, List.nil_append, isIns, isCls, BEq.rfl, capN, capS, Bool.false_eq_true, Bool.not_true, Bool.not_false, e1, wipeS, List.foldr_cons, List.foldr_nil, e2]
def y1 : M Flw := (setM 3 (lcM [4] (Tg.nm 4) (rngI rngD1 [(bin addD (cst (.int 1)) (callP [true, false] p__law_draw [0, 1] [] [(pk 1), (cst (.int 7))]))]) yesM (callP [true] p__law_parts_b [0] [] [(pk 1)])))
def y2 : M Flw := (setM 3 (bin addD (pk 3) (sliM (pk 3) none (some (callP [true, false] p__law_draw [0, 1] [] [(pk 1), (cst (.int 3))])))))
def y3 : M Flw := (setM 5 (lcM [6] (Tg.nm 6) (seqI (var 3)) yesM (callP [true, false] p__law_number [0, 1] [] [(pk 1), (var 6)])))
def y4 : M Flw := (setM 7 (callB (reprF (insG 2 p_Ratioq_reprq)) [(pk 5)]))
def y5 : M Flw := (setM 8 (callP [false] p__law_sorted [0] [] [(var 3)]))
def y6 : M Flw := (ifM (orM (notM (tst (callP [false, false] p__law_are [0, 1] [] [(callP [false] p_ascending [0] [] [(var 5)]), (var 8)]))) (notM (tst (callP [false, false] p__law_are [0, 1] [] [(callP [false] p_ascending [0] [] [(un revD (pk 5))]), (var 8)]))))
    (retM (cst (.bl false))) nxM)
def y7 : M Flw := (ifM (notM (tst (callP [false, false] p__law_are [0, 1] [] [(lstM [(callP [false] p_least [0] [] [(var 5)]), (callP [false] p_greatest [0] [] [(var 5)])]), (lstM [(subM (pk 8) (cst (.int 0))), (subM (pk 8) (un negD (cst (.int 1))))])])))
    (retM (cst (.bl false))) nxM)
def y8 : M Flw := (ifM (notM (tst (callP [false, false] p__law_are [0, 1] [] [(lstM [(callP [false] p_least [0] [] [(un revD (pk 5))]), (callP [false] p_greatest [0] [] [(un revD (pk 5))])]), (lstM [(subM (pk 8) (cst (.int 0))), (subM (pk 8) (un negD (cst (.int 1))))])])))
    (retM (cst (.bl false))) nxM)
def y9 : M Flw := (ifM (cmp neD (callB (reprF (insG 2 p_Ratioq_reprq)) [(pk 5)]) (pk 7))
    (retM (cst (.bl false))) nxM)
def body2 : M Flw := (seqM y1 (seqM y2 (seqM y3 (seqM y4 (seqM y5 (seqM y6 (seqM y7 (seqM y8 y9))))))))
def ValU (s : Slot) : Prop := s = .un ∨ (∃ d, s = .val d) ∨ ∃ d, s = .own false d
theorem y1_ok {n : Nat} {x0 x2 x3 x5 x7 x8 : Slot} {pen : D} (P : Pen n pen) (hn : n ≤ 700000) (h3 : ValU x3) : ∃ ps pen', y1 [x0, .own false pen, x2, x3, .un, x5, .un, x7, x8] = .ok .nx [x0, .own false pen', x2, .own false (.lst (ps.map ptD)), .un, x5, .un, x7, x8] ∧ Pen (n + 50) pen' ∧ Pqs ps ∧ 0 < ps.length ∧ ps.length ≤ 7 := by
  obtain ⟨r, n1, e1, l1, u1, P1⟩ := draw_ok P (many := 7) (by omega) (by decide) (by decide +kernel)
  have rg : rngD1 [.int (1 + r)] = some ((List.range (1 + r).toNat).map fun (i : Nat) => D.int (0 + (i : Int))) := rng1_ok (by omega)
  have hle : ((List.range (1 + r).toNat).map fun (i : Nat) => D.int (0 + (i : Int))).length = (1 + r).toNat := by rw [List.length_map, List.length_range]
  generalize (List.range (1 + r).toNat).map (fun (i : Nat) => D.int (0 + (i : Int))) = R at rg hle
  obtain ⟨ps, pen2, e2, h2, k2, P2⟩ := parts_lc x0 x2 x3 x5 .un x7 x8 R (n + 1) n1 P1 (by omega)
  have c1 : R.length ≤ 1000000 := by omega
  refine ⟨ps, pen2, ?_, P2.mono (by omega), h2, by omega, by omega⟩
  unfold y1
  rcases h3 with rfl | ⟨d, rfl⟩ | ⟨d, rfl⟩ <;> simp only [↓v_onS, ↓v_bnd, ↓v_ret, ↓v_stk, ↓v_lf, ↓v_rv, ↓v_var, ↓v_pk, ↓v_mov, ↓v_cst, ↓v_ops2, ↓v_ops1, ↓v_bin, ↓v_sub, ↓v_cmp, ↓v_un, ↓v_asV, ↓v_and, ↓v_or, ↓v_not, ↓v_if, ↓v_andV, ↓v_orV, ↓v_notV, ↓v_tst, ↓v_args0, ↓v_args1, ↓v_rvs0, ↓v_rvs1, ↓v_tup, ↓v_lst, ↓v_callB, ↓v_seq, ↓v_nx, ↓v_drop, ↓v_retM, ↓v_sto, ↓v_set, ↓v_att, ↓v_part0, ↓v_part1, ↓v_sli, ↓v_unp, ↓v_par, ↓v_seqI, ↓v_onVl, ↓v_rng, ↓v_for, ↓v_lc, ↓v_yes, ↓v_mth, ↓v_mut, ↓v_call, ↓v_meth, ↓v_cmet, ↓v_make, ↓v_makT, ↓v_makL, ↓v_callT, ↓v_six, ↓v_fld, ↓v_isi, ↓v_rs0, ↓v_try, ↓v_ise, ↓v_chn, ↓v_fmt, ↓v_lit, ↓v_cat0, ↓v_cat1, ↓v_fst, ↓v_ite, ↓reduceIte, fz, vlsO, vlO, sto1, bindAll, bind1, bindT, List.getElem?_cons_zero, List.getElem?_cons_succ, List.set_cons_zero, List.set_cons_succ, Option.map_some, Option.map_none, Option.bind_some, Option.bind_none, isTup, picks_1, picks_2, picks_21, resO, pks, putB, setO, List.nodup_cons, List.nodup_nil, List.not_mem_nil, not_false_eq_true, and_true, List.map_nil, List.map_cons, List.append_nil, List.cons_append, List.nil_append, isIns, isCls, BEq.rfl, capN, capS, Bool.false_eq_true, Bool.not_true, Bool.not_false, e1, addD_int, rg, c1, notOwn, List.all_cons, List.all_nil, Bool.and_self, and_self, wipeS, List.foldr_cons, List.foldr_nil, backS, e2]
theorem y2_ok {n : Nat} {x0 x2 x5 x7 x8 : Slot} {pen : D} {ps : List (Int × Int)} (P : Pen n pen) (hn : n ≤ 700000) (h : Pqs ps) (h0 : 0 < ps.length) (h7 : ps.length ≤ 7) : ∃ qs pen', y2 [x0, .own false pen, x2, .own false (.lst (ps.map ptD)), .un, x5, .un, x7, x8] = .ok .nx [x0, .own false pen', x2, .own false (.lst (qs.map ptD)), .un, x5, .un, x7, x8] ∧ Pen (n + 1) pen' ∧ Pqs qs ∧ 0 < qs.length ∧ qs.length ≤ 20 := by
  obtain ⟨r, n1, e1, l1, u1, P1⟩ := draw_ok P (many := 3) (by omega) (by decide) (by decide +kernel)
  have sl : ∃ a b, sliD (.lst (ps.map ptD)) none (some r) = some (.fr (.lst (((ps.drop a).take b).map ptD))) := by
    refine ⟨HT.sIx (ps.map ptD).length 0 none, HT.sIx (ps.map ptD).length (ps.map ptD).length (some r) - HT.sIx (ps.map ptD).length 0 none, ?_⟩
    rw [List.map_take, List.map_drop] <;> rfl
  obtain ⟨a, b, es⟩ := sl
  have lb : ((ps.drop a).take b).length ≤ 7 := by rw [List.length_take, List.length_drop]; omega
  have ad : addD (.lst (ps.map ptD)) (.lst (((ps.drop a).take b).map ptD)) = some (.fr (.lst ((ps ++ (ps.drop a).take b).map ptD))) := by
    rw [addL (by rw [List.length_map, List.length_map]; omega), List.map_append]
  refine ⟨ps ++ (ps.drop a).take b, n1, ?_, P1, fun x hx => ?_, by rw [List.length_append]; omega, by rw [List.length_append]; omega⟩
  · unfold y2
    simp only [↓v_onS, ↓v_bnd, ↓v_ret, ↓v_stk, ↓v_lf, ↓v_rv, ↓v_var, ↓v_pk, ↓v_mov, ↓v_cst, ↓v_ops2, ↓v_ops1, ↓v_bin, ↓v_sub, ↓v_cmp, ↓v_un, ↓v_asV, ↓v_and, ↓v_or, ↓v_not, ↓v_if, ↓v_andV, ↓v_orV, ↓v_notV, ↓v_tst, ↓v_args0, ↓v_args1, ↓v_rvs0, ↓v_rvs1, ↓v_tup, ↓v_lst, ↓v_callB, ↓v_seq, ↓v_nx, ↓v_drop, ↓v_retM, ↓v_sto, ↓v_set, ↓v_att, ↓v_part0, ↓v_part1, ↓v_sli, ↓v_unp, ↓v_par, ↓v_seqI, ↓v_onVl, ↓v_rng, ↓v_for, ↓v_lc, ↓v_yes, ↓v_mth, ↓v_mut, ↓v_call, ↓v_meth, ↓v_cmet, ↓v_make, ↓v_makT, ↓v_makL, ↓v_callT, ↓v_six, ↓v_fld, ↓v_isi, ↓v_rs0, ↓v_try, ↓v_ise, ↓v_chn, ↓v_fmt, ↓v_lit, ↓v_cat0, ↓v_cat1, ↓v_fst, ↓v_ite, ↓reduceIte, fz, vlsO, vlO, sto1, bindAll, bind1, bindT, List.getElem?_cons_zero, List.getElem?_cons_succ, List.set_cons_zero, List.set_cons_succ, Option.map_some, Option.map_none, Option.bind_some, Option.bind_none, isTup, picks_1, picks_2, picks_21, resO, pks, putB, setO, List.nodup_cons, List.nodup_nil, List.not_mem_nil, not_false_eq_true, and_true, List.map_nil, List.map_cons, List.append_nil, List.cons_append, List.nil_append, isIns, isCls, BEq.rfl, capN, capS, Bool.false_eq_true, Bool.not_true, Bool.not_false, e1, intD, es, ad]
  · rcases List.mem_append.mp hx with hx | hx
    · exact h x hx
    · exact h x (List.mem_of_mem_drop (List.mem_of_mem_take hx))
theorem y3_ok {n : Nat} {x0 x2 x5 x7 x8 : Slot} {pen : D} {ps : List (Int × Int)} (P : Pen n pen) (hn : n ≤ 700000) (h : Pqs ps) (h7 : ps.length ≤ 20) (h5 : ValU x5) : ∃ ds pen', y3 [x0, .own false pen, x2, .own false (.lst (ps.map ptD)), .un, x5, .un, x7, x8] = .ok .nx [x0, .own false pen', x2, .val (.lst (ps.map ptD)), .un, .own false (.lst ds), .un, x7, x8] ∧ Pen (n + 40) pen' ∧ Nms ps ds := by
  obtain ⟨ds, pen2, e2, h2, P2⟩ := nums_lc x0 x2 (.val (.lst (ps.map ptD))) .un x5 x7 x8 ps n pen P h (by omega)
  have c1 : (ps.map ptD).length ≤ 1000000 := by rw [List.length_map]; omega
  refine ⟨ds, pen2, ?_, P2.mono (by omega), h2⟩
  unfold y3
  rcases h5 with rfl | ⟨d, rfl⟩ | ⟨d, rfl⟩ <;> simp only [↓v_onS, ↓v_bnd, ↓v_ret, ↓v_stk, ↓v_lf, ↓v_rv, ↓v_var, ↓v_pk, ↓v_mov, ↓v_cst, ↓v_ops2, ↓v_ops1, ↓v_bin, ↓v_sub, ↓v_cmp, ↓v_un, ↓v_asV, ↓v_and, ↓v_or, ↓v_not, ↓v_if, ↓v_andV, ↓v_orV, ↓v_notV, ↓v_tst, ↓v_args0, ↓v_args1, ↓v_rvs0, ↓v_rvs1, ↓v_tup, ↓v_lst, ↓v_callB, ↓v_seq, ↓v_nx, ↓v_drop, ↓v_retM, ↓v_sto, ↓v_set, ↓v_att, ↓v_part0, ↓v_part1, ↓v_sli, ↓v_unp, ↓v_par, ↓v_seqI, ↓v_onVl, ↓v_rng, ↓v_for, ↓v_lc, ↓v_yes, ↓v_mth, ↓v_mut, ↓v_call, ↓v_meth, ↓v_cmet, ↓v_make, ↓v_makT, ↓v_makL, ↓v_callT, ↓v_six, ↓v_fld, ↓v_isi, ↓v_rs0, ↓v_try, ↓v_ise, ↓v_chn, ↓v_fmt, ↓v_lit, ↓v_cat0, ↓v_cat1, ↓v_fst, ↓v_ite, ↓reduceIte, fz, vlsO, vlO, sto1, bindAll, bind1, bindT, List.getElem?_cons_zero, List.getElem?_cons_succ, List.set_cons_zero, List.set_cons_succ, Option.map_some, Option.map_none, Option.bind_some, Option.bind_none, isTup, picks_1, picks_2, picks_21, resO, pks, putB, setO, List.nodup_cons, List.nodup_nil, List.not_mem_nil, not_false_eq_true, and_true, List.map_nil, List.map_cons, List.append_nil, List.cons_append, List.nil_append, isIns, isCls, BEq.rfl, capN, capS, Bool.false_eq_true, Bool.not_true, Bool.not_false, seqDL, c1, notOwn, List.all_cons, List.all_nil, Bool.and_self, and_self, wipeS, List.foldr_cons, List.foldr_nil, backS, e2]
theorem rest_ok {x0 x2 x7 x8 : Slot} {pen : D} {ps : List (Int × Int)} {ds : List D} (h : Pqs ps) (h0 : 0 < ps.length) (h7 : ps.length ≤ 20) (hd : Nms ps ds) (k7 : ValU x7) (k8 : ValU x8) : ∃ d7 d8, (seqM y4 (seqM y5 (seqM y6 (seqM y7 (seqM y8 y9))))) [x0, .own false pen, x2, .val (.lst (ps.map ptD)), .un, .own false (.lst ds), .un, x7, x8] = .ok .nx [x0, .own false pen, x2, .val (.lst (ps.map ptD)), .un, .val (.lst ds), .un, .val d7, .val d8] := by
  have hdr := hd.rev
  have hr : Pqs ps.reverse := fun x hx => h x (List.mem_reverse.mp hx)
  have l0 : 0 < ps.reverse.length := by rw [List.length_reverse]; exact h0
  have l7 : ps.reverse.length ≤ 800 := by rw [List.length_reverse]; omega
  obtain ⟨y, ey⟩ := rp_nums hd h (by omega)
  obtain ⟨m, em, hm, sm, lm, xm⟩ := sorted_ok h (by omega)
  obtain ⟨m1, ea1, hm1, sm1, xm1⟩ := asc_ok hd h (by omega)
  obtain ⟨m2, ea2, hm2, sm2, xm2⟩ := asc_ok hdr hr l7
  have xr : ∀ x, x ∈ ps.reverse.map frD ↔ x ∈ ps.map frD := fun x => by rw [List.map_reverse, List.mem_reverse]
  rw [uniq hm1 hm sm1 sm fun x => (xm1 x).trans (xm x).symm] at ea1
  rw [uniq hm2 hm sm2 sm fun x => ((xm2 x).trans (xr x)).trans (xm x).symm] at ea2
  have am := are_ok hm (by omega)
  obtain ⟨b1, w1, el1, q1m, q1l⟩ := least_ok hd h h0
  obtain ⟨b2, w2, eg1, q2m, q2l⟩ := greatest_ok hd h h0
  obtain ⟨b3, w3, el2, q3m, q3l⟩ := least_ok hdr hr l0
  obtain ⟨b4, w4, eg2, q4m, q4l⟩ := greatest_ok hdr hr l0
  have ne : m ≠ [] := fun z => by
    cases ps with
    | nil => cases h0
    | cons p ps =>
      have := (xm (frD p)).mpr (by simp)
      rw [z] at this
      cases this
  have xmr : ∀ x, x ∈ m.map frD ↔ x ∈ ps.reverse.map frD := fun x => (xm x).trans (xr x).symm
  obtain ⟨r, l, e1⟩ : ∃ r l, m = r :: l := by
    cases m with
    | nil => exact absurd rfl ne
    | cons r l => exact ⟨r, l, rfl⟩
  obtain ⟨l', r', e2⟩ : ∃ l' r', m = l' ++ [r'] := ⟨m.dropLast, m.getLast ne, (List.dropLast_concat_getLast ne).symm⟩
  rw [min_fr h hm e1 sm xm q1m q1l] at el1
  rw [max_fr h hm e2 sm xm q2m q2l] at eg1
  rw [min_fr hr hm e1 sm xmr q3m q3l] at el2
  rw [max_fr hr hm e2 sm xmr q4m q4l] at eg2
  have s0 : subD (.lst (m.map ptD)) (.int 0) = some (.vl (ptD r)) := by rw [e1]; exact sub_h0 _ _
  have s1 : subD (.lst (m.map ptD)) (.int (-1)) = some (.vl (ptD r')) := by rw [e2]; exact sub_last
  have hr1 : Pq r := hm r (by rw [e1]; simp)
  have hr2 : Pq r' := hm r' (by rw [e2]; simp)
  have am2 : p__law_are [.lst [frD r, frD r'], .lst [ptD r, ptD r']] = .ok false (.bl true) [] := are_ok (l := [r, r']) (fun x hx => by
    simp only [List.mem_cons, List.not_mem_nil, or_false] at hx
    rcases hx with rfl | rfl <;> assumption) (by simp)
  have rv : revD (.lst ds) = some (.fr (.lst ds.reverse)) := rfl
  have ng : negD (.int 1) = some (.vl (.int (-1))) := rfl
  have c2 : ∀ a b : D, [a, b].length ≤ 100000 := fun a b => by simp
  have t1 : (seqM y4 y5) [x0, .own false pen, x2, .val (.lst (ps.map ptD)), .un, .own false (.lst ds), .un, x7, x8] = .ok .nx [x0, .own false pen, x2, .val (.lst (ps.map ptD)), .un, .own false (.lst ds), .un, .val (.str y), .own false (.lst (m.map ptD))] := by
    unfold y4 y5
    generalize m.map ptD = Lp at *
    generalize ps.map ptD = Pp at *
    rcases k7 with rfl | ⟨_, rfl⟩ | ⟨_, rfl⟩ <;> rcases k8 with rfl | ⟨_, rfl⟩ | ⟨_, rfl⟩ <;> simp only [↓v_onS, ↓v_bnd, ↓v_ret, ↓v_stk, ↓v_lf, ↓v_rv, ↓v_var, ↓v_pk, ↓v_mov, ↓v_cst, ↓v_ops2, ↓v_ops1, ↓v_bin, ↓v_sub, ↓v_cmp, ↓v_un, ↓v_asV, ↓v_and, ↓v_or, ↓v_not, ↓v_if, ↓v_andV, ↓v_orV, ↓v_notV, ↓v_tst, ↓v_args0, ↓v_args1, ↓v_rvs0, ↓v_rvs1, ↓v_tup, ↓v_lst, ↓v_callB, ↓v_seq, ↓v_nx, ↓v_drop, ↓v_retM, ↓v_sto, ↓v_set, ↓v_att, ↓v_part0, ↓v_part1, ↓v_sli, ↓v_unp, ↓v_par, ↓v_seqI, ↓v_onVl, ↓v_rng, ↓v_for, ↓v_lc, ↓v_yes, ↓v_mth, ↓v_mut, ↓v_call, ↓v_meth, ↓v_cmet, ↓v_make, ↓v_makT, ↓v_makL, ↓v_callT, ↓v_six, ↓v_fld, ↓v_isi, ↓v_rs0, ↓v_try, ↓v_ise, ↓v_chn, ↓v_fmt, ↓v_lit, ↓v_cat0, ↓v_cat1, ↓v_fst, ↓v_ite, ↓reduceIte, fz, vlsO, vlO, sto_vl, sto_fr, sto_L, bindAll, bind1, bindT, List.getElem?_cons_zero, List.getElem?_cons_succ, List.set_cons_zero, List.set_cons_succ, Option.map_some, Option.map_none, Option.bind_some, Option.bind_none, tup_lst, isTup_fr, picks_1, picks_2, picks_21, resO, pks, putB, setO, List.nodup_cons, List.nodup_nil, List.not_mem_nil, not_false_eq_true, and_true, List.map_nil, List.map_cons, List.append_nil, List.cons_append, List.nil_append, isIns_fr, isCls, BEq.rfl, capN, capS, Bool.false_eq_true, Bool.not_true, Bool.not_false, ey, em, sto_L]
  have t2 : y6 [x0, .own false pen, x2, .val (.lst (ps.map ptD)), .un, .own false (.lst ds), .un, .val (.str y), .own false (.lst (m.map ptD))] = .ok .nx [x0, .own false pen, x2, .val (.lst (ps.map ptD)), .un, .val (.lst ds), .un, .val (.str y), .val (.lst (m.map ptD))] := by
    unfold y6
    generalize m.map frD = Lf at *
    generalize m.map ptD = Lp at *
    generalize ps.map ptD = Pp at *
    generalize ds.reverse = Rd at *
    simp only [↓v_onS, ↓v_bnd, ↓v_ret, ↓v_stk, ↓v_lf, ↓v_rv, ↓v_var, ↓v_pk, ↓v_mov, ↓v_cst, ↓v_ops2, ↓v_ops1, ↓v_bin, ↓v_sub, ↓v_cmp, ↓v_un, ↓v_asV, ↓v_and, ↓v_or, ↓v_not, ↓v_if, ↓v_andV, ↓v_orV, ↓v_notV, ↓v_tst, ↓v_args0, ↓v_args1, ↓v_rvs0, ↓v_rvs1, ↓v_tup, ↓v_lst, ↓v_callB, ↓v_seq, ↓v_nx, ↓v_drop, ↓v_retM, ↓v_sto, ↓v_set, ↓v_att, ↓v_part0, ↓v_part1, ↓v_sli, ↓v_unp, ↓v_par, ↓v_seqI, ↓v_onVl, ↓v_rng, ↓v_for, ↓v_lc, ↓v_yes, ↓v_mth, ↓v_mut, ↓v_call, ↓v_meth, ↓v_cmet, ↓v_make, ↓v_makT, ↓v_makL, ↓v_callT, ↓v_six, ↓v_fld, ↓v_isi, ↓v_rs0, ↓v_try, ↓v_ise, ↓v_chn, ↓v_fmt, ↓v_lit, ↓v_cat0, ↓v_cat1, ↓v_fst, ↓v_ite, ↓reduceIte, fz, vlsO, vlO, sto_vl, sto_fr, sto_L, bindAll, bind1, bindT, List.getElem?_cons_zero, List.getElem?_cons_succ, List.set_cons_zero, List.set_cons_succ, Option.map_some, Option.map_none, Option.bind_some, Option.bind_none, tup_lst, isTup_fr, picks_1, picks_2, picks_21, resO, pks, putB, setO, List.nodup_cons, List.nodup_nil, List.not_mem_nil, not_false_eq_true, and_true, List.map_nil, List.map_cons, List.append_nil, List.cons_append, List.nil_append, isIns_fr, isCls, BEq.rfl, capN, capS, Bool.false_eq_true, Bool.not_true, Bool.not_false, ea1, ea2, am, rv, truD]
  have t3 : y7 [x0, .own false pen, x2, .val (.lst (ps.map ptD)), .un, .val (.lst ds), .un, .val (.str y), .val (.lst (m.map ptD))] = .ok .nx [x0, .own false pen, x2, .val (.lst (ps.map ptD)), .un, .val (.lst ds), .un, .val (.str y), .val (.lst (m.map ptD))] := by
    unfold y7
    generalize m.map ptD = Lp at *
    generalize ps.map ptD = Pp at *
    cases b1 <;> cases b2 <;> simp only [↓v_onS, ↓v_bnd, ↓v_ret, ↓v_stk, ↓v_lf, ↓v_rv, ↓v_var, ↓v_pk, ↓v_mov, ↓v_cst, ↓v_ops2, ↓v_ops1, ↓v_bin, ↓v_sub, ↓v_cmp, ↓v_un, ↓v_asV, ↓v_and, ↓v_or, ↓v_not, ↓v_if, ↓v_andV, ↓v_orV, ↓v_notV, ↓v_tst, ↓v_args0, ↓v_args1, ↓v_rvs0, ↓v_rvs1, ↓v_tup, ↓v_lst, ↓v_callB, ↓v_seq, ↓v_nx, ↓v_drop, ↓v_retM, ↓v_sto, ↓v_set, ↓v_att, ↓v_part0, ↓v_part1, ↓v_sli, ↓v_unp, ↓v_par, ↓v_seqI, ↓v_onVl, ↓v_rng, ↓v_for, ↓v_lc, ↓v_yes, ↓v_mth, ↓v_mut, ↓v_call, ↓v_meth, ↓v_cmet, ↓v_make, ↓v_makT, ↓v_makL, ↓v_callT, ↓v_six, ↓v_fld, ↓v_isi, ↓v_rs0, ↓v_try, ↓v_ise, ↓v_chn, ↓v_fmt, ↓v_lit, ↓v_cat0, ↓v_cat1, ↓v_fst, ↓v_ite, ↓reduceIte, fz, vlsO, vlO, sto_vl, sto_fr, sto_L, bindAll, bind1, bindT, List.getElem?_cons_zero, List.getElem?_cons_succ, List.set_cons_zero, List.set_cons_succ, Option.map_some, Option.map_none, Option.bind_some, Option.bind_none, tup_lst, isTup_fr, picks_1, picks_2, picks_21, resO, pks, putB, setO, List.nodup_cons, List.nodup_nil, List.not_mem_nil, not_false_eq_true, and_true, List.map_nil, List.map_cons, List.append_nil, List.cons_append, List.nil_append, isIns_fr, isCls, BEq.rfl, capN, capS, Bool.false_eq_true, Bool.not_true, Bool.not_false, el1, eg1, s0, s1, am2, ng, c2, truD, vlsO]
  have t4 : y8 [x0, .own false pen, x2, .val (.lst (ps.map ptD)), .un, .val (.lst ds), .un, .val (.str y), .val (.lst (m.map ptD))] = .ok .nx [x0, .own false pen, x2, .val (.lst (ps.map ptD)), .un, .val (.lst ds), .un, .val (.str y), .val (.lst (m.map ptD))] := by
    unfold y8
    generalize m.map ptD = Lp at *
    generalize ps.map ptD = Pp at *
    generalize ds.reverse = Rd at *
    cases b3 <;> cases b4 <;> simp only [↓v_onS, ↓v_bnd, ↓v_ret, ↓v_stk, ↓v_lf, ↓v_rv, ↓v_var, ↓v_pk, ↓v_mov, ↓v_cst, ↓v_ops2, ↓v_ops1, ↓v_bin, ↓v_sub, ↓v_cmp, ↓v_un, ↓v_asV, ↓v_and, ↓v_or, ↓v_not, ↓v_if, ↓v_andV, ↓v_orV, ↓v_notV, ↓v_tst, ↓v_args0, ↓v_args1, ↓v_rvs0, ↓v_rvs1, ↓v_tup, ↓v_lst, ↓v_callB, ↓v_seq, ↓v_nx, ↓v_drop, ↓v_retM, ↓v_sto, ↓v_set, ↓v_att, ↓v_part0, ↓v_part1, ↓v_sli, ↓v_unp, ↓v_par, ↓v_seqI, ↓v_onVl, ↓v_rng, ↓v_for, ↓v_lc, ↓v_yes, ↓v_mth, ↓v_mut, ↓v_call, ↓v_meth, ↓v_cmet, ↓v_make, ↓v_makT, ↓v_makL, ↓v_callT, ↓v_six, ↓v_fld, ↓v_isi, ↓v_rs0, ↓v_try, ↓v_ise, ↓v_chn, ↓v_fmt, ↓v_lit, ↓v_cat0, ↓v_cat1, ↓v_fst, ↓v_ite, ↓reduceIte, fz, vlsO, vlO, sto_vl, sto_fr, sto_L, bindAll, bind1, bindT, List.getElem?_cons_zero, List.getElem?_cons_succ, List.set_cons_zero, List.set_cons_succ, Option.map_some, Option.map_none, Option.bind_some, Option.bind_none, tup_lst, isTup_fr, picks_1, picks_2, picks_21, resO, pks, putB, setO, List.nodup_cons, List.nodup_nil, List.not_mem_nil, not_false_eq_true, and_true, List.map_nil, List.map_cons, List.append_nil, List.cons_append, List.nil_append, isIns_fr, isCls, BEq.rfl, capN, capS, Bool.false_eq_true, Bool.not_true, Bool.not_false, el2, eg2, s0, s1, am2, rv, ng, c2, truD, vlsO]
  have t5 : y9 [x0, .own false pen, x2, .val (.lst (ps.map ptD)), .un, .val (.lst ds), .un, .val (.str y), .val (.lst (m.map ptD))] = .ok .nx [x0, .own false pen, x2, .val (.lst (ps.map ptD)), .un, .val (.lst ds), .un, .val (.str y), .val (.lst (m.map ptD))] := by
    unfold y9
    generalize m.map ptD = Lp at *
    generalize ps.map ptD = Pp at *
    simp only [↓v_onS, ↓v_bnd, ↓v_ret, ↓v_stk, ↓v_lf, ↓v_rv, ↓v_var, ↓v_pk, ↓v_mov, ↓v_cst, ↓v_ops2, ↓v_ops1, ↓v_bin, ↓v_sub, ↓v_cmp, ↓v_un, ↓v_asV, ↓v_and, ↓v_or, ↓v_not, ↓v_if, ↓v_andV, ↓v_orV, ↓v_notV, ↓v_tst, ↓v_args0, ↓v_args1, ↓v_rvs0, ↓v_rvs1, ↓v_tup, ↓v_lst, ↓v_callB, ↓v_seq, ↓v_nx, ↓v_drop, ↓v_retM, ↓v_sto, ↓v_set, ↓v_att, ↓v_part0, ↓v_part1, ↓v_sli, ↓v_unp, ↓v_par, ↓v_seqI, ↓v_onVl, ↓v_rng, ↓v_for, ↓v_lc, ↓v_yes, ↓v_mth, ↓v_mut, ↓v_call, ↓v_meth, ↓v_cmet, ↓v_make, ↓v_makT, ↓v_makL, ↓v_callT, ↓v_six, ↓v_fld, ↓v_isi, ↓v_rs0, ↓v_try, ↓v_ise, ↓v_chn, ↓v_fmt, ↓v_lit, ↓v_cat0, ↓v_cat1, ↓v_fst, ↓v_ite, ↓reduceIte, fz, vlsO, vlO, sto_vl, sto_fr, sto_L, bindAll, bind1, bindT, List.getElem?_cons_zero, List.getElem?_cons_succ, List.set_cons_zero, List.set_cons_succ, Option.map_some, Option.map_none, Option.bind_some, Option.bind_none, tup_lst, isTup_fr, picks_1, picks_2, picks_21, resO, pks, putB, setO, List.nodup_cons, List.nodup_nil, List.not_mem_nil, not_false_eq_true, and_true, List.map_nil, List.map_cons, List.append_nil, List.cons_append, List.nil_append, isIns_fr, isCls, BEq.rfl, capN, capS, Bool.false_eq_true, Bool.not_true, Bool.not_false, ey, neD_str]
  refine ⟨.str y, .lst (m.map ptD), ?_⟩
  have as : ∀ (a b c : M Flw), seqM a (seqM b c) = seqM (seqM a b) c := fun a b c => by
    funext st
    rw [v_seq, v_seq, v_seq]
    cases a st with
    | ok f s => cases f <;> rfl
    | exc e s => rfl
    | no => rfl
  rw [as, v_seq, t1]
  show (seqM y6 _) _ = _
  rw [v_seq, t2]
  show (seqM y7 _) _ = _
  rw [v_seq, t3]
  show (seqM y8 _) _ = _
  rw [v_seq, t4]
  exact t5
def Fr2 (a pen : D) (st : Sl) : Prop := ∃ x2 x3 x5 x7 x8 : Slot, (x2 = .un ∨ ∃ d, x2 = .val d) ∧ ValU x3 ∧ ValU x5 ∧ ValU x7 ∧ ValU x8 ∧ st = [.val a, .own false pen, x2, x3, .un, x5, .un, x7, x8]
theorem turn2 {n : Nat} {a pen d : D} {st : Sl} (h : Fr2 a pen st) (P : Pen n pen) (hn : n ≤ 600000) : ∃ st1 pen' st2, bindT (.nm 2) d st = some st1 ∧ body2 st1 = .ok .nx st2 ∧ Fr2 a pen' st2 ∧ Pen (n + 100) pen' := by
  obtain ⟨x2, x3, x5, x7, x8, h2, h3, h5, h7, h8, rfl⟩ := h
  obtain ⟨ps, pen1, e1, P1, h1, l0, l7⟩ := y1_ok (x0 := .val a) (x2 := .val d) (x5 := x5) (x7 := x7) (x8 := x8) P (by omega) h3
  obtain ⟨qs, pen2, e2, P2, hq, m0, m7⟩ := y2_ok (x0 := .val a) (x2 := .val d) (x5 := x5) (x7 := x7) (x8 := x8) P1 (by omega) h1 l0 l7
  obtain ⟨ds, pen3, e3, P3, hd⟩ := y3_ok (x0 := .val a) (x2 := .val d) (x7 := x7) (x8 := x8) P2 (by omega) hq m7 h5
  obtain ⟨d7, d8, e4⟩ := rest_ok (x0 := .val a) (x2 := .val d) (pen := pen3) hq m0 m7 hd h7 h8
  refine ⟨[.val a, .own false pen, .val d, x3, .un, x5, .un, x7, x8], pen3, [.val a, .own false pen3, .val d, .val (.lst (qs.map ptD)), .un, .val (.lst ds), .un, .val d7, .val d8], ?_, ?_, ⟨_, _, _, _, _, .inr ⟨_, rfl⟩, .inr (.inl ⟨_, rfl⟩), .inr (.inl ⟨_, rfl⟩), .inr (.inl ⟨_, rfl⟩), .inr (.inl ⟨_, rfl⟩), rfl⟩, P3.mono (by omega)⟩
  · rcases h2 with rfl | ⟨_, rfl⟩ <;> rfl
  · unfold body2
    rw [v_seq, e1]
    show (seqM y2 _) _ = _
    rw [v_seq, e2]
    show (seqM y3 _) _ = _
    rw [v_seq, e3]
    exact e4
theorem loop2 {a : D} : ∀ (ds : List D) (n : Nat) (pen : D) (st : Sl), Fr2 a pen st → Pen n pen → n + 100 * ds.length ≤ 600000 → ∃ st', forD (Tg.nm 2) body2 ds st = .ok .nx st'
  | [], _, _, st, _, _, _ => ⟨st, rfl⟩
  | d :: ds, n, pen, st, h, P, hn => by
    rw [List.length_cons] at hn
    obtain ⟨st1, pen', st2, e1, e2, h2, P2⟩ := turn2 (d := d) h P (by omega)
    obtain ⟨st', e3⟩ := loop2 ds (n + 100) pen' st2 h2 P2 (by omega)
    refine ⟨st', ?_⟩
    unfold forD
    rw [e1]
    simp only [e2]
    exact e3
theorem two_ok {ns : List Int} (hl : ns.length ≤ 63) (hb : ∀ z ∈ ns, Builtin.Int.intBits z ≤ 1048576) : p__law_part_two [.scr ns] = .ok false (.bl true) [] := by
  obtain ⟨pen, e, P⟩ := pen_ok hl hb
  unfold p__law_part_two
  rw [fnOf_eq _ _ _ _ rfl]
  show finF _ ((seqM (setM 1 (callP [false] p__law_pen [0] [] [(var 0)])) (seqM (ifM (cmp neD (callP [false] p_ascending [0] [] [(lstM [])]) (lstM [])) (retM (cst (.bl false))) nxM) (seqM (forM (Tg.nm 2) (rngI rngD1 [(cst (.int 6))]) body2) (retM (cst (.bl true)))))) [.val (.scr ns), .un, .un, .un, .un, .un, .un, .un, .un]) = _
  have r : rngD1 [.int 6] = some ((List.range 6).map fun (i : Nat) => D.int (0 + (i : Int))) := rng1_ok (by decide)
  have hl8 : 0 + 100 * ((List.range 6).map fun (i : Nat) => D.int (0 + (i : Int))).length ≤ 600000 := by rw [List.length_map, List.length_range]; decide
  obtain ⟨st', e3⟩ := loop2 (a := .scr ns) ((List.range 6).map fun (i : Nat) => D.int (0 + (i : Int))) 0 pen [.val (.scr ns), .own false pen, .un, .un, .un, .un, .un, .un, .un] ⟨_, _, _, _, _, .inl rfl, .inl rfl, .inl rfl, .inl rfl, .inl rfl, rfl⟩ P hl8
  generalize (List.range 6).map (fun (i : Nat) => D.int (0 + (i : Int))) = R at r e3
  obtain ⟨m, em, _, _, xm⟩ := asc_ok .nil (fun _ h => nomatch h) (by decide)
  have m0 : m = [] := by
    cases m with
    | nil => rfl
    | cons p m => have := (xm (frD p)).mp (by simp); cases this
  rw [m0] at em
  have nn : neD (.lst []) (.lst []) = some false := ne_nil []
  have hp := P.ex
  obtain ⟨cs, at_, gr, rfl, _⟩ := hp
  unfold penD at e e3
  have em' : p_ascending [.lst []] = .ok true (.lst []) [] := em
  simp only [↓v_onS, ↓v_bnd, ↓v_ret, ↓v_stk, ↓v_lf, ↓v_rv, ↓v_var, ↓v_pk, ↓v_mov, ↓v_cst, ↓v_ops2, ↓v_ops1, ↓v_bin, ↓v_sub, ↓v_cmp, ↓v_un, ↓v_asV, ↓v_and, ↓v_or, ↓v_not, ↓v_if, ↓v_andV, ↓v_orV, ↓v_notV, ↓v_tst, ↓v_args0, ↓v_args1, ↓v_rvs0, ↓v_rvs1, ↓v_tup, ↓v_lst, ↓v_callB, ↓v_seq, ↓v_nx, ↓v_drop, ↓v_retM, ↓v_sto, ↓v_set, ↓v_att, ↓v_part0, ↓v_part1, ↓v_sli, ↓v_unp, ↓v_par, ↓v_seqI, ↓v_onVl, ↓v_rng, ↓v_for, ↓v_lc, ↓v_yes, ↓v_mth, ↓v_mut, ↓v_call, ↓v_meth, ↓v_cmet, ↓v_make, ↓v_makT, ↓v_makL, ↓v_callT, ↓v_six, ↓v_fld, ↓v_isi, ↓v_rs0, ↓v_try, ↓v_ise, ↓v_chn, ↓v_fmt, ↓v_lit, ↓v_cat0, ↓v_cat1, ↓v_fst, ↓v_ite, ↓reduceIte, fz, vlsO, vlO, sto1, bindAll, bind1, bindT, List.getElem?_cons_zero, List.getElem?_cons_succ, List.set_cons_zero, List.set_cons_succ, Option.map_some, Option.map_none, Option.bind_some, Option.bind_none, isTup, picks_1, picks_2, picks_21, resO, pks, putB, setO, List.nodup_cons, List.nodup_nil, List.not_mem_nil, not_false_eq_true, and_true, List.map_nil, List.map_cons, List.append_nil, List.cons_append, List.nil_append, isIns, isCls, BEq.rfl, capN, capS, Bool.false_eq_true, Bool.not_true, Bool.not_false, e, em', nn, r, e3, finF, outsO]
theorem law_true : ∀ ns : List Int, ns.length ≤ 63 → (∀ z ∈ ns, Builtin.Int.intBits z ≤ 1048576) → p_law [.scr ns] = .ok false (.bl true) [] := by
  intro ns hl hb
  have e1 := one_ok hl hb
  have e2 := two_ok hl hb
  unfold p_law
  rw [fnOf_eq _ _ _ _ rfl]
  show finF _ (b_law _ [.val (.scr ns)]) = _
  unfold b_law
  simp only [↓v_onS, ↓v_bnd, ↓v_ret, ↓v_stk, ↓v_lf, ↓v_rv, ↓v_var, ↓v_pk, ↓v_mov, ↓v_cst, ↓v_ops2, ↓v_ops1, ↓v_bin, ↓v_sub, ↓v_cmp, ↓v_un, ↓v_asV, ↓v_and, ↓v_or, ↓v_not, ↓v_if, ↓v_andV, ↓v_orV, ↓v_notV, ↓v_tst, ↓v_args0, ↓v_args1, ↓v_rvs0, ↓v_rvs1, ↓v_tup, ↓v_lst, ↓v_callB, ↓v_seq, ↓v_nx, ↓v_drop, ↓v_retM, ↓v_sto, ↓v_set, ↓v_att, ↓v_part0, ↓v_part1, ↓v_sli, ↓v_unp, ↓v_par, ↓v_seqI, ↓v_onVl, ↓v_rng, ↓v_for, ↓v_lc, ↓v_yes, ↓v_mth, ↓v_mut, ↓v_call, ↓v_meth, ↓v_cmet, ↓v_make, ↓v_makT, ↓v_makL, ↓v_callT, ↓v_six, ↓v_fld, ↓v_isi, ↓v_rs0, ↓v_try, ↓v_ise, ↓v_chn, ↓v_fmt, ↓v_lit, ↓v_cat0, ↓v_cat1, ↓v_fst, ↓v_ite, ↓reduceIte, fz, vlsO, vlO, sto1, bindAll, bind1, bindT, List.getElem?_cons_zero, List.getElem?_cons_succ, List.set_cons_zero, List.set_cons_succ, Option.map_some, Option.map_none, Option.bind_some, Option.bind_none, isTup, picks_1, picks_2, picks_21, resO, pks, putB, setO, List.nodup_cons, List.nodup_nil, List.not_mem_nil, not_false_eq_true, and_true, List.map_nil, List.map_cons, List.append_nil, List.cons_append, List.nil_append, isIns, isCls, BEq.rfl, capN, capS, Bool.false_eq_true, Bool.not_true, Bool.not_false, e1, e2, boolD, finF, outsO]
end Fw
end

section
namespace Fw
open PySem L2
theorem passL_no {P : Program} {w : World} {H : Hp} {s : Shared} {e : Value} {s' : Shared} (h : L2.CX P w [] H s (fun _ _ _ => False) e s') : False := by
  obtain ⟨_, _, _, _, _, _, _, _, _, _, _, _, h⟩ := h
  exact h
end Fw
namespace Fw
open PySem PySem.Spec PyProof.Rows L2
set_option maxRecDepth 100000
set_option maxHeartbeats 4000000
def tbl (C0 C1 C2 : Addr) : Tb := ⟨fun i => match i with | 0 => C0 | 1 => C1 | 2 => C2 | _ => C0, fun i => match i with | 2 => ["top", "bottom"] | _ => []⟩
theorem facts_mk {K : PySem.W.Frag} {h : Heap} {mg : Str → Option Value} (X : K.In h) (G : h.Ns mainGlobals mg)
    {C0 C1 C2 f_law_pen f_law_divisor f_law_draw f_law_parts fdivisor fis_integer fRatioq_initq tRatioq_initq f_law_text f_law_bent f_law_far fRatioq_eqq fRatioq_strq fRatioq_reprq fis_written fis_ratio_text fRatio_read qRatio_read f_law_told f_law_whole f_law_read f_law_part_one fRatio_of qRatio_of fRatio_under fascending f_law_before f_law_sorted f_law_parts_b f_law_number f_law_are fleast fgreatest f_law_part_two flaw : Addr} {oc_law_pen kV_law_pen dc_law_pen pm_law_pen cd_law_pen ct_law_pen oc_law_divisor kV_law_divisor dc_law_divisor pm_law_divisor cd_law_divisor ct_law_divisor oc_law_draw kV_law_draw dc_law_draw pm_law_draw cd_law_draw ct_law_draw oc_law_parts kV_law_parts dc_law_parts pm_law_parts cd_law_parts ct_law_parts ocdivisor kVdivisor dcdivisor pmdivisor cddivisor ctdivisor ocis_integer kVis_integer dcis_integer pmis_integer cdis_integer ctis_integer ocRatioq_initq kVRatioq_initq dcRatioq_initq pmRatioq_initq cdRatioq_initq ctRatioq_initq obRatioq_initq oc_law_text kV_law_text dc_law_text pm_law_text cd_law_text ct_law_text oc_law_bent kV_law_bent dc_law_bent pm_law_bent cd_law_bent ct_law_bent oc_law_far kV_law_far dc_law_far pm_law_far cd_law_far ct_law_far ocRatioq_eqq kVRatioq_eqq dcRatioq_eqq pmRatioq_eqq cdRatioq_eqq ctRatioq_eqq ocRatioq_strq kVRatioq_strq dcRatioq_strq pmRatioq_strq cdRatioq_strq ctRatioq_strq ocRatioq_reprq kVRatioq_reprq dcRatioq_reprq pmRatioq_reprq cdRatioq_reprq ctRatioq_reprq ocis_written kVis_written dcis_written pmis_written cdis_written ctis_written ocis_ratio_text kVis_ratio_text dcis_ratio_text pmis_ratio_text cdis_ratio_text ctis_ratio_text ocRatio_read kVRatio_read dcRatio_read pmRatio_read cdRatio_read ctRatio_read oc_law_told kV_law_told dc_law_told pm_law_told cd_law_told ct_law_told oc_law_whole kV_law_whole dc_law_whole pm_law_whole cd_law_whole ct_law_whole oc_law_read kV_law_read dc_law_read pm_law_read cd_law_read ct_law_read oc_law_part_one kV_law_part_one dc_law_part_one pm_law_part_one cd_law_part_one ct_law_part_one ocRatio_of kVRatio_of dcRatio_of pmRatio_of cdRatio_of ctRatio_of ocRatio_under kVRatio_under dcRatio_under pmRatio_under cdRatio_under ctRatio_under ocascending kVascending dcascending pmascending cdascending ctascending oc_law_before kV_law_before dc_law_before pm_law_before cd_law_before ct_law_before oc_law_sorted kV_law_sorted dc_law_sorted pm_law_sorted cd_law_sorted ct_law_sorted oc_law_parts_b kV_law_parts_b dc_law_parts_b pm_law_parts_b cd_law_parts_b ct_law_parts_b oc_law_number kV_law_number dc_law_number pm_law_number cd_law_number ct_law_number oc_law_are kV_law_are dc_law_are pm_law_are cd_law_are ct_law_are ocleast kVleast dcleast pmleast cdleast ctleast ocgreatest kVgreatest dcgreatest pmgreatest cdgreatest ctgreatest oc_law_part_two kV_law_part_two dc_law_part_two pm_law_part_two cd_law_part_two ct_law_part_two oclaw kVlaw dclaw pmlaw cdlaw ctlaw : Value} {od_law_pen an_law_pen od_law_divisor an_law_divisor od_law_draw an_law_draw od_law_parts an_law_parts oddivisor andivisor odis_integer anis_integer odRatioq_initq anRatioq_initq oeRatioq_initq od_law_text an_law_text od_law_bent an_law_bent od_law_far an_law_far odRatioq_eqq anRatioq_eqq odRatioq_strq anRatioq_strq odRatioq_reprq anRatioq_reprq odis_written anis_written odis_ratio_text anis_ratio_text odRatio_read anRatio_read od_law_told an_law_told od_law_whole an_law_whole od_law_read an_law_read od_law_part_one an_law_part_one odRatio_of anRatio_of odRatio_under anRatio_under odascending anascending od_law_before an_law_before od_law_sorted an_law_sorted od_law_parts_b an_law_parts_b od_law_number an_law_number od_law_are an_law_are odleast anleast odgreatest angreatest od_law_part_two an_law_part_two odlaw anlaw : Option Addr} {sl_law_pen sl_law_divisor sl_law_draw sl_law_parts sldivisor slis_integer slRatioq_initq smRatioq_initq sl_law_text sl_law_bent sl_law_far slRatioq_eqq slRatioq_strq slRatioq_reprq slis_written slis_ratio_text slRatio_read sl_law_told sl_law_whole sl_law_read sl_law_part_one slRatio_of slRatio_under slascending sl_law_before sl_law_sorted sl_law_parts_b sl_law_number sl_law_are slleast slgreatest sl_law_part_two sllaw : Array (Option Value)} {reRatio_read reRatio_of : List Value} {tkRatioq_initq : Tok} {mRatioq_initq : Nat} {t_FIGURES : Tok} {t_MOST_FIGURES : Tok}
    (aC0 : PySem.W.nsIn K mainGlobals "FaceError" = some (some (.ref C0)))
    (aC1 : PySem.W.nsIn K mainGlobals "InvalidRatio" = some (some (.ref C1)))
    (aC2 : PySem.W.nsIn K mainGlobals "Ratio" = some (some (.ref C2)))
    (a_law_pen : PySem.W.nsIn K mainGlobals "_law_pen" = some (some (.ref f_law_pen)))
    (l_law_pen : K.lookup f_law_pen = some ⟨oc_law_pen, od_law_pen, .func (PySem.W.fnOf "_law_pen" "_law_pen" (defArgs s__law_pen) (defBody s__law_pen) (defScope s__law_pen) .none kV_law_pen dc_law_pen pm_law_pen an_law_pen cd_law_pen ct_law_pen), sl_law_pen⟩)
    (c_law_pen : PySem.W.codeIn K cd_law_pen "_law_pen" = true)
    (k_law_pen : PySem.W.keepIn K (.ref f_law_pen) = true)
    (a_law_divisor : PySem.W.nsIn K mainGlobals "_law_divisor" = some (some (.ref f_law_divisor)))
    (l_law_divisor : K.lookup f_law_divisor = some ⟨oc_law_divisor, od_law_divisor, .func (PySem.W.fnOf "_law_divisor" "_law_divisor" (defArgs s__law_divisor) (defBody s__law_divisor) (defScope s__law_divisor) .none kV_law_divisor dc_law_divisor pm_law_divisor an_law_divisor cd_law_divisor ct_law_divisor), sl_law_divisor⟩)
    (c_law_divisor : PySem.W.codeIn K cd_law_divisor "_law_divisor" = true)
    (k_law_divisor : PySem.W.keepIn K (.ref f_law_divisor) = true)
    (a_law_draw : PySem.W.nsIn K mainGlobals "_law_draw" = some (some (.ref f_law_draw)))
    (l_law_draw : K.lookup f_law_draw = some ⟨oc_law_draw, od_law_draw, .func (PySem.W.fnOf "_law_draw" "_law_draw" (defArgs s__law_draw) (defBody s__law_draw) (defScope s__law_draw) .none kV_law_draw dc_law_draw pm_law_draw an_law_draw cd_law_draw ct_law_draw), sl_law_draw⟩)
    (c_law_draw : PySem.W.codeIn K cd_law_draw "_law_draw" = true)
    (k_law_draw : PySem.W.keepIn K (.ref f_law_draw) = true)
    (a_law_parts : PySem.W.nsIn K mainGlobals "_law_parts" = some (some (.ref f_law_parts)))
    (l_law_parts : K.lookup f_law_parts = some ⟨oc_law_parts, od_law_parts, .func (PySem.W.fnOf "_law_parts" "_law_parts" (defArgs s__law_parts) (defBody s__law_parts) (defScope s__law_parts) .none kV_law_parts dc_law_parts pm_law_parts an_law_parts cd_law_parts ct_law_parts), sl_law_parts⟩)
    (c_law_parts : PySem.W.codeIn K cd_law_parts "_law_parts" = true)
    (k_law_parts : PySem.W.keepIn K (.ref f_law_parts) = true)
    (adivisor : PySem.W.nsIn K mainGlobals "divisor" = some (some (.ref fdivisor)))
    (ldivisor : K.lookup fdivisor = some ⟨ocdivisor, oddivisor, .func (PySem.W.fnOf "divisor" "divisor" (defArgs s_divisor) (defBody s_divisor) (defScope s_divisor) .none kVdivisor dcdivisor pmdivisor andivisor cddivisor ctdivisor), sldivisor⟩)
    (cdivisor : PySem.W.codeIn K cddivisor "divisor" = true)
    (kdivisor : PySem.W.keepIn K (.ref fdivisor) = true)
    (ais_integer : PySem.W.nsIn K mainGlobals "is_integer" = some (some (.ref fis_integer)))
    (lis_integer : K.lookup fis_integer = some ⟨ocis_integer, odis_integer, .func (PySem.W.fnOf "is_integer" "is_integer" (defArgs s_is_integer) (defBody s_is_integer) (defScope s_is_integer) .none kVis_integer dcis_integer pmis_integer anis_integer cdis_integer ctis_integer), slis_integer⟩)
    (cis_integer : PySem.W.codeIn K cdis_integer "is_integer" = true)
    (kis_integer : PySem.W.keepIn K (.ref fis_integer) = true)
    (aRatioq_initq : PySem.W.findIn K (.ref C2) "__init__" = some (some (.ref fRatioq_initq)))
    (iRatioq_initq : PySem.W.isFn K (.ref fRatioq_initq) = true)
    (lRatioq_initq : K.lookup fRatioq_initq = some ⟨ocRatioq_initq, odRatioq_initq, .func (PySem.W.fnOf "__init__" "Ratio.__init__" (defArgs s_Ratioq_initq) (defBody s_Ratioq_initq) (defScope s_Ratioq_initq) (.ref tRatioq_initq) kVRatioq_initq dcRatioq_initq pmRatioq_initq anRatioq_initq cdRatioq_initq ctRatioq_initq), slRatioq_initq⟩)
    (cRatioq_initq : PySem.W.codeIn K cdRatioq_initq "Ratio.__init__" = true)
    (kRatioq_initq : PySem.W.keepIn K (.ref fRatioq_initq) = true)
    (tRatioq_initql : K.lookup tRatioq_initq = some ⟨obRatioq_initq, oeRatioq_initq, .seq ([Value.int 1 tkRatioq_initq] : List Value).toArray mRatioq_initq, smRatioq_initq⟩)
    (a_law_text : PySem.W.nsIn K mainGlobals "_law_text" = some (some (.ref f_law_text)))
    (l_law_text : K.lookup f_law_text = some ⟨oc_law_text, od_law_text, .func (PySem.W.fnOf "_law_text" "_law_text" (defArgs s__law_text) (defBody s__law_text) (defScope s__law_text) .none kV_law_text dc_law_text pm_law_text an_law_text cd_law_text ct_law_text), sl_law_text⟩)
    (c_law_text : PySem.W.codeIn K cd_law_text "_law_text" = true)
    (k_law_text : PySem.W.keepIn K (.ref f_law_text) = true)
    (a_law_bent : PySem.W.nsIn K mainGlobals "_law_bent" = some (some (.ref f_law_bent)))
    (l_law_bent : K.lookup f_law_bent = some ⟨oc_law_bent, od_law_bent, .func (PySem.W.fnOf "_law_bent" "_law_bent" (defArgs s__law_bent) (defBody s__law_bent) (defScope s__law_bent) .none kV_law_bent dc_law_bent pm_law_bent an_law_bent cd_law_bent ct_law_bent), sl_law_bent⟩)
    (c_law_bent : PySem.W.codeIn K cd_law_bent "_law_bent" = true)
    (k_law_bent : PySem.W.keepIn K (.ref f_law_bent) = true)
    (a_law_far : PySem.W.nsIn K mainGlobals "_law_far" = some (some (.ref f_law_far)))
    (l_law_far : K.lookup f_law_far = some ⟨oc_law_far, od_law_far, .func (PySem.W.fnOf "_law_far" "_law_far" (defArgs s__law_far) (defBody s__law_far) (defScope s__law_far) .none kV_law_far dc_law_far pm_law_far an_law_far cd_law_far ct_law_far), sl_law_far⟩)
    (c_law_far : PySem.W.codeIn K cd_law_far "_law_far" = true)
    (k_law_far : PySem.W.keepIn K (.ref f_law_far) = true)
    (aRatioq_eqq : PySem.W.findIn K (.ref C2) "__eq__" = some (some (.ref fRatioq_eqq)))
    (iRatioq_eqq : PySem.W.isFn K (.ref fRatioq_eqq) = true)
    (lRatioq_eqq : K.lookup fRatioq_eqq = some ⟨ocRatioq_eqq, odRatioq_eqq, .func (PySem.W.fnOf "__eq__" "Ratio.__eq__" (defArgs s_Ratioq_eqq) (defBody s_Ratioq_eqq) (defScope s_Ratioq_eqq) .none kVRatioq_eqq dcRatioq_eqq pmRatioq_eqq anRatioq_eqq cdRatioq_eqq ctRatioq_eqq), slRatioq_eqq⟩)
    (cRatioq_eqq : PySem.W.codeIn K cdRatioq_eqq "Ratio.__eq__" = true)
    (kRatioq_eqq : PySem.W.keepIn K (.ref fRatioq_eqq) = true)
    (aRatioq_strq : PySem.W.findIn K (.ref C2) "__str__" = some (some (.ref fRatioq_strq)))
    (iRatioq_strq : PySem.W.isFn K (.ref fRatioq_strq) = true)
    (lRatioq_strq : K.lookup fRatioq_strq = some ⟨ocRatioq_strq, odRatioq_strq, .func (PySem.W.fnOf "__str__" "Ratio.__str__" (defArgs s_Ratioq_strq) (defBody s_Ratioq_strq) (defScope s_Ratioq_strq) .none kVRatioq_strq dcRatioq_strq pmRatioq_strq anRatioq_strq cdRatioq_strq ctRatioq_strq), slRatioq_strq⟩)
    (cRatioq_strq : PySem.W.codeIn K cdRatioq_strq "Ratio.__str__" = true)
    (kRatioq_strq : PySem.W.keepIn K (.ref fRatioq_strq) = true)
    (aRatioq_reprq : PySem.W.findIn K (.ref C2) "__repr__" = some (some (.ref fRatioq_reprq)))
    (iRatioq_reprq : PySem.W.isFn K (.ref fRatioq_reprq) = true)
    (lRatioq_reprq : K.lookup fRatioq_reprq = some ⟨ocRatioq_reprq, odRatioq_reprq, .func (PySem.W.fnOf "__repr__" "Ratio.__repr__" (defArgs s_Ratioq_reprq) (defBody s_Ratioq_reprq) (defScope s_Ratioq_reprq) .none kVRatioq_reprq dcRatioq_reprq pmRatioq_reprq anRatioq_reprq cdRatioq_reprq ctRatioq_reprq), slRatioq_reprq⟩)
    (cRatioq_reprq : PySem.W.codeIn K cdRatioq_reprq "Ratio.__repr__" = true)
    (kRatioq_reprq : PySem.W.keepIn K (.ref fRatioq_reprq) = true)
    (ais_written : PySem.W.nsIn K mainGlobals "is_written" = some (some (.ref fis_written)))
    (lis_written : K.lookup fis_written = some ⟨ocis_written, odis_written, .func (PySem.W.fnOf "is_written" "is_written" (defArgs s_is_written) (defBody s_is_written) (defScope s_is_written) .none kVis_written dcis_written pmis_written anis_written cdis_written ctis_written), slis_written⟩)
    (cis_written : PySem.W.codeIn K cdis_written "is_written" = true)
    (kis_written : PySem.W.keepIn K (.ref fis_written) = true)
    (ais_ratio_text : PySem.W.nsIn K mainGlobals "is_ratio_text" = some (some (.ref fis_ratio_text)))
    (lis_ratio_text : K.lookup fis_ratio_text = some ⟨ocis_ratio_text, odis_ratio_text, .func (PySem.W.fnOf "is_ratio_text" "is_ratio_text" (defArgs s_is_ratio_text) (defBody s_is_ratio_text) (defScope s_is_ratio_text) .none kVis_ratio_text dcis_ratio_text pmis_ratio_text anis_ratio_text cdis_ratio_text ctis_ratio_text), slis_ratio_text⟩)
    (cis_ratio_text : PySem.W.codeIn K cdis_ratio_text "is_ratio_text" = true)
    (kis_ratio_text : PySem.W.keepIn K (.ref fis_ratio_text) = true)
    (rd2 : PySem.W.readsIn K C2 (.type "type") = true)
    (ga2 : PySem.W.specialIn K (.ref C2) "__getattribute__" = some (some (.builtin "type.__getattribute__")))
    (aRatio_read : PySem.W.findCls K (.ref C2) (.type "type") "read" = some (.get (.builtin "classmethod.__get__") (.ref qRatio_read) .none (.ref C2)))
    (rcRatio_read : PySem.W.recIn K qRatio_read "classmethod" = some (.ref fRatio_read :: reRatio_read))
    (fiRatio_read : PySem.W.fnIn K fRatio_read = true)
    (lRatio_read : K.lookup fRatio_read = some ⟨ocRatio_read, odRatio_read, .func (PySem.W.fnOf "read" "Ratio.read" (defArgs s_Ratio_read) (defBody s_Ratio_read) (defScope s_Ratio_read) .none kVRatio_read dcRatio_read pmRatio_read anRatio_read cdRatio_read ctRatio_read), slRatio_read⟩)
    (cRatio_read : PySem.W.codeIn K cdRatio_read "Ratio.read" = true)
    (kRatio_read : PySem.W.keepIn K (.ref fRatio_read) = true)
    (a_law_told : PySem.W.nsIn K mainGlobals "_law_told" = some (some (.ref f_law_told)))
    (l_law_told : K.lookup f_law_told = some ⟨oc_law_told, od_law_told, .func (PySem.W.fnOf "_law_told" "_law_told" (defArgs s__law_told) (defBody s__law_told) (defScope s__law_told) .none kV_law_told dc_law_told pm_law_told an_law_told cd_law_told ct_law_told), sl_law_told⟩)
    (c_law_told : PySem.W.codeIn K cd_law_told "_law_told" = true)
    (k_law_told : PySem.W.keepIn K (.ref f_law_told) = true)
    (a_law_whole : PySem.W.nsIn K mainGlobals "_law_whole" = some (some (.ref f_law_whole)))
    (l_law_whole : K.lookup f_law_whole = some ⟨oc_law_whole, od_law_whole, .func (PySem.W.fnOf "_law_whole" "_law_whole" (defArgs s__law_whole) (defBody s__law_whole) (defScope s__law_whole) .none kV_law_whole dc_law_whole pm_law_whole an_law_whole cd_law_whole ct_law_whole), sl_law_whole⟩)
    (c_law_whole : PySem.W.codeIn K cd_law_whole "_law_whole" = true)
    (k_law_whole : PySem.W.keepIn K (.ref f_law_whole) = true)
    (a_law_read : PySem.W.nsIn K mainGlobals "_law_read" = some (some (.ref f_law_read)))
    (l_law_read : K.lookup f_law_read = some ⟨oc_law_read, od_law_read, .func (PySem.W.fnOf "_law_read" "_law_read" (defArgs s__law_read) (defBody s__law_read) (defScope s__law_read) .none kV_law_read dc_law_read pm_law_read an_law_read cd_law_read ct_law_read), sl_law_read⟩)
    (c_law_read : PySem.W.codeIn K cd_law_read "_law_read" = true)
    (k_law_read : PySem.W.keepIn K (.ref f_law_read) = true)
    (a_law_part_one : PySem.W.nsIn K mainGlobals "_law_part_one" = some (some (.ref f_law_part_one)))
    (l_law_part_one : K.lookup f_law_part_one = some ⟨oc_law_part_one, od_law_part_one, .func (PySem.W.fnOf "_law_part_one" "_law_part_one" (defArgs s__law_part_one) (defBody s__law_part_one) (defScope s__law_part_one) .none kV_law_part_one dc_law_part_one pm_law_part_one an_law_part_one cd_law_part_one ct_law_part_one), sl_law_part_one⟩)
    (c_law_part_one : PySem.W.codeIn K cd_law_part_one "_law_part_one" = true)
    (k_law_part_one : PySem.W.keepIn K (.ref f_law_part_one) = true)
    (aRatio_of : PySem.W.findCls K (.ref C2) (.type "type") "of" = some (.get (.builtin "classmethod.__get__") (.ref qRatio_of) .none (.ref C2)))
    (rcRatio_of : PySem.W.recIn K qRatio_of "classmethod" = some (.ref fRatio_of :: reRatio_of))
    (fiRatio_of : PySem.W.fnIn K fRatio_of = true)
    (lRatio_of : K.lookup fRatio_of = some ⟨ocRatio_of, odRatio_of, .func (PySem.W.fnOf "of" "Ratio.of" (defArgs s_Ratio_of) (defBody s_Ratio_of) (defScope s_Ratio_of) .none kVRatio_of dcRatio_of pmRatio_of anRatio_of cdRatio_of ctRatio_of), slRatio_of⟩)
    (cRatio_of : PySem.W.codeIn K cdRatio_of "Ratio.of" = true)
    (kRatio_of : PySem.W.keepIn K (.ref fRatio_of) = true)
    (aRatio_under : PySem.W.findIn K (.ref C2) "under" = some (some (.ref fRatio_under)))
    (iRatio_under : PySem.W.isFn K (.ref fRatio_under) = true)
    (lRatio_under : K.lookup fRatio_under = some ⟨ocRatio_under, odRatio_under, .func (PySem.W.fnOf "under" "Ratio.under" (defArgs s_Ratio_under) (defBody s_Ratio_under) (defScope s_Ratio_under) .none kVRatio_under dcRatio_under pmRatio_under anRatio_under cdRatio_under ctRatio_under), slRatio_under⟩)
    (cRatio_under : PySem.W.codeIn K cdRatio_under "Ratio.under" = true)
    (kRatio_under : PySem.W.keepIn K (.ref fRatio_under) = true)
    (aascending : PySem.W.nsIn K mainGlobals "ascending" = some (some (.ref fascending)))
    (lascending : K.lookup fascending = some ⟨ocascending, odascending, .func (PySem.W.fnOf "ascending" "ascending" (defArgs s_ascending) (defBody s_ascending) (defScope s_ascending) .none kVascending dcascending pmascending anascending cdascending ctascending), slascending⟩)
    (cascending : PySem.W.codeIn K cdascending "ascending" = true)
    (kascending : PySem.W.keepIn K (.ref fascending) = true)
    (a_law_before : PySem.W.nsIn K mainGlobals "_law_before" = some (some (.ref f_law_before)))
    (l_law_before : K.lookup f_law_before = some ⟨oc_law_before, od_law_before, .func (PySem.W.fnOf "_law_before" "_law_before" (defArgs s__law_before) (defBody s__law_before) (defScope s__law_before) .none kV_law_before dc_law_before pm_law_before an_law_before cd_law_before ct_law_before), sl_law_before⟩)
    (c_law_before : PySem.W.codeIn K cd_law_before "_law_before" = true)
    (k_law_before : PySem.W.keepIn K (.ref f_law_before) = true)
    (a_law_sorted : PySem.W.nsIn K mainGlobals "_law_sorted" = some (some (.ref f_law_sorted)))
    (l_law_sorted : K.lookup f_law_sorted = some ⟨oc_law_sorted, od_law_sorted, .func (PySem.W.fnOf "_law_sorted" "_law_sorted" (defArgs s__law_sorted) (defBody s__law_sorted) (defScope s__law_sorted) .none kV_law_sorted dc_law_sorted pm_law_sorted an_law_sorted cd_law_sorted ct_law_sorted), sl_law_sorted⟩)
    (c_law_sorted : PySem.W.codeIn K cd_law_sorted "_law_sorted" = true)
    (k_law_sorted : PySem.W.keepIn K (.ref f_law_sorted) = true)
    (a_law_parts_b : PySem.W.nsIn K mainGlobals "_law_parts_b" = some (some (.ref f_law_parts_b)))
    (l_law_parts_b : K.lookup f_law_parts_b = some ⟨oc_law_parts_b, od_law_parts_b, .func (PySem.W.fnOf "_law_parts_b" "_law_parts_b" (defArgs s__law_parts_b) (defBody s__law_parts_b) (defScope s__law_parts_b) .none kV_law_parts_b dc_law_parts_b pm_law_parts_b an_law_parts_b cd_law_parts_b ct_law_parts_b), sl_law_parts_b⟩)
    (c_law_parts_b : PySem.W.codeIn K cd_law_parts_b "_law_parts_b" = true)
    (k_law_parts_b : PySem.W.keepIn K (.ref f_law_parts_b) = true)
    (a_law_number : PySem.W.nsIn K mainGlobals "_law_number" = some (some (.ref f_law_number)))
    (l_law_number : K.lookup f_law_number = some ⟨oc_law_number, od_law_number, .func (PySem.W.fnOf "_law_number" "_law_number" (defArgs s__law_number) (defBody s__law_number) (defScope s__law_number) .none kV_law_number dc_law_number pm_law_number an_law_number cd_law_number ct_law_number), sl_law_number⟩)
    (c_law_number : PySem.W.codeIn K cd_law_number "_law_number" = true)
    (k_law_number : PySem.W.keepIn K (.ref f_law_number) = true)
    (a_law_are : PySem.W.nsIn K mainGlobals "_law_are" = some (some (.ref f_law_are)))
    (l_law_are : K.lookup f_law_are = some ⟨oc_law_are, od_law_are, .func (PySem.W.fnOf "_law_are" "_law_are" (defArgs s__law_are) (defBody s__law_are) (defScope s__law_are) .none kV_law_are dc_law_are pm_law_are an_law_are cd_law_are ct_law_are), sl_law_are⟩)
    (c_law_are : PySem.W.codeIn K cd_law_are "_law_are" = true)
    (k_law_are : PySem.W.keepIn K (.ref f_law_are) = true)
    (aleast : PySem.W.nsIn K mainGlobals "least" = some (some (.ref fleast)))
    (lleast : K.lookup fleast = some ⟨ocleast, odleast, .func (PySem.W.fnOf "least" "least" (defArgs s_least) (defBody s_least) (defScope s_least) .none kVleast dcleast pmleast anleast cdleast ctleast), slleast⟩)
    (cleast : PySem.W.codeIn K cdleast "least" = true)
    (kleast : PySem.W.keepIn K (.ref fleast) = true)
    (agreatest : PySem.W.nsIn K mainGlobals "greatest" = some (some (.ref fgreatest)))
    (lgreatest : K.lookup fgreatest = some ⟨ocgreatest, odgreatest, .func (PySem.W.fnOf "greatest" "greatest" (defArgs s_greatest) (defBody s_greatest) (defScope s_greatest) .none kVgreatest dcgreatest pmgreatest angreatest cdgreatest ctgreatest), slgreatest⟩)
    (cgreatest : PySem.W.codeIn K cdgreatest "greatest" = true)
    (kgreatest : PySem.W.keepIn K (.ref fgreatest) = true)
    (a_law_part_two : PySem.W.nsIn K mainGlobals "_law_part_two" = some (some (.ref f_law_part_two)))
    (l_law_part_two : K.lookup f_law_part_two = some ⟨oc_law_part_two, od_law_part_two, .func (PySem.W.fnOf "_law_part_two" "_law_part_two" (defArgs s__law_part_two) (defBody s__law_part_two) (defScope s__law_part_two) .none kV_law_part_two dc_law_part_two pm_law_part_two an_law_part_two cd_law_part_two ct_law_part_two), sl_law_part_two⟩)
    (c_law_part_two : PySem.W.codeIn K cd_law_part_two "_law_part_two" = true)
    (k_law_part_two : PySem.W.keepIn K (.ref f_law_part_two) = true)
    (alaw : PySem.W.nsIn K mainGlobals "law" = some (some (.ref flaw)))
    (llaw : K.lookup flaw = some ⟨oclaw, odlaw, .func (PySem.W.fnOf "law" "law" (defArgs s_law) (defBody s_law) (defScope s_law) .none kVlaw dclaw pmlaw anlaw cdlaw ctlaw), sllaw⟩)
    (claw : PySem.W.codeIn K cdlaw "law" = true)
    (klaw : PySem.W.keepIn K (.ref flaw) = true)
    (ic0 : PySem.W.isClsIn K C0 = true)
    (ty0 : PySem.W.typeIn K (.ref C0) = some (.type "type"))
    (kc0 : PySem.W.keepIn K (.ref C0) = true)
    (ic1 : PySem.W.isClsIn K C1 = true)
    (ty1 : PySem.W.typeIn K (.ref C1) = some (.type "type"))
    (kc1 : PySem.W.keepIn K (.ref C1) = true)
    (pg2 : PySem.W.plainGet K C2 Str.empty = true)
    (hd2 : PySem.W.hasDictIn K C2 = true)
    (po2 : PySem.W.plainOver K C2 = true)
    (sa2 : PySem.W.findIn K (.ref C2) "__setattr__" = some (some (.builtin "object.__setattr__")))
    (ca2 : PySem.W.findIn K (.ref C2) "__class__" = some (some (.builtin "object.__class__")))
    (cn2 : PySem.W.specialIn K (.builtin "object.__class__") "__get__" = some (some (.builtin "getset_descriptor.__get__")))
    (ct2 : PySem.W.takesIn K (.builtin "object.__class__") = some true)
    (mo2 : PySem.W.mroIn K C2 (.type "object") = some true)
    (ne2 : PySem.W.findIn K (.ref C2) "__ne__" = some (some (.builtin "object.__ne__")))
    (mk2 : PySem.W.makesIn K C2 = true)
    (na2top : PySem.W.findIn K (.ref C2) "top" = some none)
    (na2bottom : PySem.W.findIn K (.ref C2) "bottom" = some none)
    (no2int : PySem.W.subIn K (.ref C2) (.type "int") = some false)
    (no2bool : PySem.W.subIn K (.ref C2) (.type "bool") = some false)
    (no2str : PySem.W.subIn K (.ref C2) (.type "str") = some false)
    (no2list : PySem.W.subIn K (.ref C2) (.type "list") = some false)
    (ic2 : PySem.W.isClsIn K C2 = true)
    (ty2 : PySem.W.typeIn K (.ref C2) = some (.type "type"))
    (kc2 : PySem.W.keepIn K (.ref C2) = true)
    (ei1 : PySem.W.excIn K C1 [.type "ValueError", .type "Exception", .type "BaseException", .type "object"] "ValueError.__new__" = true)
    (sb1 : PySem.W.subIn K (.ref C1) (.type "BaseException") = some true)
    (hd1 : PySem.W.hasDictIn K C1 = true)
    (xg1 : PySem.W.findIn K (.ref C1) "__getattribute__" = some (some (.builtin "BaseException.__getattribute__")))
    (xk1 : PySem.W.findIn K (.ref C1) "__getattr__" = some none)
    (xc1 : PySem.W.findIn K (.ref C1) "__class__" = some (some (.builtin "object.__class__")))
    (xm1 : PySem.W.mroIn K C1 (.type "object") = some true)
    (ss1 : PySem.W.subIn K (.ref C1) (.ref C1) = some true)
    (se1FaceError : PySem.W.subIn K (.ref C1) (.ref C0) = some true)
    (nq1FaceError : C1 ≠ C0)
    (se1ValueError : PySem.W.subIn K (.ref C1) (.type "ValueError") = some true)
    (z_len : PySem.W.nsIn K mainGlobals "len" = some none)
    (z_abs : PySem.W.nsIn K mainGlobals "abs" = some none)
    (z_all : PySem.W.nsIn K mainGlobals "all" = some none)
    (z_int : PySem.W.nsIn K mainGlobals "int" = some none)
    (z_str : PySem.W.nsIn K mainGlobals "str" = some none)
    (z_bool : PySem.W.nsIn K mainGlobals "bool" = some none)
    (z_list : PySem.W.nsIn K mainGlobals "list" = some none)
    (z_repr : PySem.W.nsIn K mainGlobals "repr" = some none)
    (z_range : PySem.W.nsIn K mainGlobals "range" = some none)
    (z_isinstance : PySem.W.nsIn K mainGlobals "isinstance" = some none)
    (z_ValueError : PySem.W.nsIn K mainGlobals "ValueError" = some none)
    (g_FIGURES : PySem.W.nsIn K mainGlobals "FIGURES" = some (some (.str (PySem.Str.ofString "0123456789") t_FIGURES)))
    (g_MOST_FIGURES : PySem.W.nsIn K mainGlobals "MOST_FIGURES" = some (some (.int 60 t_MOST_FIGURES)))
    : ∃ T : Tb, Nonempty (Facts K mg T) := by
  refine ⟨tbl C0 C1 C2, ⟨{
    f__law_pen := f_law_pen,
    fd__law_pen := _,
    d__law_pen := fun_mk (st := s__law_pen) l_law_pen c_law_pen k_law_pen,
    m__law_pen := PySem.W.mg_of X G a_law_pen,
    k__law_pen := k_law_pen,
    f__law_divisor := f_law_divisor,
    fd__law_divisor := _,
    d__law_divisor := fun_mk (st := s__law_divisor) l_law_divisor c_law_divisor k_law_divisor,
    m__law_divisor := PySem.W.mg_of X G a_law_divisor,
    k__law_divisor := k_law_divisor,
    f__law_draw := f_law_draw,
    fd__law_draw := _,
    d__law_draw := fun_mk (st := s__law_draw) l_law_draw c_law_draw k_law_draw,
    m__law_draw := PySem.W.mg_of X G a_law_draw,
    k__law_draw := k_law_draw,
    f__law_parts := f_law_parts,
    fd__law_parts := _,
    d__law_parts := fun_mk (st := s__law_parts) l_law_parts c_law_parts k_law_parts,
    m__law_parts := PySem.W.mg_of X G a_law_parts,
    k__law_parts := k_law_parts,
    f_divisor := fdivisor,
    fd_divisor := _,
    d_divisor := fun_mk (st := s_divisor) ldivisor cdivisor kdivisor,
    m_divisor := PySem.W.mg_of X G adivisor,
    k_divisor := kdivisor,
    f_is_integer := fis_integer,
    fd_is_integer := _,
    d_is_integer := fun_mk (st := s_is_integer) lis_integer cis_integer kis_integer,
    m_is_integer := PySem.W.mg_of X G ais_integer,
    k_is_integer := kis_integer,
    f_Ratioq_initq := fRatioq_initq,
    fd_Ratioq_initq := _,
    d_Ratioq_initq := dfd_mk (st := s_Ratioq_initq) lRatioq_initq cRatioq_initq tRatioq_initql ((.cons ⟨_, rfl⟩ .nil)),
    mk_Ratioq_initq := ⟨mk2, aRatioq_initq, iRatioq_initq, kc2⟩,
    f__law_text := f_law_text,
    fd__law_text := _,
    d__law_text := fun_mk (st := s__law_text) l_law_text c_law_text k_law_text,
    m__law_text := PySem.W.mg_of X G a_law_text,
    k__law_text := k_law_text,
    f__law_bent := f_law_bent,
    fd__law_bent := _,
    d__law_bent := fun_mk (st := s__law_bent) l_law_bent c_law_bent k_law_bent,
    m__law_bent := PySem.W.mg_of X G a_law_bent,
    k__law_bent := k_law_bent,
    f__law_far := f_law_far,
    fd__law_far := _,
    d__law_far := fun_mk (st := s__law_far) l_law_far c_law_far k_law_far,
    m__law_far := PySem.W.mg_of X G a_law_far,
    k__law_far := k_law_far,
    f_Ratioq_eqq := fRatioq_eqq,
    fd_Ratioq_eqq := _,
    d_Ratioq_eqq := fun_mk (st := s_Ratioq_eqq) lRatioq_eqq cRatioq_eqq kRatioq_eqq,
    fi_Ratioq_eqq := aRatioq_eqq,
    if_Ratioq_eqq := iRatioq_eqq,
    f_Ratioq_strq := fRatioq_strq,
    fd_Ratioq_strq := _,
    d_Ratioq_strq := fun_mk (st := s_Ratioq_strq) lRatioq_strq cRatioq_strq kRatioq_strq,
    fi_Ratioq_strq := aRatioq_strq,
    if_Ratioq_strq := iRatioq_strq,
    f_Ratioq_reprq := fRatioq_reprq,
    fd_Ratioq_reprq := _,
    d_Ratioq_reprq := fun_mk (st := s_Ratioq_reprq) lRatioq_reprq cRatioq_reprq kRatioq_reprq,
    fi_Ratioq_reprq := aRatioq_reprq,
    if_Ratioq_reprq := iRatioq_reprq,
    f_is_written := fis_written,
    fd_is_written := _,
    d_is_written := fun_mk (st := s_is_written) lis_written cis_written kis_written,
    m_is_written := PySem.W.mg_of X G ais_written,
    k_is_written := kis_written,
    f_is_ratio_text := fis_ratio_text,
    fd_is_ratio_text := _,
    d_is_ratio_text := fun_mk (st := s_is_ratio_text) lis_ratio_text cis_ratio_text kis_ratio_text,
    m_is_ratio_text := PySem.W.mg_of X G ais_ratio_text,
    k_is_ratio_text := kis_ratio_text,
    f_Ratio_read := fRatio_read,
    fd_Ratio_read := _,
    d_Ratio_read := fun_mk (st := s_Ratio_read) lRatio_read cRatio_read kRatio_read,
    cm_Ratio_read := ⟨.type "type", qRatio_read, ⟨rd2, ga2⟩, ⟨aRatio_read, ⟨_, rcRatio_read⟩, fiRatio_read⟩⟩,
    f__law_told := f_law_told,
    fd__law_told := _,
    d__law_told := fun_mk (st := s__law_told) l_law_told c_law_told k_law_told,
    m__law_told := PySem.W.mg_of X G a_law_told,
    k__law_told := k_law_told,
    f__law_whole := f_law_whole,
    fd__law_whole := _,
    d__law_whole := fun_mk (st := s__law_whole) l_law_whole c_law_whole k_law_whole,
    m__law_whole := PySem.W.mg_of X G a_law_whole,
    k__law_whole := k_law_whole,
    f__law_read := f_law_read,
    fd__law_read := _,
    d__law_read := fun_mk (st := s__law_read) l_law_read c_law_read k_law_read,
    m__law_read := PySem.W.mg_of X G a_law_read,
    k__law_read := k_law_read,
    f__law_part_one := f_law_part_one,
    fd__law_part_one := _,
    d__law_part_one := fun_mk (st := s__law_part_one) l_law_part_one c_law_part_one k_law_part_one,
    m__law_part_one := PySem.W.mg_of X G a_law_part_one,
    k__law_part_one := k_law_part_one,
    f_Ratio_of := fRatio_of,
    fd_Ratio_of := _,
    d_Ratio_of := fun_mk (st := s_Ratio_of) lRatio_of cRatio_of kRatio_of,
    cm_Ratio_of := ⟨.type "type", qRatio_of, ⟨rd2, ga2⟩, ⟨aRatio_of, ⟨_, rcRatio_of⟩, fiRatio_of⟩⟩,
    f_Ratio_under := fRatio_under,
    fd_Ratio_under := _,
    d_Ratio_under := fun_mk (st := s_Ratio_under) lRatio_under cRatio_under kRatio_under,
    me_Ratio_under := ⟨aRatio_under, iRatio_under, kRatio_under⟩,
    f_ascending := fascending,
    fd_ascending := _,
    d_ascending := fun_mk (st := s_ascending) lascending cascending kascending,
    m_ascending := PySem.W.mg_of X G aascending,
    k_ascending := kascending,
    f__law_before := f_law_before,
    fd__law_before := _,
    d__law_before := fun_mk (st := s__law_before) l_law_before c_law_before k_law_before,
    m__law_before := PySem.W.mg_of X G a_law_before,
    k__law_before := k_law_before,
    f__law_sorted := f_law_sorted,
    fd__law_sorted := _,
    d__law_sorted := fun_mk (st := s__law_sorted) l_law_sorted c_law_sorted k_law_sorted,
    m__law_sorted := PySem.W.mg_of X G a_law_sorted,
    k__law_sorted := k_law_sorted,
    f__law_parts_b := f_law_parts_b,
    fd__law_parts_b := _,
    d__law_parts_b := fun_mk (st := s__law_parts_b) l_law_parts_b c_law_parts_b k_law_parts_b,
    m__law_parts_b := PySem.W.mg_of X G a_law_parts_b,
    k__law_parts_b := k_law_parts_b,
    f__law_number := f_law_number,
    fd__law_number := _,
    d__law_number := fun_mk (st := s__law_number) l_law_number c_law_number k_law_number,
    m__law_number := PySem.W.mg_of X G a_law_number,
    k__law_number := k_law_number,
    f__law_are := f_law_are,
    fd__law_are := _,
    d__law_are := fun_mk (st := s__law_are) l_law_are c_law_are k_law_are,
    m__law_are := PySem.W.mg_of X G a_law_are,
    k__law_are := k_law_are,
    f_least := fleast,
    fd_least := _,
    d_least := fun_mk (st := s_least) lleast cleast kleast,
    m_least := PySem.W.mg_of X G aleast,
    k_least := kleast,
    f_greatest := fgreatest,
    fd_greatest := _,
    d_greatest := fun_mk (st := s_greatest) lgreatest cgreatest kgreatest,
    m_greatest := PySem.W.mg_of X G agreatest,
    k_greatest := kgreatest,
    f__law_part_two := f_law_part_two,
    fd__law_part_two := _,
    d__law_part_two := fun_mk (st := s__law_part_two) l_law_part_two c_law_part_two k_law_part_two,
    m__law_part_two := PySem.W.mg_of X G a_law_part_two,
    k__law_part_two := k_law_part_two,
    f_law := flaw,
    fd_law := _,
    d_law := fun_mk (st := s_law) llaw claw klaw,
    m_law := PySem.W.mg_of X G alaw,
    k_law := klaw,
    m_FaceError := PySem.W.mg_of X G aC0,
    m_InvalidRatio := PySem.W.mg_of X G aC1,
    m_Ratio := PySem.W.mg_of X G aC2,
    cls_Ratio := ⟨pg2, hd2, po2, sa2⟩,
    isc_Ratio := ⟨⟨pg2, hd2, po2, sa2⟩, ca2, cn2, ct2, mo2⟩,
    ic_Ratio := ic2,
    ty_Ratio := ty2,
    ne_Ratio := ne2,
    ob_Ratio := mo2,
    an_Ratio := rfl,
    na_Ratio_top := na2top,
    na_Ratio_bottom := na2bottom,
    no_int := kit_rt no2int (by decide +kernel),
    no_bool := kit_rt no2bool (by decide +kernel),
    no_str := kit_rt no2str (by decide +kernel),
    no_list := kit_rt no2list (by decide +kernel),
    ec_InvalidRatio := ⟨⟨_, _, _, _, PySem.F.excBase_ValueError, ei1⟩, kc1, sb1, ty1⟩,
    ct_InvalidRatio := (fun c b hh => by
      unfold ct_InvalidRatio at hh
      split at hh
      · cases hh
        exact PySem.W.exm_ref sb1 hd1 ty1 ss1
      · cases hh),
    ise_FaceError := (fun c b hh => by
      unfold ie_FaceError at hh
      split at hh
      · cases hh
        exact ⟨⟨xg1, xk1, sb1, hd1, xc1, cn2, ct2, xm1⟩, kit_rr nq1FaceError ic0 ty0 se1FaceError⟩
      · cases hh),
    ise_ValueError := (fun c b hh => by
      unfold ie_ValueError at hh
      split at hh
      · cases hh
        exact ⟨⟨xg1, xk1, sb1, hd1, xc1, cn2, ct2, xm1⟩, kit_rt se1ValueError (by decide +kernel)⟩
      · cases hh),
    n_len := PySem.W.mg_none_of X G z_len,
    n_abs := PySem.W.mg_none_of X G z_abs,
    n_all := PySem.W.mg_none_of X G z_all,
    n_int := PySem.W.mg_none_of X G z_int,
    n_str := PySem.W.mg_none_of X G z_str,
    n_bool := PySem.W.mg_none_of X G z_bool,
    n_list := PySem.W.mg_none_of X G z_list,
    n_repr := PySem.W.mg_none_of X G z_repr,
    n_range := PySem.W.mg_none_of X G z_range,
    n_isinstance := PySem.W.mg_none_of X G z_isinstance,
    n_ValueError := PySem.W.mg_none_of X G z_ValueError,
    t_FIGURES := t_FIGURES,
    g_FIGURES := PySem.W.mg_of X G g_FIGURES,
    t_MOST_FIGURES := t_MOST_FIGURES,
    g_MOST_FIGURES := PySem.W.mg_of X G g_MOST_FIGURES }⟩⟩
theorem walk {l : PySem.W.OpenLaw} {q : Program} {loose : List Str} {XP : (Str → Option Value) → Heap → Prop} {YP : World → Heap → Prop} {d : DefRec} {K : Params → PySem.W.Frag} (hn : l.most = some 63) (hdf : d.params.defaults = []) (hd : d.name = "law")
    (hY : ∀ (w : World) (h : Heap), YP w h → (K w.params).In h)
    (hm : ∀ ns : List Int, ns.length ≤ 63 → (∀ z ∈ ns, Builtin.Int.intBits z ≤ 1048576) → p_law [.scr ns] = .ok false (.bl true) [])
    (F : ∀ (w : World) (mg : Str → Option Value) (h : Heap), (K w.params).In h → h.Ns mainGlobals mg → ∃ T : Tb, Nonempty (Facts (K w.params) mg T)) :
    PySem.W.WalkO q loose XP YP l.row.toRowW d [] (fun f vs => PySem.call f vs) :=
  walk_ofG (n := 63) (k := 14) (x := "script") (CX := fun w => L2.CX l.prog w) (sp := fun w => spL (K w.params) 63) hn (by decide) hdf ⟨rfl, by decide, by decide⟩ hY (fun w mg fa h KX G hfa => by
    obtain ⟨T, ⟨G⟩⟩ := F w mg h KX G
    rw [hd, G.m_law] at hfa
    cases hfa
    exact ⟨G.fd_law, law_binds G.d_law (fun _ _ _ _ _ _ _ => rfl), fun base _ _ => (ok_law G).imp (spL_spF hm)⟩)
    (fun _ _ a ns hl hb _ hS => ⟨a, ns, rfl, hS, hl, hb, fun _ => rfl⟩) fun w H s e s' z => passL_no z
end Fw
open PySem PySem.W PyProof.Rows
set_option maxRecDepth 100000 in
set_option maxHeartbeats 0 in
theorem PySem.Challenge.cw_everytext_k03_fractions_as_texts_and_num_holds : PySem.Challenge.rw_everytext_k03_fractions_as_texts_and_num.Holds := by
  w_on; o_law; k_head; (case hw => w_witness2)
  k_fill
  refine Fw.walk (l := PySem.Challenge.rw_everytext_k03_fractions_as_texts_and_num) rfl rfl rfl (fun w h Y => PySem.W.kIn_of Y) Fw.law_true ?F
  intro w mg h KX G
  refine' Fw.facts_mk KX G ?aC0 ?aC1 ?aC2 ?a_law_pen ?l_law_pen ?c_law_pen ?k_law_pen ?a_law_divisor ?l_law_divisor ?c_law_divisor ?k_law_divisor ?a_law_draw ?l_law_draw ?c_law_draw ?k_law_draw ?a_law_parts ?l_law_parts ?c_law_parts ?k_law_parts ?adivisor ?ldivisor ?cdivisor ?kdivisor ?ais_integer ?lis_integer ?cis_integer ?kis_integer ?aRatioq_initq ?iRatioq_initq ?lRatioq_initq ?cRatioq_initq ?kRatioq_initq ?tRatioq_initql ?a_law_text ?l_law_text ?c_law_text ?k_law_text ?a_law_bent ?l_law_bent ?c_law_bent ?k_law_bent ?a_law_far ?l_law_far ?c_law_far ?k_law_far ?aRatioq_eqq ?iRatioq_eqq ?lRatioq_eqq ?cRatioq_eqq ?kRatioq_eqq ?aRatioq_strq ?iRatioq_strq ?lRatioq_strq ?cRatioq_strq ?kRatioq_strq ?aRatioq_reprq ?iRatioq_reprq ?lRatioq_reprq ?cRatioq_reprq ?kRatioq_reprq ?ais_written ?lis_written ?cis_written ?kis_written ?ais_ratio_text ?lis_ratio_text ?cis_ratio_text ?kis_ratio_text ?rd2 ?ga2 ?aRatio_read ?rcRatio_read ?fiRatio_read ?lRatio_read ?cRatio_read ?kRatio_read ?a_law_told ?l_law_told ?c_law_told ?k_law_told ?a_law_whole ?l_law_whole ?c_law_whole ?k_law_whole ?a_law_read ?l_law_read ?c_law_read ?k_law_read ?a_law_part_one ?l_law_part_one ?c_law_part_one ?k_law_part_one ?aRatio_of ?rcRatio_of ?fiRatio_of ?lRatio_of ?cRatio_of ?kRatio_of ?aRatio_under ?iRatio_under ?lRatio_under ?cRatio_under ?kRatio_under ?aascending ?lascending ?cascending ?kascending ?a_law_before ?l_law_before ?c_law_before ?k_law_before ?a_law_sorted ?l_law_sorted ?c_law_sorted ?k_law_sorted ?a_law_parts_b ?l_law_parts_b ?c_law_parts_b ?k_law_parts_b ?a_law_number ?l_law_number ?c_law_number ?k_law_number ?a_law_are ?l_law_are ?c_law_are ?k_law_are ?aleast ?lleast ?cleast ?kleast ?agreatest ?lgreatest ?cgreatest ?kgreatest ?a_law_part_two ?l_law_part_two ?c_law_part_two ?k_law_part_two ?alaw ?llaw ?claw ?klaw ?ic0 ?ty0 ?kc0 ?ic1 ?ty1 ?kc1 ?pg2 ?hd2 ?po2 ?sa2 ?ca2 ?cn2 ?ct2 ?mo2 ?ne2 ?mk2 ?na2top ?na2bottom ?no2int ?no2bool ?no2str ?no2list ?ic2 ?ty2 ?kc2 ?ei1 ?sb1 ?hd1 ?xg1 ?xk1 ?xc1 ?xm1 ?ss1 ?se1FaceError ?nq1FaceError ?se1ValueError ?z_len ?z_abs ?z_all ?z_int ?z_str ?z_bool ?z_list ?z_repr ?z_range ?z_isinstance ?z_ValueError ?g_FIGURES ?g_MOST_FIGURES
  (case aC0 => k_is)
  (case aC1 => k_is)
  (case aC2 => k_is)
  (case a_law_pen => k_is)
  (case l_law_pen => k_is)
  (case c_law_pen => k_is)
  (case k_law_pen => k_is)
  (case a_law_divisor => k_is)
  (case l_law_divisor => k_is)
  (case c_law_divisor => k_is)
  (case k_law_divisor => k_is)
  (case a_law_draw => k_is)
  (case l_law_draw => k_is)
  (case c_law_draw => k_is)
  (case k_law_draw => k_is)
  (case a_law_parts => k_is)
  (case l_law_parts => k_is)
  (case c_law_parts => k_is)
  (case k_law_parts => k_is)
  (case adivisor => k_is)
  (case ldivisor => k_is)
  (case cdivisor => k_is)
  (case kdivisor => k_is)
  (case ais_integer => k_is)
  (case lis_integer => k_is)
  (case cis_integer => k_is)
  (case kis_integer => k_is)
  (case aRatioq_initq => k_is)
  (case iRatioq_initq => k_is)
  (case lRatioq_initq => k_is)
  (case cRatioq_initq => k_is)
  (case kRatioq_initq => k_is)
  (case tRatioq_initql => k_is)
  (case a_law_text => k_is)
  (case l_law_text => k_is)
  (case c_law_text => k_is)
  (case k_law_text => k_is)
  (case a_law_bent => k_is)
  (case l_law_bent => k_is)
  (case c_law_bent => k_is)
  (case k_law_bent => k_is)
  (case a_law_far => k_is)
  (case l_law_far => k_is)
  (case c_law_far => k_is)
  (case k_law_far => k_is)
  (case aRatioq_eqq => k_is)
  (case iRatioq_eqq => k_is)
  (case lRatioq_eqq => k_is)
  (case cRatioq_eqq => k_is)
  (case kRatioq_eqq => k_is)
  (case aRatioq_strq => k_is)
  (case iRatioq_strq => k_is)
  (case lRatioq_strq => k_is)
  (case cRatioq_strq => k_is)
  (case kRatioq_strq => k_is)
  (case aRatioq_reprq => k_is)
  (case iRatioq_reprq => k_is)
  (case lRatioq_reprq => k_is)
  (case cRatioq_reprq => k_is)
  (case kRatioq_reprq => k_is)
  (case ais_written => k_is)
  (case lis_written => k_is)
  (case cis_written => k_is)
  (case kis_written => k_is)
  (case ais_ratio_text => k_is)
  (case lis_ratio_text => k_is)
  (case cis_ratio_text => k_is)
  (case kis_ratio_text => k_is)
  (case rd2 => k_is)
  (case ga2 => k_is)
  (case aRatio_read => k_is)
  (case rcRatio_read => k_is)
  (case fiRatio_read => k_is)
  (case lRatio_read => k_is)
  (case cRatio_read => k_is)
  (case kRatio_read => k_is)
  (case a_law_told => k_is)
  (case l_law_told => k_is)
  (case c_law_told => k_is)
  (case k_law_told => k_is)
  (case a_law_whole => k_is)
  (case l_law_whole => k_is)
  (case c_law_whole => k_is)
  (case k_law_whole => k_is)
  (case a_law_read => k_is)
  (case l_law_read => k_is)
  (case c_law_read => k_is)
  (case k_law_read => k_is)
  (case a_law_part_one => k_is)
  (case l_law_part_one => k_is)
  (case c_law_part_one => k_is)
  (case k_law_part_one => k_is)
  (case aRatio_of => k_is)
  (case rcRatio_of => k_is)
  (case fiRatio_of => k_is)
  (case lRatio_of => k_is)
  (case cRatio_of => k_is)
  (case kRatio_of => k_is)
  (case aRatio_under => k_is)
  (case iRatio_under => k_is)
  (case lRatio_under => k_is)
  (case cRatio_under => k_is)
  (case kRatio_under => k_is)
  (case aascending => k_is)
  (case lascending => k_is)
  (case cascending => k_is)
  (case kascending => k_is)
  (case a_law_before => k_is)
  (case l_law_before => k_is)
  (case c_law_before => k_is)
  (case k_law_before => k_is)
  (case a_law_sorted => k_is)
  (case l_law_sorted => k_is)
  (case c_law_sorted => k_is)
  (case k_law_sorted => k_is)
  (case a_law_parts_b => k_is)
  (case l_law_parts_b => k_is)
  (case c_law_parts_b => k_is)
  (case k_law_parts_b => k_is)
  (case a_law_number => k_is)
  (case l_law_number => k_is)
  (case c_law_number => k_is)
  (case k_law_number => k_is)
  (case a_law_are => k_is)
  (case l_law_are => k_is)
  (case c_law_are => k_is)
  (case k_law_are => k_is)
  (case aleast => k_is)
  (case lleast => k_is)
  (case cleast => k_is)
  (case kleast => k_is)
  (case agreatest => k_is)
  (case lgreatest => k_is)
  (case cgreatest => k_is)
  (case kgreatest => k_is)
  (case a_law_part_two => k_is)
  (case l_law_part_two => k_is)
  (case c_law_part_two => k_is)
  (case k_law_part_two => k_is)
  (case alaw => k_is)
  (case llaw => k_is)
  (case claw => k_is)
  (case klaw => k_is)
  (case ic0 => k_is)
  (case ty0 => k_is)
  (case kc0 => k_is)
  (case ic1 => k_is)
  (case ty1 => k_is)
  (case kc1 => k_is)
  (case pg2 => k_is)
  (case hd2 => k_is)
  (case po2 => k_is)
  (case sa2 => k_is)
  (case ca2 => k_is)
  (case cn2 => k_is)
  (case ct2 => k_is)
  (case mo2 => k_is)
  (case ne2 => k_is)
  (case mk2 => k_is)
  (case na2top => k_is)
  (case na2bottom => k_is)
  (case no2int => k_is)
  (case no2bool => k_is)
  (case no2str => k_is)
  (case no2list => k_is)
  (case ic2 => k_is)
  (case ty2 => k_is)
  (case kc2 => k_is)
  (case ei1 => with_unfolding_all rfl)
  (case sb1 => k_is)
  (case hd1 => k_is)
  (case xg1 => k_is)
  (case xk1 => k_is)
  (case xc1 => k_is)
  (case xm1 => k_is)
  (case ss1 => k_is)
  (case se1FaceError => k_is)
  (case nq1FaceError => decide)
  (case se1ValueError => k_is)
  (case z_len => k_is)
  (case z_abs => k_is)
  (case z_all => k_is)
  (case z_int => k_is)
  (case z_str => k_is)
  (case z_bool => k_is)
  (case z_list => k_is)
  (case z_repr => k_is)
  (case z_range => k_is)
  (case z_isinstance => k_is)
  (case z_ValueError => k_is)
  (case g_FIGURES => k_is)
  (case g_MOST_FIGURES => k_is)
end
