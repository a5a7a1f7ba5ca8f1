import PyProof.Rows.All
import Wide.All
import OpenK.AllK
import Wide.FinOn
import HandS.ForMost
import HandS.Gcd
import HandS.Zip
import HandS.Deep
import HandS.Wide
import HandS.TupAny
import HandS.IsInst
import HandS.Strs
import HandS.TupMul
import HandS.More
import HandS.Iter
import HandS.Walk
import HandS.Conv
import HandS.HeadEnd
import KE.GoesMore
import KE.GoesZip
import KE.SortData
import HandS.Text
import HandS.WideBits
import HandS.Codes
import HandS.EndBits
import KE.IntBitsLaws
import HandS.DictComp
import KE.KBits
import KE.DatumOrd
import KE.BitLaws
import HandS.SetKeys
import Flt.Ops
import PyProof.FString5
import PySem.Challenge.RW_paidwhatever_k11_trees_of_wirings
-- text DLA
set_option Elab.async false
set_option linter.all false
set_option maxRecDepth 100000
/-! DLA: data D (tuples by value), the store of lists, what represents what, the lifted readings -/
namespace DL
open PySem PySem.Spec PyProof.Rows L2

/-- a value of the program: tuples are plain data, lists and dicts stand in a store at their addresses -/
inductive D where
  | non
  | bl (b : Bool)
  | int (i : Int)
  | str (x : Str)
  | tup (xs : List D)
  | ref (a : Addr)
  | ro (xs : List D)

/-- what stands in the store: a list, a list that is only read, a dict with int and text keys, a dict that is just being walked -/
inductive Cell where
  | lst (xs : List D)
  | fz (xs : List D)
  | dic (kvs : List (Key × D))
  | fzd (kvs : List (Key × D))

abbrev Stor := Addr → Option Cell
def put (st : Stor) (a : Addr) (c : Cell) : Stor := fun b => if b = a then some c else st b
theorem put_same {st : Stor} {a : Addr} {c : Cell} : put st a c a = some c := by unfold put; rw [if_pos rfl]
theorem put_ne {st : Stor} {a b : Addr} {c : Cell} (h : b ≠ a) : put st a c b = st b := by unfold put; rw [if_neg h]
theorem put_put {st : Stor} {a : Addr} {c d : Cell} : put (put st a c) a d = put st a d := by
  funext b; unfold put; split <;> rfl
/-- a smaller store: what it holds is held -/
def Sub (s t : Stor) : Prop := ∀ a c, s a = some c → t a = some c
theorem Sub.refl (s : Stor) : Sub s s := fun _ _ h => h
theorem Sub.trans {s t u : Stor} (h : Sub s t) (k : Sub t u) : Sub s u := fun a c e => k a c (h a c e)
theorem Sub.put {s : Stor} {a : Addr} {c : Cell} (h : s a = none) : Sub s (put s a c) := fun b d e => by
  by_cases hb : b = a
  · subst hb; rw [h] at e; cases e
  · rw [put_ne hb]; exact e
theorem Sub.puts {s t : Stor} {a : Addr} {c : Cell} (h : Sub s t) : Sub (DL.put s a c) (DL.put t a c) := fun b d e => by
  by_cases hb : b = a
  · subst hb; rw [put_same] at e ⊢; exact e
  · rw [put_ne hb] at e ⊢; exact h _ _ e
def getL (st : Stor) (a : Addr) : Option (List D) := match st a with
  | some (.lst xs) => some xs
  | some (.fz xs) => some xs
  | _ => none
theorem getL_put {st : Stor} {a : Addr} {xs : List D} : getL (put st a (.lst xs)) a = some xs := by
  unfold getL; rw [put_same]
theorem getL_ne {st : Stor} {a b : Addr} {c : Cell} (h : b ≠ a) : getL (put st a c) b = getL st b := by
  unfold getL; rw [put_ne h]
theorem getL_of {st : Stor} {a : Addr} {xs : List D} (h : st a = some (.lst xs)) : getL st a = some xs := by
  unfold getL; rw [h]

/-- a tuple whose object is wholly known: tracked as it stands, or written in the program -/
def TupOk (K : PySem.W.Frag) (H : Hp) (a : Addr) (vs : List V) : Prop :=
  (∃ ob : Obj, ob.dict = none ∧ H a = some (.frz ob (.tup vs))) ∨
    ∃ (o : Obj) (its : Array Value) (n : Nat), K.lookup a = some o ∧ o.cls = .type "tuple" ∧ o.dict = none ∧ o.data = .seq its n ∧ its.size ≤ sizeLine ∧ Vals vs its.toList
theorem TupOk.sqT {K : PySem.W.Frag} {H : Hp} {a : Addr} {vs : List V} (h : TupOk K H a vs) : SqT K H a vs := by
  rcases h with ⟨ob, _, h⟩ | ⟨o, its, n, h1, h2, _, h4, h5, h6⟩
  · exact .inl (.inr ⟨ob, h⟩)
  · exact .inr ⟨o, its, n, h1, h2, h4, h5, h6⟩

/-- a list that nobody writes: the caller's own, or written in the program -/
def RoL (K : PySem.W.Frag) (H : Hp) (a : Addr) (vs : List V) : Prop :=
  (∃ ob : Obj, H a = some (.frz ob (.lst vs))) ∨
    ∃ (o : Obj) (its : Array Value) (n : Nat), K.lookup a = some o ∧ o.cls = .type "list" ∧ o.dict = none ∧ o.data = .seq its n ∧ its.size ≤ sizeLine ∧ Vals vs its.toList
theorem RoL.sqL {K : PySem.W.Frag} {H : Hp} {a : Addr} {vs : List V} (h : RoL K H a vs) : SqL K H a vs := by
  rcases h with ⟨ob, h⟩ | h
  · exact .inl (.inr ⟨ob, h⟩)
  · exact .inr h

section
variable (K : PySem.W.Frag) (H : Hp)
mutual
def Rep : D → V → Prop
  | .non, v => v = .non
  | .bl b, v => v = .bl b
  | .int i, v => v = .int i
  | .str x, v => v = .str x ∧ x.length ≤ sizeLine ∧ PyData.strOk x = true
  | .tup ds, v => ∃ a vs, v = .ref a ∧ TupOk K H a vs ∧ Reps ds vs
  | .ref a, v => v = .ref a
  | .ro ds, v => ∃ a vs, v = .ref a ∧ RoL K H a vs ∧ Reps ds vs
def Reps : List D → List V → Prop
  | [], vs => vs = []
  | d :: ds, vs => ∃ v r, vs = v :: r ∧ Rep d v ∧ Reps ds r
end
end

def Ext (H H' : Hp) : Prop := ∀ a o u, H a = some (.frz o u) → H' a = some (.frz o u)
theorem Ext.refl (H : Hp) : Ext H H := fun _ _ _ h => h
theorem Ext.trans {H H1 H2 : Hp} (a : Ext H H1) (b : Ext H1 H2) : Ext H H2 := fun _ _ _ h => b _ _ _ (a _ _ _ h)
theorem Ext.new {H : Hp} {p : Addr} {o : HO} (h : H p = none) : Ext H (upd H p o) := fun a ob u e => by rw [upd_ne (ne_of_none e h)]; exact e
theorem Ext.lst {H : Hp} {p : Addr} {xs : List V} {o : HO} (h : H p = some (.lst xs)) : Ext H (upd H p o) := fun a ob u e => by rw [upd_ne (ne_of e h (by intro z; cases z))]; exact e
theorem Ext.dK {H : Hp} {p : Addr} {xs : List (Key × V)} {o : HO} (h : H p = some (.dK xs)) : Ext H (upd H p o) := fun a ob u e => by rw [upd_ne (ne_of e h (by intro z; cases z))]; exact e
theorem Ext.tupOk {K : PySem.W.Frag} {H H' : Hp} (x : Ext H H') {a : Addr} {xs : List V} (h : TupOk K H a xs) : TupOk K H' a xs := by
  rcases h with ⟨ob, d, h⟩ | h
  · exact .inl ⟨ob, d, x _ _ _ h⟩
  · exact .inr h

theorem Ext.roL {K : PySem.W.Frag} {H H' : Hp} (x : Ext H H') {a : Addr} {xs : List V} (h : RoL K H a xs) : RoL K H' a xs := by
  rcases h with ⟨ob, h⟩ | h
  · exact .inl ⟨ob, x _ _ _ h⟩
  · exact .inr h

section
variable {K : PySem.W.Frag} {H H' : Hp}
mutual
theorem Rep.ext (x : Ext H H') : ∀ (d : D) (v : V), Rep K H d v → Rep K H' d v
  | .non, _, h => h
  | .bl _, _, h => h
  | .int _, _, h => h
  | .str _, _, h => h
  | .tup ds, _, h => by
    unfold Rep at h ⊢
    obtain ⟨a, vs, e, s, r⟩ := h
    exact ⟨a, vs, e, x.tupOk s, Reps.ext x ds vs r⟩
  | .ref _, _, h => h
  | .ro ds, _, h => by
    unfold Rep at h ⊢
    obtain ⟨a, vs, e, s, r⟩ := h
    exact ⟨a, vs, e, x.roL s, Reps.ext x ds vs r⟩
theorem Reps.ext (x : Ext H H') : ∀ (ds : List D) (vs : List V), Reps K H ds vs → Reps K H' ds vs
  | [], _, h => h
  | d :: ds, _, h => by
    unfold Reps at h ⊢
    obtain ⟨v, r, e, h1, h2⟩ := h
    exact ⟨v, r, e, Rep.ext x d v h1, Reps.ext x ds r h2⟩
end
theorem Reps.nil : Reps K H [] [] := by unfold Reps; rfl
theorem Reps.cons {d : D} {ds : List D} {v : V} {vs : List V} (h : Rep K H d v) (hs : Reps K H ds vs) : Reps K H (d :: ds) (v :: vs) := by
  unfold Reps; exact ⟨v, vs, rfl, h, hs⟩
theorem Reps.inv {d : D} {ds : List D} {vs : List V} (h : Reps K H (d :: ds) vs) : ∃ v r, vs = v :: r ∧ Rep K H d v ∧ Reps K H ds r := by
  unfold Reps at h; exact h
theorem Reps.inv_nil {vs : List V} (h : Reps K H [] vs) : vs = [] := by unfold Reps at h; exact h
theorem Reps.len : ∀ {ds : List D} {vs : List V}, Reps K H ds vs → ds.length = vs.length
  | [], _, h => by rw [h.inv_nil]; rfl
  | d :: ds, _, h => by
    obtain ⟨v, r, rfl, _, h2⟩ := h.inv
    simp [h2.len]
theorem Reps.get : ∀ {ds : List D} {vs : List V} {i : Nat} {d : D}, Reps K H ds vs → ds[i]? = some d → ∃ v, vs[i]? = some v ∧ Rep K H d v
  | [], _, _, _, _, e => by simp at e
  | x :: ds, _, 0, d, h, e => by
    obtain ⟨v, r, rfl, h1, _⟩ := h.inv
    have : x = d := by simpa using e
    subst this
    exact ⟨v, rfl, h1⟩
  | x :: ds, _, i + 1, d, h, e => by
    obtain ⟨v, r, rfl, _, h2⟩ := h.inv
    have e' : ds[i]? = some d := by simpa using e
    obtain ⟨w, h3, h4⟩ := h2.get e'
    exact ⟨w, by simpa using h3, h4⟩
theorem Reps.getV : ∀ {ds : List D} {vs : List V} {i : Nat} {v : V}, Reps K H ds vs → vs[i]? = some v → ∃ d, ds[i]? = some d ∧ Rep K H d v
  | [], _, _, _, h, e => by rw [h.inv_nil] at e; simp at e
  | x :: ds, _, 0, v, h, e => by
    obtain ⟨w, r, rfl, h1, _⟩ := h.inv
    have : w = v := by simpa using e
    subst this
    exact ⟨x, rfl, h1⟩
  | x :: ds, _, i + 1, v, h, e => by
    obtain ⟨w, r, rfl, _, h2⟩ := h.inv
    have e' : r[i]? = some v := by simpa using e
    obtain ⟨d, h3, h4⟩ := h2.getV e'
    exact ⟨d, by simpa using h3, h4⟩
theorem Reps.append : ∀ {ds es : List D} {vs ws : List V}, Reps K H ds vs → Reps K H es ws → Reps K H (ds ++ es) (vs ++ ws)
  | [], _, _, _, h, k => by rw [h.inv_nil]; exact k
  | d :: ds, _, _, _, h, k => by
    obtain ⟨v, r, rfl, h1, h2⟩ := h.inv
    exact .cons h1 (h2.append k)
theorem Reps.snoc {ds : List D} {d : D} {vs : List V} {v : V} (h : Reps K H ds vs) (k : Rep K H d v) : Reps K H (ds ++ [d]) (vs ++ [v]) := h.append (.cons k .nil)
theorem Reps.take : ∀ {ds : List D} {vs : List V} (n : Nat), Reps K H ds vs → Reps K H (ds.take n) (vs.take n)
  | _, _, 0, _ => by simp [Reps.nil]
  | [], _, n + 1, h => by rw [h.inv_nil]; simp [Reps.nil]
  | d :: ds, _, n + 1, h => by
    obtain ⟨v, r, rfl, h1, h2⟩ := h.inv
    simp only [List.take_succ_cons]
    exact .cons h1 (h2.take n)
theorem Reps.drop : ∀ {ds : List D} {vs : List V} (n : Nat), Reps K H ds vs → Reps K H (ds.drop n) (vs.drop n)
  | _, _, 0, h => by simpa using h
  | [], _, n + 1, h => by rw [h.inv_nil]; simp [Reps.nil]
  | d :: ds, _, n + 1, h => by
    obtain ⟨v, r, rfl, _, h2⟩ := h.inv
    simp only [List.drop_succ_cons]
    exact h2.drop n
theorem Reps.set : ∀ {ds : List D} {vs : List V} {d : D} {v : V} (n : Nat), Reps K H ds vs → Rep K H d v → Reps K H (ds.set n d) (vs.set n v)
  | [], _, _, _, n, h, _ => by rw [h.inv_nil]; simp [Reps.nil]
  | x :: ds, _, _, _, 0, h, k => by
    obtain ⟨w, r, rfl, _, h2⟩ := h.inv
    simp only [List.set_cons_zero]
    exact .cons k h2
  | x :: ds, _, _, _, n + 1, h, k => by
    obtain ⟨w, r, rfl, h1, h2⟩ := h.inv
    simp only [List.set_cons_succ]
    exact .cons h1 (h2.set n k)
theorem Reps.reverse : ∀ {ds : List D} {vs : List V}, Reps K H ds vs → Reps K H ds.reverse vs.reverse
  | [], _, h => by rw [h.inv_nil]; simp [Reps.nil]
  | d :: ds, _, h => by
    obtain ⟨v, r, rfl, h1, h2⟩ := h.inv
    simp only [List.reverse_cons]
    exact h2.reverse.snoc h1
theorem Reps.ints : ∀ (ns : List Int), Reps K H (ns.map D.int) (ns.map V.int)
  | [] => .nil
  | n :: ns => .cons (by unfold Rep; rfl) (Reps.ints ns)
theorem Reps.ints_inv : ∀ {ns : List Int} {vs : List V}, Reps K H (ns.map D.int) vs → vs = ns.map V.int
  | [], _, h => h.inv_nil
  | n :: ns, _, h => by
    obtain ⟨v, r, rfl, h1, h2⟩ := h.inv
    unfold Rep at h1
    rw [h1, h2.ints_inv]
    rfl
end

/-- a part of memory that no reading of ours touches: its own law stays -/
structure Hid where
  ok : Hp → Prop
  at_ : Addr → Prop
  live : ∀ H a, ok H → at_ a → ∃ o, H a = some o
  keep : ∀ H H', ok H → Ext H H' → (∀ a, at_ a → H' a = H a) → ok H'
def Hid.none : Hid := ⟨fun _ => True, fun _ => False, fun _ _ _ h => h.elim, fun _ _ _ _ _ => trivial⟩

section
variable (K : PySem.W.Frag) (J : Hid)
def RepKV (H : Hp) : List (Key × D) → List (Key × V) → Prop := Paired fun p q => p.1 = q.1 ∧ Rep K H p.2 q.2
def CellOk (H : Hp) (a : Addr) : Cell → Prop
  | .lst xs => ∃ vs, H a = some (.lst vs) ∧ Reps K H xs vs
  | .fz xs => ∃ vs o, H a = some (.frz o (.lst vs)) ∧ Reps K H xs vs
  | .dic kvs => ∃ ws, H a = some (.dK ws) ∧ RepKV K H kvs ws
  | .fzd kvs => ∃ ws o, H a = some (.frz o (.dK ws)) ∧ RepKV K H kvs ws
structure SimS (st : Stor) (H : Hp) : Prop where
  cell : ∀ a c, st a = some c → CellOk K H a c
  hid : J.ok H
  sep : ∀ a, J.at_ a → st a = none
end

section
variable {K : PySem.W.Frag} {J : Hid} {st : Stor} {H H' : Hp} {p a : Addr}
theorem RepKV.ext (x : Ext H H') {ks : List (Key × D)} {ws : List (Key × V)} (h : RepKV K H ks ws) : RepKV K H' ks ws :=
  Paired.mapP h fun _ _ q => ⟨q.1, Rep.ext x _ _ q.2⟩
theorem CellOk.ext {c : Cell} (x : Ext H H') (h : CellOk K H a c) (e : H' a = H a) : CellOk K H' a c := by
  cases c with
  | lst xs => obtain ⟨vs, h1, h2⟩ := h; exact ⟨vs, by rw [e, h1], Reps.ext x _ _ h2⟩
  | fz xs => obtain ⟨vs, o, h1, h2⟩ := h; exact ⟨vs, o, by rw [e, h1], Reps.ext x _ _ h2⟩
  | dic kvs => obtain ⟨ws, h1, h2⟩ := h; exact ⟨ws, by rw [e, h1], h2.ext x⟩
  | fzd kvs => obtain ⟨ws, o, h1, h2⟩ := h; exact ⟨ws, o, by rw [e, h1], h2.ext x⟩
theorem CellOk.some {c : Cell} (h : CellOk K H a c) : ∃ o, H a = some o := by
  cases c with
  | lst xs => obtain ⟨vs, h1, _⟩ := h; exact ⟨_, h1⟩
  | fz xs => obtain ⟨vs, o, h1, _⟩ := h; exact ⟨_, h1⟩
  | dic kvs => obtain ⟨ws, h1, _⟩ := h; exact ⟨_, h1⟩
  | fzd kvs => obtain ⟨ws, o, h1, _⟩ := h; exact ⟨_, h1⟩
theorem SimS.fresh (S : SimS K J st H) (h : H p = none) : st p = none := by
  cases e : st p with
  | none => rfl
  | some c => obtain ⟨o, q⟩ := (S.cell p c e).some; rw [h] at q; cases q
theorem SimS.nohid (S : SimS K J st H) (h : H p = none) : ¬ J.at_ p := fun z => by
  obtain ⟨o, q⟩ := J.live H p S.hid z; rw [h] at q; cases q
theorem SimS.sub {st' : Stor} (S : SimS K J st H) (h : Sub st' st) : SimS K J st' H :=
  ⟨fun a c e => S.cell a c (h a c e), S.hid, fun a z => by
    cases e : st' a with
    | none => rfl
    | some c => have := h a c e; rw [S.sep a z] at this; cases this⟩
/-- something new that the store does not hold -/
theorem SimS.new {o : HO} (S : SimS K J st H) (h : H p = none) : SimS K J st (upd H p o) :=
  ⟨fun a c e => by
    have ne : a ≠ p := fun z => by subst z; rw [S.fresh h] at e; cases e
    exact (S.cell a c e).ext (Ext.new h) (upd_ne ne),
   J.keep _ _ S.hid (Ext.new h) fun a z => upd_ne fun q => S.nohid h (q ▸ z), S.sep⟩
theorem SimS.newL {xs : List D} {vs : List V} (S : SimS K J st H) (h : H p = none) (r : Reps K H xs vs) : SimS K J (put st p (.lst xs)) (upd H p (.lst vs)) :=
  ⟨fun a c e => by
    by_cases ne : a = p
    · subst ne
      rw [put_same] at e
      cases e
      exact ⟨vs, upd_same, Reps.ext (Ext.new h) _ _ r⟩
    · rw [put_ne ne] at e
      exact (S.cell a c e).ext (Ext.new h) (upd_ne ne),
   J.keep _ _ S.hid (Ext.new h) fun a z => upd_ne fun q => S.nohid h (q ▸ z), fun a z => by
    have ne : a ≠ p := fun q => S.nohid h (by subst q; exact z)
    rw [put_ne ne]; exact S.sep a z⟩
theorem SimS.setL {xs ys : List D} {vs ws : List V} (S : SimS K J st H) (hs : st a = some (.lst xs)) (h : H a = some (.lst vs)) (r : Reps K H ys ws) : SimS K J (put st a (.lst ys)) (upd H a (.lst ws)) :=
  have nj : ¬ J.at_ a := fun z => by rw [S.sep a z] at hs; cases hs
  ⟨fun b c e => by
    by_cases ne : b = a
    · subst ne
      rw [put_same] at e
      cases e
      exact ⟨ws, upd_same, Reps.ext (Ext.lst h) _ _ r⟩
    · rw [put_ne ne] at e
      exact (S.cell b c e).ext (Ext.lst h) (upd_ne ne),
   J.keep _ _ S.hid (Ext.lst h) fun b z => upd_ne fun q => nj (q ▸ z), fun b z => by
    have ne : b ≠ a := fun q => nj (by subst q; exact z)
    rw [put_ne ne]; exact S.sep b z⟩
theorem SimS.lst {xs : List D} (S : SimS K J st H) (hs : st a = some (.lst xs)) : ∃ vs, H a = some (.lst vs) ∧ Reps K H xs vs := S.cell a _ hs
theorem SimS.getL {xs : List D} (S : SimS K J st H) (hs : DL.getL st a = some xs) : ∃ vs, SqL K H a vs ∧ Reps K H xs vs := by
  unfold DL.getL at hs
  cases e : st a with
  | none => rw [e] at hs; cases hs
  | some c =>
    rw [e] at hs
    cases c with
    | lst ys => cases hs; obtain ⟨vs, h1, h2⟩ := S.cell a _ e; exact ⟨vs, SqL.of h1, h2⟩
    | fz ys => cases hs; obtain ⟨vs, o, h1, h2⟩ := S.cell a _ e; exact ⟨vs, .inl (.inr ⟨o, h1⟩), h2⟩
    | dic kvs => cases hs
    | fzd kvs => cases hs
end

/-! ### lifted readings -/
abbrev Rho := List (Option D)
abbrev KD := D → Stor → Prop
abbrev TED := Rho → Stor → KD → Prop
abbrev TTD := Rho → Stor → (Bool → Stor → Prop) → Prop
abbrev TAD := Rho → Stor → (List D → Stor → Prop) → Prop
abbrev TOD := Rho → Stor → (Option Int → Stor → Prop) → Prop
structure EndsD where
  nx : Rho → Stor → Prop
  rt : KD
  bk : Rho → Stor → Prop := fun _ _ => False
  ct : Rho → Stor → Prop := fun _ _ => False
abbrev TSD := EndsD → Rho → Stor → Prop

section
variable (K : PySem.W.Frag) (J : Hid)
structure RepE (H : Hp) (ρ : Rho) (σ : L2.St) : Prop where
  len : ρ.length = σ.length
  at_ : ∀ (i : Nat) (d : D), ρ[i]? = some (some d) → ∃ v, σ[i]? = some (some v) ∧ Rep K H d v
/-- what a continuation may rely on -/
def After (H : Hp) (R : KD) (Q : VK) : Prop := ∀ d st' v H', R d st' → Ext H H' → SimS K J st' H' → Rep K H' d v → Q v H'
def AfterB (H : Hp) (R : Bool → Stor → Prop) (Q : Bool → Hp → Prop) : Prop := ∀ b st' H', R b st' → Ext H H' → SimS K J st' H' → Q b H'
def AfterL (H : Hp) (R : List D → Stor → Prop) (Q : List V → Hp → Prop) : Prop := ∀ ds st' vs H', R ds st' → Ext H H' → SimS K J st' H' → Reps K H' ds vs → Q vs H'
def AfterO (H : Hp) (R : Option Int → Stor → Prop) (Q : Option Int → Hp → Prop) : Prop := ∀ o st' H', R o st' → Ext H H' → SimS K J st' H' → Q o H'
def AfterE (H : Hp) (R : Rho → Stor → Prop) (Q : L2.St → Hp → Prop) : Prop := ∀ ρ' st' σ' H', R ρ' st' → Ext H H' → SimS K J st' H' → RepE K H' ρ' σ' → Q σ' H'
def upE (t : TED) : TE := fun σ H Q => ∃ ρ st R, RepE K H ρ σ ∧ SimS K J st H ∧ t ρ st R ∧ After K J H R Q
def upT (t : TTD) : TT := fun σ H Q => ∃ ρ st R, RepE K H ρ σ ∧ SimS K J st H ∧ t ρ st R ∧ AfterB K J H R Q
def upA (t : TAD) : TA := fun σ H Q => ∃ ρ st R, RepE K H ρ σ ∧ SimS K J st H ∧ t ρ st R ∧ AfterL K J H R Q
def upO (t : TOD) : TO := fun σ H Q => ∃ ρ st R, RepE K H ρ σ ∧ SimS K J st H ∧ t ρ st R ∧ AfterO K J H R Q
structure AfterS (H : Hp) (E : EndsD) (D : Ends) : Prop where
  nx : AfterE K J H E.nx D.nx
  rt : After K J H E.rt D.rt
  bk : AfterE K J H E.bk D.bk
  ct : AfterE K J H E.ct D.ct
def upS (t : TSD) : TS := fun D σ H => ∃ ρ st E, RepE K H ρ σ ∧ SimS K J st H ∧ t E ρ st ∧ AfterS K J H E D
end
section
variable {K : PySem.W.Frag} {J : Hid} {H H' : Hp}
theorem RepE.ext {ρ : Rho} {σ : L2.St} (r : RepE K H ρ σ) (x : Ext H H') : RepE K H' ρ σ :=
  ⟨r.len, fun i d e => let ⟨v, h1, h2⟩ := r.at_ i d e; ⟨v, h1, Rep.ext x _ _ h2⟩⟩
theorem RepE.set {ρ : Rho} {σ : L2.St} {d : D} {v : V} (r : RepE K H ρ σ) (h : Rep K H d v) (i : Nat) : RepE K H (ρ.set i (some d)) (σ.set i (some v)) :=
  ⟨by simp [r.len], fun j e q => by
    by_cases hj : i = j
    · subst hj
      by_cases hl : i < ρ.length
      · rw [List.getElem?_set_self hl] at q
        cases q
        exact ⟨v, List.getElem?_set_self (by rw [← r.len]; exact hl), h⟩
      · rw [List.getElem?_eq_none (by simpa using hl)] at q; cases q
    · rw [List.getElem?_set_ne hj] at q
      obtain ⟨w, h1, h2⟩ := r.at_ j e q
      exact ⟨w, by rw [List.getElem?_set_ne hj]; exact h1, h2⟩⟩
theorem After.ext {R : KD} {Q : VK} (h : After K J H R Q) (x : Ext H H') : After K J H' R Q := fun d st' v H2 r e s p => h d st' v H2 r (x.trans e) s p
theorem AfterB.ext {R : Bool → Stor → Prop} {Q : Bool → Hp → Prop} (h : AfterB K J H R Q) (x : Ext H H') : AfterB K J H' R Q := fun d st' H2 r e s => h d st' H2 r (x.trans e) s
theorem AfterL.ext {R : List D → Stor → Prop} {Q : List V → Hp → Prop} (h : AfterL K J H R Q) (x : Ext H H') : AfterL K J H' R Q := fun d st' v H2 r e s p => h d st' v H2 r (x.trans e) s p
theorem AfterO.ext {R : Option Int → Stor → Prop} {Q : Option Int → Hp → Prop} (h : AfterO K J H R Q) (x : Ext H H') : AfterO K J H' R Q := fun d st' H2 r e s => h d st' H2 r (x.trans e) s
theorem AfterE.ext {R : Rho → Stor → Prop} {Q : L2.St → Hp → Prop} (h : AfterE K J H R Q) (x : Ext H H') : AfterE K J H' R Q := fun d st' v H2 r e s p => h d st' v H2 r (x.trans e) s p
theorem AfterS.ext {E : EndsD} {D : Ends} (h : AfterS K J H E D) (x : Ext H H') : AfterS K J H' E D := ⟨h.nx.ext x, h.rt.ext x, h.bk.ext x, h.ct.ext x⟩
end

/-! ### weakening -/
section
variable {X : Cx}
theorem PE.imp {e : Expr} {t t' : TE} (h : PE X e t) (k : ∀ σ H Q, t' σ H Q → t σ H Q) : PE X e t' := ⟨fun p s σ H Q I q => h.run p s σ H Q I (k σ H Q q)⟩
theorem PT.imp {e : Expr} {t t' : TT} (h : PT X e t) (k : ∀ σ H Q, t' σ H Q → t σ H Q) : PT X e t' := ⟨fun p s σ H Q I q => h.run p s σ H Q I (k σ H Q q)⟩
theorem PW.imp {e : Expr} {t t' : TT} (h : PW X e t) (k : ∀ σ H Q, t' σ H Q → t σ H Q) : PW X e t' := ⟨fun w p s σ H Q I q => h.run w p s σ H Q I (k σ H Q q)⟩
theorem PA.imp {e : List Expr} {t t' : TA} (h : PA X e t) (k : ∀ σ H Q, t' σ H Q → t σ H Q) : PA X e t' := ⟨fun o p s σ H Q I q => h.run o p s σ H Q I (k σ H Q q)⟩
theorem PO.imp {e : Option Expr} {t t' : TO} (h : PO X e t) (k : ∀ σ H Q, t' σ H Q → t σ H Q) : PO X e t' := ⟨fun p s σ H Q I q => h.run p s σ H Q I (k σ H Q q)⟩
theorem PS.imp {e : Stmt} {t t' : TS} (h : PS X e t) (k : ∀ D σ H, t' D σ H → t D σ H) : PS X e t' := ⟨fun p s σ H D I q => h.run p s σ H D I (k D σ H q)⟩
theorem PSs.imp {e : List Stmt} {t t' : TS} (h : PSs X e t) (k : ∀ D σ H, t' D σ H → t D σ H) : PSs X e t' := ⟨fun p s σ H D I q => h.run p s σ H D I (k D σ H q)⟩
end
section
variable (J : Hid) (X : Cx)
def PED (e : Expr) (t : TED) : Prop := PE X e (upE X.K J t)
def PTD (e : Expr) (t : TTD) : Prop := PT X e (upT X.K J t)
def PWD (e : Expr) (t : TTD) : Prop := PW X e (upT X.K J t)
def PAD (e : List Expr) (t : TAD) : Prop := PA X e (upA X.K J t)
def POD (e : Option Expr) (t : TOD) : Prop := PO X e (upO X.K J t)
def PSD (e : Stmt) (t : TSD) : Prop := PS X e (upS X.K J t)
def PSsD (e : List Stmt) (t : TSD) : Prop := PSs X e (upS X.K J t)
end
end DL
-- text DLB
set_option Elab.async false
set_option linter.all false
set_option maxRecDepth 100000
/-! DLB: expressions -/
namespace DL
open PySem PySem.Spec PyProof.Rows L2

theorem OpR.imp {X : Cx} {f : Value → Value → Sem Value} {r r' : R2} (h : OpR X f r) (k : ∀ x y H Q, r' x y H Q → r x y H Q) : OpR X f r' := fun p s σ H x y v u Q I rx ry q => h p s σ H x y v u Q I rx ry (k _ _ _ _ q)
theorem UnR.imp {X : Cx} {f : Value → Sem Value} {r r' : V → Hp → VK → Prop} (h : UnR X f r) (k : ∀ x H Q, r' x H Q → r x H Q) : UnR X f r' := fun p s σ H x v Q I rx q => h p s σ H x v Q I rx (k _ _ _ q)
theorem CallR.imp {X : Cx} {f : Value} {r r' : List V → Hp → VK → Prop} (h : CallR X f r) (k : ∀ x H Q, r' x H Q → r x H Q) : CallR X f r' := fun p s σ H xs us Q I rx q => h p s σ H xs us Q I rx (k _ _ _ q)
theorem MtR.imp {X : Cx} {id : String} {r r' : V → List V → Hp → VK → Prop} (h : MtR X id r) (k : ∀ x y H Q, r' x y H Q → r x y H Q) : MtR X id r' := fun p s σ H x xs v us Q I rx ry q => h p s σ H x xs v us Q I rx ry (k _ _ _ _ q)
theorem IxR.imp {X : Cx} {r r' : R2} (h : IxR X r) (k : ∀ x y H Q, r' x y H Q → r x y H Q) : IxR X r' := fun v1 s1 p s σ H x y v u Q I rx ry q e => h v1 s1 p s σ H x y v u Q I rx ry (k _ _ _ _ q) e
theorem SlR.imp {X : Cx} {r r' : V → Option Int → Option Int → Hp → VK → Prop} (h : SlR X r) (k : ∀ x a b H Q, r' x a b H Q → r x a b H Q) : SlR X r' := fun p s σ H x v vl vu lo hi sl Q I rx hs pl pu q => h p s σ H x v vl vu lo hi sl Q I rx hs pl pu (k _ _ _ _ _ q)

section
variable (K : PySem.W.Frag) (J : Hid)
abbrev RD2 := D → D → Stor → KD → Prop
abbrev RD1 := D → Stor → KD → Prop
abbrev RDL := List D → Stor → KD → Prop
abbrev RDM := D → List D → Stor → KD → Prop
def upR2 (r : RD2) : R2 := fun vx vy H Q => ∃ x y st R, Rep K H x vx ∧ Rep K H y vy ∧ SimS K J st H ∧ r x y st R ∧ After K J H R Q
def upR1 (r : RD1) : V → Hp → VK → Prop := fun vx H Q => ∃ x st R, Rep K H x vx ∧ SimS K J st H ∧ r x st R ∧ After K J H R Q
def upRL (r : RDL) : List V → Hp → VK → Prop := fun vs H Q => ∃ ds st R, Reps K H ds vs ∧ SimS K J st H ∧ r ds st R ∧ After K J H R Q
def upRM (r : RDM) : V → List V → Hp → VK → Prop := fun vx vs H Q => ∃ x ds st R, Rep K H x vx ∧ Reps K H ds vs ∧ SimS K J st H ∧ r x ds st R ∧ After K J H R Q
end

/-! ### names and constants -/
def tVarD (i : Nat) : TED := fun ρ st R => match ρ[i]? with
  | some (some d) => R d st
  | _ => False
def tCD (d : D) : TED := fun _ st R => R d st
section
variable {J : Hid} {X : Cx} {pos : Pos}
theorem ed_var {i : Nat} {x : Str} (hN : X.N[i]? = some x := by rfl) (hv : Vis X.env.scope x := by first | exact Or.inl rfl | exact Or.inr (Or.inl rfl) | exact Or.inr (Or.inr rfl)) (hd : (x == ("__debug__" : Str)) = false := by decide)
    (hcd : (x == ("__classdict__" : Str)) = false := by decide) : PED J X (.Name x pos) (tVarD i) := by
  refine PE.imp (pe_var (i := i) hN hv hd hcd) fun σ H Q h => ?_
  obtain ⟨ρ, st, R, re, S, h, q⟩ := h
  unfold tVarD at h
  split at h
  · rename_i d e
    obtain ⟨v, e1, r⟩ := re.at_ i d e
    exact ⟨v, e1, q d st v H h (Ext.refl H) S r⟩
  · exact h.elim
theorem ed_const {e : Expr} {d : D} {v : V} (h : PE X e (tC v)) (r : ∀ H, Rep X.K H d v) : PED J X e (tCD d) :=
  PE.imp h fun σ H Q ⟨_, st, _, _, S, h, q⟩ => q d st v H h (Ext.refl H) S (r H)
theorem ed_int {i j} : PED J X (.Constant (.int i) j pos) (tCD (.int i)) := ed_const pe_int fun _ => by unfold Rep; rfl
theorem ed_bl {b j} : PED J X (.Constant (.bool b) j pos) (tCD (.bl b)) := ed_const pe_bl fun _ => by unfold Rep; rfl
theorem ed_non {j} : PED J X (.Constant .none j pos) (tCD .non) := ed_const pe_non fun _ => by unfold Rep; rfl
theorem ed_str {x j} (h : x.length ≤ sizeLine := by decide +kernel) (h2 : PyData.strOk x = true := by decide +kernel) : PED J X (.Constant (.str x) j pos) (tCD (.str x)) := ed_const pe_str fun _ => by unfold Rep; exact ⟨rfl, h, h2⟩
end

/-! ### combinators -/
def tOpD (r : RD2) (ta tb : TED) : TED := fun ρ st R => ta ρ st fun x s1 => tb ρ s1 fun y s2 => r x y s2 R
def tUnD (r : RD1) (ta : TED) : TED := fun ρ st R => ta ρ st fun x s1 => r x s1 R
def tCallD (r : RDL) (ta : TAD) : TED := fun ρ st R => ta ρ st fun ds s1 => r ds s1 R
def tNilD : TAD := fun _ st R => R [] st
def tConsD (t : TED) (u : TAD) : TAD := fun ρ st R => t ρ st fun d s1 => u ρ s1 fun ds s2 => R (d :: ds) s2
def tTestD (t : TED) : TTD := fun ρ st R => t ρ st fun d s1 => match d with
  | .bl b => R b s1
  | _ => False
def tAndD (t u : TTD) : TTD := fun ρ st R => t ρ st fun b s1 => if b = true then u ρ s1 R else R false s1
def tOrD (t u : TTD) : TTD := fun ρ st R => t ρ st fun b s1 => if b = true then R true s1 else u ρ s1 R
def tNotD (t : TTD) : TTD := fun ρ st R => t ρ st fun b s1 => R (!b) s1
def tIfD (c : TTD) (ta tb : TED) : TED := fun ρ st R => c ρ st fun b s1 => if b = true then ta ρ s1 R else tb ρ s1 R
def tAndVD (ta tb : TED) : TED := fun ρ st R => ta ρ st fun d s1 => match d with
  | .bl b => if b = true then tb ρ s1 R else R (.bl false) s1
  | _ => False
def tOrVD (ta tb : TED) : TED := fun ρ st R => ta ρ st fun d s1 => match d with
  | .bl b => if b = true then R (.bl true) s1 else tb ρ s1 R
  | _ => False
def tNotVD (ta : TED) : TED := fun ρ st R => ta ρ st fun d s1 => match d with
  | .bl b => R (.bl (!b)) s1
  | _ => False
def tChainD (r r' : RD2) (ta tb tc : TED) : TED := fun ρ st R => ta ρ st fun x s1 => tb ρ s1 fun y s2 => r x y s2 fun z s3 => match z with
  | .bl k => if k = true then tc ρ s3 fun w s4 => r' y w s4 R else R (.bl false) s3
  | _ => False

section
variable {J : Hid} {X : Cx} {a b c : Expr} {ta tb tc : TED} {pos : Pos}
abbrev OpD (J : Hid) (X : Cx) (f : Value → Value → Sem Value) (r : RD2) : Prop := OpR X f (upR2 X.K J r)
abbrev UnD (J : Hid) (X : Cx) (f : Value → Sem Value) (r : RD1) : Prop := UnR X f (upR1 X.K J r)
abbrev CallD (J : Hid) (X : Cx) (f : Value) (r : RDL) : Prop := CallR X f (upRL X.K J r)
abbrev MtD (J : Hid) (X : Cx) (id : String) (r : RDM) : Prop := MtR X id (upRM X.K J r)
abbrev IxD (J : Hid) (X : Cx) (r : RD2) : Prop := IxR X (upR2 X.K J r)
theorem up_op {K : PySem.W.Frag} {r : RD2} {σ : L2.St} {H : Hp} {Q : VK} (h : upE K J (tOpD r ta tb) σ H Q) : tOp (upR2 K J r) (upE K J ta) (upE K J tb) σ H Q := by
  obtain ⟨ρ, st, R, re, S, h, q⟩ := h
  refine ⟨ρ, st, _, re, S, h, fun x s1 vx H1 hx e1 S1 rx => ?_⟩
  refine ⟨ρ, s1, _, re.ext e1, S1, hx, fun y s2 vy H2 hy e2 S2 ry => ?_⟩
  exact ⟨x, y, s2, R, Rep.ext e2 _ _ rx, ry, S2, hy, q.ext (e1.trans e2)⟩
theorem ed_op {op : Operator} {r : RD2} (ho : OpD J X (binaryOp op) r) (ha : PED J X a ta) (hb : PED J X b tb) : PED J X (.BinOp a op b pos) (tOpD r ta tb) :=
  PE.imp (pe_op ho ha hb) fun _ _ _ h => up_op h
theorem ed_un {op : UnaryOp} {r : RD1} (ho : UnD J X (unaryOp op) r) (ha : PED J X a ta) : PED J X (.UnaryOp op a pos) (tUnD r ta) :=
  PE.imp (pe_un ho ha) fun σ H Q ⟨ρ, st, R, re, S, h, q⟩ => ⟨ρ, st, _, re, S, h, fun x s1 vx H1 hx e1 S1 rx => ⟨x, s1, R, rx, S1, hx, q.ext e1⟩⟩
theorem ed_cmp {op : CmpOp} {r : RD2} (ho : OpD J X (compareOp op) r) (ha : PED J X a ta) (hb : PED J X b tb) (hm : behindInMarks op b = false) : PED J X (.Compare a [op] [b] pos) (tOpD r ta tb) :=
  PE.imp (pe_cmpR ho ha hb hm) fun _ _ _ h => up_op h
theorem td_cmp {op : CmpOp} {r : RD2} (ho : OpD J X (compareOp op) r) (ha : PED J X a ta) (hb : PED J X b tb) (hm : behindInMarks op b = false) : PTD J X (.Compare a [op] [b] pos) (tTestD (tOpD r ta tb)) := by
  refine PT.imp (pt_cmpR ho ha hb hm) fun σ H Q h => ?_
  obtain ⟨ρ, st, R, re, S, h, q⟩ := h
  refine up_op (K := X.K) (J := J) ⟨ρ, st, _, re, S, h, fun d s1 v H1 hd e1 S1 rd => ?_⟩
  cases d with
  | bl k => unfold Rep at rd; exact ⟨k, rd, q k s1 H1 hd e1 S1⟩
  | _ => exact (show False from hd).elim
theorem up_chain {K : PySem.W.Frag} {r r' : RD2} {σ : L2.St} {H : Hp} {Q : VK} (h : upE K J (tChainD r r' ta tb tc) σ H Q) : tChain (upR2 K J r) (upR2 K J r') (upE K J ta) (upE K J tb) (upE K J tc) σ H Q := by
  obtain ⟨ρ, st, R, re, S, h, q⟩ := h
  refine ⟨ρ, st, _, re, S, h, fun x s1 vx H1 hx e1 S1 rx => ?_⟩
  refine ⟨ρ, s1, _, re.ext e1, S1, hx, fun y s2 vy H2 hy e2 S2 ry => ?_⟩
  refine ⟨x, y, s2, _, Rep.ext e2 _ _ rx, ry, S2, hy, fun z s3 vz H3 hz e3 S3 rz => ?_⟩
  cases z with
  | bl k =>
    unfold Rep at rz
    refine ⟨k, rz, ?_⟩
    cases k with
    | true => exact iteT ⟨ρ, s3, _, ((re.ext e1).ext e2).ext e3, S3, hz, fun w s4 vw H4 hw e4 S4 rw => ⟨y, w, s4, R, Rep.ext e4 _ _ (Rep.ext e3 _ _ ry), rw, S4, hw, q.ext (((e1.trans e2).trans e3).trans e4)⟩⟩
    | false => exact iteF (q (.bl false) s3 _ H3 hz ((e1.trans e2).trans e3) S3 (by unfold Rep; rfl))
  | _ => exact (show False from hz).elim
theorem ed_chain {op op' : CmpOp} {r r' : RD2} (ho : OpD J X (compareOp op) r) (ho' : OpD J X (compareOp op') r') (ha : PED J X a ta) (hb : PED J X b tb) (hc : PED J X c tc)
    (hm : lastMarks [op, op'] [b, c] = false := by with_unfolding_all rfl) : PED J X (.Compare a [op, op'] [b, c] pos) (tChainD r r' ta tb tc) :=
  PE.imp (pe_chain ho ho' ha hb hc hm) fun _ _ _ h => up_chain h
theorem td_chain {op op' : CmpOp} {r r' : RD2} (ho : OpD J X (compareOp op) r) (ho' : OpD J X (compareOp op') r') (ha : PED J X a ta) (hb : PED J X b tb) (hc : PED J X c tc)
    (hm : lastMarks [op, op'] [b, c] = false := by with_unfolding_all rfl) : PTD J X (.Compare a [op, op'] [b, c] pos) (tTestD (tChainD r r' ta tb tc)) := by
  refine PT.imp (pt_chain ho ho' ha hb hc hm) fun σ H Q h => ?_
  obtain ⟨ρ, st, R, re, S, h, q⟩ := h
  refine up_chain (K := X.K) (J := J) ⟨ρ, st, _, re, S, h, fun d s1 v H1 hd e1 S1 rd => ?_⟩
  cases d with
  | bl k => unfold Rep at rd; exact ⟨k, rd, q k s1 H1 hd e1 S1⟩
  | _ => exact (show False from hd).elim
/-- any expression as a test, by the truth of its value -/
def truD (d : D) (st : Stor) (R : Bool → Stor → Prop) : Prop := match d with
  | .non => R false st
  | .bl b => R b st
  | .int i => R (i != 0) st
  | .str x => R ((x.length : Int) != 0) st
  | .tup xs => R (!xs.isEmpty) st
  | .ref a => ∃ xs, getL st a = some xs ∧ R (!xs.isEmpty) st
  | .ro xs => R (!xs.isEmpty) st
def tTruD (t : TED) : TTD := fun ρ st R => t ρ st fun d s1 => truD d s1 R
theorem reps_empty {K : PySem.W.Frag} {H : Hp} {ds : List D} {vs : List V} (h : Reps K H ds vs) : ds.isEmpty = vs.isEmpty := by
  have := h.len
  cases ds <;> cases vs <;> simp at this ⊢
theorem td_tru (ha : PED J X a ta) (he : ∀ whole, isTrue a X.env whole = (do let v ← whole; standAt a.pos; holding [v] (truthy v)) := by intro _; rfl) : PTD J X a (tTruD ta) := by
  refine PT.imp (pt_truth ha he) fun σ H Q h => ?_
  obtain ⟨ρ, st, R, re, S, h, q⟩ := h
  refine ⟨ρ, st, _, re, S, h, fun d s1 v H1 hd e1 S1 rd => ?_⟩
  have fin : ∀ k, R k s1 → Q k H1 := fun k z => q k s1 H1 z e1 S1
  cases d with
  | non => unfold Rep at rd; subst rd; exact ⟨false, rfl, fin _ hd⟩
  | bl b => unfold Rep at rd; subst rd; exact ⟨b, rfl, fin _ hd⟩
  | int i => unfold Rep at rd; subst rd; exact ⟨_, rfl, fin _ hd⟩
  | str x => unfold Rep at rd; obtain ⟨rfl, rd, _⟩ := rd; exact ⟨_, ⟨rd, rfl⟩, fin _ hd⟩
  | tup xs =>
    unfold Rep at rd
    obtain ⟨p, vs, rfl, hs, rs⟩ := rd
    exact ⟨_, .inr (.inl ⟨vs, hs.sqT, rfl⟩), fin _ (by rw [← reps_empty rs]; exact hd)⟩
  | ref p =>
    unfold Rep at rd
    subst rd
    obtain ⟨xs, hg, hd⟩ := hd
    obtain ⟨vs, hs, rs⟩ := S1.getL hg
    exact ⟨_, .inl ⟨vs, hs, rfl⟩, fin _ (by rw [← reps_empty rs]; exact hd)⟩
  | ro xs =>
    unfold Rep at rd
    obtain ⟨p, vs, rfl, hs, rs⟩ := rd
    exact ⟨_, .inl ⟨vs, hs.sqL, rfl⟩, fin _ (by rw [← reps_empty rs]; exact hd)⟩
/-- an expression whose value is a bool, as a test (a constant, a not ..) -/
theorem td_val (h : PED J X a ta) (he : ∀ whole, isTrue a X.env whole = (do let v ← whole; standAt a.pos; holding [v] (truthy v)) := by intro _; rfl) : PTD J X a (tTestD ta) := by
  refine PT.imp (pt_val h he) fun σ H Q h => ?_
  obtain ⟨ρ, st, R, re, S, h, q⟩ := h
  refine ⟨ρ, st, _, re, S, h, fun d s1 v H1 hd e1 S1 rd => ?_⟩
  cases d with
  | bl k => unfold Rep at rd; exact ⟨k, rd, q k s1 H1 hd e1 S1⟩
  | _ => exact (show False from hd).elim

/-! ### and, or, not, if -/
variable {tA tB' : TTD} {rest : List Expr}
theorem wd_and1 (ha : PTD J X a tA) : PWD J X (.BoolOp .And [a] pos) tA := pw_and1 ha
theorem wd_or1 (ha : PTD J X a tA) : PWD J X (.BoolOp .Or [a] pos) tA := pw_or1 ha
theorem wd_and (ha : PTD J X a tA) (hb : PWD J X (.BoolOp .And (b :: rest) pos) tB') : PWD J X (.BoolOp .And (a :: b :: rest) pos) (tAndD tA tB') := by
  refine PW.imp (pw_and ha hb) fun σ H Q h => ?_
  obtain ⟨ρ, st, R, re, S, h, q⟩ := h
  refine ⟨ρ, st, _, re, S, h, fun k s1 H1 hk e1 S1 => ?_⟩
  cases k with
  | true => exact iteT ⟨ρ, s1, R, re.ext e1, S1, hk, q.ext e1⟩
  | false => exact iteF (q false s1 H1 hk e1 S1)
theorem wd_or (ha : PTD J X a tA) (hb : PWD J X (.BoolOp .Or (b :: rest) pos) tB') : PWD J X (.BoolOp .Or (a :: b :: rest) pos) (tOrD tA tB') := by
  refine PW.imp (pw_or ha hb) fun σ H Q h => ?_
  obtain ⟨ρ, st, R, re, S, h, q⟩ := h
  refine ⟨ρ, st, _, re, S, h, fun k s1 H1 hk e1 S1 => ?_⟩
  cases k with
  | false => exact iteF ⟨ρ, s1, R, re.ext e1, S1, hk, q.ext e1⟩
  | true => exact iteT (q true s1 H1 hk e1 S1)
theorem td_w {e : Expr} {t : TTD} (h : PWD J X e t) : PTD J X e t := PW.pt h
theorem td_not (ha : PTD J X a tA) : PTD J X (.UnaryOp .Not a pos) (tNotD tA) :=
  PT.imp (pt_not ha) fun σ H Q ⟨ρ, st, R, re, S, h, q⟩ => ⟨ρ, st, _, re, S, h, fun k s1 H1 hk e1 S1 => q (!k) s1 H1 hk e1 S1⟩
theorem ed_if {c : Expr} (hc : PTD J X c tA) (ha : PED J X a ta) (hb : PED J X b tb) : PED J X (.IfExp c a b pos) (tIfD tA ta tb) := by
  refine PE.imp (pe_ifExp hc ha hb) fun σ H Q h => ?_
  obtain ⟨ρ, st, R, re, S, h, q⟩ := h
  refine ⟨ρ, st, _, re, S, h, fun k s1 H1 hk e1 S1 => ?_⟩
  cases k with
  | true => exact iteT ⟨ρ, s1, R, re.ext e1, S1, hk, q.ext e1⟩
  | false => exact iteF ⟨ρ, s1, R, re.ext e1, S1, hk, q.ext e1⟩
theorem ed_one {op} {t : TED} (h : PED J X a t) : PED J X (.BoolOp op [a] pos) t := pe_one h
theorem ed_and (ha : PED J X a ta) (hb : PED J X (.BoolOp .And (b :: rest) pos) tb) : PED J X (.BoolOp .And (a :: b :: rest) pos) (tAndVD ta tb) := by
  refine PE.imp (pe_and ha hb) fun σ H Q h => ?_
  obtain ⟨ρ, st, R, re, S, h, q⟩ := h
  refine ⟨ρ, st, _, re, S, h, fun d s1 v H1 hd e1 S1 rd => ?_⟩
  cases d with
  | bl k =>
    unfold Rep at rd
    refine ⟨k, rd, ?_⟩
    cases k with
    | true => exact iteT ⟨ρ, s1, R, re.ext e1, S1, hd, q.ext e1⟩
    | false => exact iteF (q _ s1 _ H1 hd e1 S1 (by unfold Rep; rfl))
  | _ => exact (show False from hd).elim
theorem ed_or (ha : PED J X a ta) (hb : PED J X (.BoolOp .Or (b :: rest) pos) tb) : PED J X (.BoolOp .Or (a :: b :: rest) pos) (tOrVD ta tb) := by
  refine PE.imp (pe_or ha hb) fun σ H Q h => ?_
  obtain ⟨ρ, st, R, re, S, h, q⟩ := h
  refine ⟨ρ, st, _, re, S, h, fun d s1 v H1 hd e1 S1 rd => ?_⟩
  cases d with
  | bl k =>
    unfold Rep at rd
    refine ⟨k, rd, ?_⟩
    cases k with
    | false => exact iteF ⟨ρ, s1, R, re.ext e1, S1, hd, q.ext e1⟩
    | true => exact iteT (q _ s1 _ H1 hd e1 S1 (by unfold Rep; rfl))
  | _ => exact (show False from hd).elim
theorem ed_not (ha : PED J X a ta) : PED J X (.UnaryOp .Not a pos) (tNotVD ta) := by
  refine PE.imp (pe_not ha) fun σ H Q h => ?_
  obtain ⟨ρ, st, R, re, S, h, q⟩ := h
  refine ⟨ρ, st, _, re, S, h, fun d s1 v H1 hd e1 S1 rd => ?_⟩
  cases d with
  | bl k => unfold Rep at rd; exact ⟨k, rd, q _ s1 _ H1 hd e1 S1 (by unfold Rep; rfl)⟩
  | _ => exact (show False from hd).elim

/-! ### arguments, displays, calls of built-ins -/
theorem ad_nil : PAD J X [] tNilD := PA.imp pa_nil fun σ H Q ⟨_, st, R, _, S, h, q⟩ => q [] st [] H h (Ext.refl H) S .nil
theorem ad_cons {e : Expr} {es : List Expr} {t : TED} {u : TAD} (h : PED J X e t) (hs : PAD J X es u) (hst : starEach (e :: es) X.env = (false, eval e X.env) :: starEach es X.env := by rfl) : PAD J X (e :: es) (tConsD t u) := by
  refine PA.imp (pa_cons h hs hst) fun σ H Q hh => ?_
  obtain ⟨ρ, st, R, re, S, hh, q⟩ := hh
  refine ⟨ρ, st, _, re, S, hh, fun d s1 v H1 hd e1 S1 rd => ?_⟩
  exact ⟨ρ, s1, _, re.ext e1, S1, hd, fun ds s2 vs H2 hds e2 S2 rs => q (d :: ds) s2 (v :: vs) H2 hds (e1.trans e2) S2 (.cons (Rep.ext e2 _ _ rd) rs)⟩
def tTupD (t : TAD) : TED := fun ρ st R => t ρ st fun ds s1 => ds.length ≤ sizeLine ∧ R (.tup ds) s1
def tLstD (t : TAD) : TED := fun ρ st R => t ρ st fun ds s1 => ds.length ≤ sizeLine ∧ ∀ p, s1 p = none → R (.ref p) (put s1 p (.lst ds))
variable {es : List Expr} {t : TAD}
/-- a new tuple, its object known -/
def TupNew (H : Hp) (vs : List V) (Q : VK) : Prop := ∀ p ob, H p = none → ob.dict = none → Q (.ref p) (upd H p (.frz ob (.tup vs)))
theorem rep_tup {K : PySem.W.Frag} {H : Hp} {p : Addr} {ob : Obj} {ds : List D} {vs : List V} (h : H p = none) (hd : ob.dict = none) (r : Reps K H ds vs) : Rep K (upd H p (.frz ob (.tup vs))) (.tup ds) (.ref p) := by
  unfold Rep
  exact ⟨p, vs, rfl, .inl ⟨ob, hd, upd_same⟩, Reps.ext (Ext.new h) _ _ r⟩
theorem tupNew_of {J : Hid} {K : PySem.W.Frag} {H : Hp} {st : Stor} {ds : List D} {vs : List V} {R : KD} {Q : VK} (S : SimS K J st H) (r : Reps K H ds vs) (h : R (.tup ds) st) (q : After K J H R Q) : TupNew H vs Q :=
  fun _ _ hp hd => q _ st _ _ h (Ext.new hp) (S.new hp) (rep_tup hp hd r)
theorem tup_laid {X : Cx} {pins : List (Addr × Obj)} {σ : L2.St} {H : Hp} {s : Shared} {h' : Heap} {t' : Nat} {vs : List V} {us : List Value} {ob : Obj} {n : Nat} {Q : VK} (I : Inv X pins σ H s) (k : ∀ b u, s.heap.get? b = some u → h'.get? b = some u) {a : Addr} (hp : s.heap.objs.size ≤ a)
    (e : h'.get? a = some ob) (hc : ob.cls = .type "tuple") (hd : ob.dict = none) (hda : ob.data = .seq us.toArray n) (r : Vals vs us) (z : vs.length ≤ sizeLine) (q : TupNew H vs Q) : EP X pins σ Q (.ref a) { s with heap := h', toks := t' } :=
  ⟨.ref a, _, I.laid (t' := t') (o := .frz ob (.tup vs)) k hp ⟨e, z, us, r, ob, e, hc, n, hda⟩, rfl, q a ob (I.hok.fresh hp) hd⟩
theorem pe_tupF {k} {t : TA} (h : PA X es t) : PE X (.Tuple es k pos) (fun σ H Q => t σ H fun vs H1 => vs.length ≤ sizeLine ∧ TupNew H1 vs Q) := by
  refine ⟨fun pins s σ H Q I hq => ?_⟩
  refine wpAny_Tuple_spliced (thn (h.run pos pins s σ H _ I hq) fun us s1 ⟨xs, H1, I1, r, z, q⟩ => ⟨by rw [← r.length]; exact z, ?_⟩)
  exact tup_laid (t' := s1.toks) I1 (fun b u e => Heap.get?_push_of_some _ e) (Nat.le_refl _) (Heap.get?_push_size _ rfl) rfl rfl rfl r z q
theorem ed_tup {k} (h : PAD J X es t) : PED J X (.Tuple es k pos) (tTupD t) := by
  refine PE.imp (pe_tupF h) fun σ H Q hh => ?_
  obtain ⟨ρ, st, R, re, S, hh, q⟩ := hh
  refine ⟨ρ, st, _, re, S, hh, fun ds s1 vs H1 hd e1 S1 rs => ?_⟩
  exact ⟨by rw [← rs.len]; exact hd.1, tupNew_of S1 rs hd.2 (q.ext e1)⟩
theorem ed_lst (h : PAD J X es t) : PED J X (.List es pos) (tLstD t) := by
  refine PE.imp (pe_lst h) fun σ H Q hh => ?_
  obtain ⟨ρ, st, R, re, S, hh, q⟩ := hh
  refine ⟨ρ, st, _, re, S, hh, fun ds s1 vs H1 hd e1 S1 rs => ?_⟩
  exact ⟨by rw [← rs.len]; exact hd.1, fun p hp => q _ _ _ _ (hd.2 p (S1.fresh hp)) (e1.trans (Ext.new hp)) (S1.newL hp rs) (by unfold Rep; rfl)⟩
theorem up_call {K : PySem.W.Frag} {r : RDL} {σ : L2.St} {H : Hp} {Q : VK} (h : upE K J (tCallD r t) σ H Q) : tCB (upRL K J r) (upA K J t) σ H Q := by
  obtain ⟨ρ, st, R, re, S, h, q⟩ := h
  exact ⟨ρ, st, _, re, S, h, fun ds s1 vs H1 hd e1 S1 rs => ⟨ds, s1, R, rs, S1, hd, q.ext e1⟩⟩
theorem ed_bltn {x : Str} {id : String} {r : RDL} {e : Expr} {p : Pos} (hc : CallD J X (.builtin id) r) (hm : X.mg x = none) (hv : bootBuiltins x = some (.builtin id)) (ha : PAD J X (e :: es) t) (hg : Gl X x := by rfl)
    (hn : x ≠ "__name__" := by decide) (hdb : (x == ("__debug__" : Str)) = false := by decide) (he : starEach (e :: es) X.env = (false, eval e X.env) :: starEach es X.env := by rfl) (hpl : (backTo pos (starEach es X.env)).any (·.1) = false := by rfl) :
    PED J X (.Call (.Name x p) (e :: es) [] pos) (tCallD r t) := PE.imp (pe_callB hc hg hm hv ha hn hdb he hpl) fun _ _ _ h => up_call h
theorem ed_type {x : Str} {T : String} {r : RDL} {e : Expr} {p : Pos} (hc : CallD J X (.type T) r) (hm : X.mg x = none) (hv : bootBuiltins x = some (.type T)) (ha : PAD J X (e :: es) t) (hg : Gl X x := by rfl)
    (hn : x ≠ "__name__" := by decide) (hdb : (x == ("__debug__" : Str)) = false := by decide) (he : starEach (e :: es) X.env = (false, eval e X.env) :: starEach es X.env := by rfl) (hpl : (backTo pos (starEach es X.env)).any (·.1) = false := by rfl) :
    PED J X (.Call (.Name x p) (e :: es) [] pos) (tCallD r t) := PE.imp (pe_callTy hc hg hm hv ha hn hdb he hpl) fun _ _ _ h => up_call h
theorem ed_ix {r : RD2} (hr : IxD J X r) (ha : PED J X a ta) (hb : PED J X b tb) (hs : PlainIx b := by exact fun _ _ => rfl) : PED J X (.Subscript a b pos) (tOpD r ta tb) :=
  PE.imp (pe_ix hr ha hb hs) fun _ _ _ h => up_op h
end
end DL
-- text DLC
set_option Elab.async false
set_option linter.all false
set_option maxRecDepth 100000
set_option maxHeartbeats 1000000
/-! DLC: operations on data -/
namespace DL
open PySem PySem.Spec PyProof.Rows L2

/-! ### data without references -/
mutual
def toPy : D → PyData
  | .non => .none
  | .bl b => .bool b
  | .int i => .int i
  | .str x => .str x
  | .tup xs => .tuple (toPys xs)
  | .ref _ => .none
  | .ro _ => .none
def toPys : List D → List PyData
  | [] => []
  | d :: ds => toPy d :: toPys ds
end
mutual
def pureD : D → Bool
  | .tup xs => pureDs xs
  | .ref _ => false
  | .ro _ => false
  | _ => true
def pureDs : List D → Bool
  | [] => true
  | d :: ds => pureD d && pureDs ds
end
theorem toPys_map : ∀ ds : List D, toPys ds = ds.map toPy
  | [] => rfl
  | d :: ds => by rw [toPys, toPys_map ds]; rfl
theorem pureDs_all : ∀ ds : List D, pureDs ds = ds.all pureD
  | [] => rfl
  | d :: ds => by rw [pureDs, pureDs_all ds]; rfl
/-- Python's == on data -/
def deq (x y : D) : Bool := PyData.eqv (toPy x) (toPy y)
def deqs (x y : List D) : Bool := PyData.eqvAll (toPys x) (toPys y)
@[simp] theorem deq_int (i j : Int) : deq (.int i) (.int j) = decide (i = j) := by
  show PyData.eqv (.int i) (.int j) = _
  simp only [PyData.eqv]
  exact Bool.beq_eq_decide_eq i j
@[simp] theorem deq_str (i j : Str) : deq (.str i) (.str j) = decide (i = j) := by
  show PyData.eqv (.str i) (.str j) = _
  simp only [PyData.eqv]
  exact Bool.beq_eq_decide_eq i j
@[simp] theorem deq_bl (i j : Bool) : deq (.bl i) (.bl j) = decide (i = j) := by
  show PyData.eqv (.bool i) (.bool j) = _
  simp only [PyData.eqv]
  exact Bool.beq_eq_decide_eq i j
@[simp] theorem deq_non : deq .non .non = true := by
  show PyData.eqv .none .none = _
  simp only [PyData.eqv]
@[simp] theorem deq_tup (xs ys : List D) : deq (.tup xs) (.tup ys) = deqs xs ys := by
  show PyData.eqv (.tuple (toPys xs)) (.tuple (toPys ys)) = _
  simp only [PyData.eqv]
  rfl
@[simp] theorem deq_tup_non (xs : List D) : deq (.tup xs) .non = false := by
  show PyData.eqv (.tuple (toPys xs)) .none = _
  simp only [PyData.eqv]
@[simp] theorem deq_non_tup (xs : List D) : deq .non (.tup xs) = false := by
  show PyData.eqv .none (.tuple (toPys xs)) = _
  simp only [PyData.eqv]
@[simp] theorem deqs_nil : deqs [] [] = true := by
  show PyData.eqvAll [] [] = _
  simp only [PyData.eqvAll]
@[simp] theorem deqs_cons (x y : D) (xs ys : List D) : deqs (x :: xs) (y :: ys) = (deq x y && deqs xs ys) := by
  show PyData.eqvAll (toPy x :: toPys xs) (toPy y :: toPys ys) = _
  simp only [PyData.eqvAll]
  rfl
@[simp] theorem deqs_cn (x : D) (xs : List D) : deqs (x :: xs) [] = false := by
  show PyData.eqvAll (toPy x :: toPys xs) [] = _
  simp only [PyData.eqvAll]
@[simp] theorem deqs_nc (x : D) (xs : List D) : deqs [] (x :: xs) = false := by
  show PyData.eqvAll [] (toPy x :: toPys xs) = _
  simp only [PyData.eqvAll]
/-- nesting -/
def depD (d : D) : Nat := (toPy d).depth
def depDs (ds : List D) : Nat := PyData.depthAll (toPys ds)
@[simp] theorem depD_non : depD .non = 0 := by simp only [depD, toPy, PyData.depth]
@[simp] theorem depD_bl (b : Bool) : depD (.bl b) = 0 := by simp only [depD, toPy, PyData.depth]
@[simp] theorem depD_int (i : Int) : depD (.int i) = 0 := by simp only [depD, toPy, PyData.depth]
@[simp] theorem depD_str (i : Str) : depD (.str i) = 0 := by simp only [depD, toPy, PyData.depth]
@[simp] theorem depD_tup (xs : List D) : depD (.tup xs) = depDs xs + 1 := by simp only [depD, depDs, toPy, PyData.depth]
@[simp] theorem depDs_nil : depDs [] = 0 := by simp only [depDs, toPys, PyData.depthAll]
@[simp] theorem depDs_cons (x : D) (xs : List D) : depDs (x :: xs) = max (depD x) (depDs xs) := by simp only [depD, depDs, toPys, PyData.depthAll]
theorem depDs_le {ds : List D} {n : Nat} (h : ∀ d ∈ ds, depD d ≤ n) : depDs ds ≤ n := by
  induction ds with
  | nil => simp
  | cons d ds ih =>
    rw [depDs_cons]
    exact Nat.max_le.mpr ⟨h d List.mem_cons_self, ih fun e he => h e (List.mem_cons_of_mem _ he)⟩
/-- data that may be compared: no references, not too deep -/
structure Okd (d : D) : Prop where
  p : pureD d = true
  n : depD d ≤ 60
structure Okds (ds : List D) : Prop where
  p : pureDs ds = true
  n : depDs ds ≤ 60
theorem Okd.int {i : Int} : Okd (.int i) := ⟨rfl, by simp⟩
theorem Okd.str {i : Str} : Okd (.str i) := ⟨rfl, by simp⟩
theorem Okd.bl {i : Bool} : Okd (.bl i) := ⟨rfl, by simp⟩
theorem Okd.non : Okd .non := ⟨rfl, by simp⟩

section
variable {K : PySem.W.Frag} {H : Hp}
mutual
theorem dp_of : ∀ (d : D) (v : V), Rep K H d v → pureD d = true → Dp K H v (toPy d) ∧ (toPy d).canLay0 = true
  | .non, _, h, _ => by unfold Rep at h; subst h; exact ⟨.non, by simp only [toPy, PyData.canLay0]⟩
  | .bl b, _, h, _ => by unfold Rep at h; subst h; exact ⟨.bl b, by simp only [toPy, PyData.canLay0]⟩
  | .int i, _, h, _ => by unfold Rep at h; subst h; exact ⟨.int i, by simp only [toPy, PyData.canLay0]⟩
  | .str x, _, h, _ => by unfold Rep at h; obtain ⟨rfl, _, h⟩ := h; exact ⟨.str x, by simp only [toPy, PyData.canLay0]; exact h⟩
  | .tup ds, _, h, p => by
    unfold Rep at h
    obtain ⟨a, vs, rfl, h1, h2⟩ := h
    obtain ⟨q1, q2⟩ := dps_of ds vs h2 (by unfold pureD at p; exact p)
    exact ⟨.tup h1.sqT q1, by simp only [toPy, PyData.canLay0]; exact q2⟩
  | .ref _, _, _, p => by unfold pureD at p; cases p
  | .ro _, _, _, p => by unfold pureD at p; cases p
theorem dps_of : ∀ (ds : List D) (vs : List V), Reps K H ds vs → pureDs ds = true → DpAll K H vs (toPys ds) ∧ PyData.canLayAll0 (toPys ds) = true
  | [], _, h, _ => by rw [h.inv_nil]; exact ⟨.nil, by simp only [toPys, PyData.canLayAll0]⟩
  | d :: ds, _, h, p => by
    obtain ⟨v, r, rfl, h1, h2⟩ := h.inv
    unfold pureDs at p
    rw [Bool.and_eq_true] at p
    obtain ⟨q1, q2⟩ := dp_of d v h1 p.1
    obtain ⟨q3, q4⟩ := dps_of ds r h2 p.2
    exact ⟨.cons q1 q3, by simp only [toPys, PyData.canLayAll0, q2, q4]; rfl⟩
end
end

/-! ### the operations -/
def dAdd (x y : D) (st : Stor) (R : KD) : Prop := match x, y with
  | .int i, .int j => R (.int (i + j)) st
  | .str a, .str b => a.length + b.length ≤ sizeLine ∧ R (.str (a ++ b)) st
  | .tup xs, .tup ys => xs.length + ys.length ≤ sizeLine ∧ R (.tup (xs ++ ys)) st
  | .ref a, .ref b => ∃ xs ys, st a = some (.lst xs) ∧ st b = some (.lst ys) ∧ xs.length + ys.length ≤ sizeLine ∧ ∀ p, st p = none → R (.ref p) (put st p (.lst (xs ++ ys)))
  | _, _ => False
def dSub (x y : D) (st : Stor) (R : KD) : Prop := match x, y with
  | .int i, .int j => R (.int (i - j)) st
  | _, _ => False
def dMul (x y : D) (st : Stor) (R : KD) : Prop := match x, y with
  | .int i, .int j => IntMulOk i j ∧ R (.int (i * j)) st
  | .ref a, .int k => ∃ xs, st a = some (.lst xs) ∧ -(2 ^ 63) ≤ k ∧ k < 2 ^ 63 ∧ xs.length * k.toNat ≤ sizeLine ∧ ∀ p, st p = none → R (.ref p) (put st p (.lst (List.replicate k.toNat xs).flatten))
  | .tup xs, .int k => xs ≠ [] ∧ 2 ≤ k ∧ k ≤ 1000 ∧ xs.length ≤ 1000 ∧ R (.tup (List.replicate k.toNat xs).flatten) st
  | _, _ => False
def dFdiv (x y : D) (st : Stor) (R : KD) : Prop := match x, y with
  | .int i, .int j => j ≠ 0 ∧ j.natAbs.log2 < 9000 ∧ if 0 < j then R (.int (i / j)) st else R (.int (i.fdiv j)) st
  | _, _ => False
def dMod (x y : D) (st : Stor) (R : KD) : Prop := match x, y with
  | .int i, .int j => j ≠ 0 ∧ if 0 < j then R (.int (i % j)) st else R (.int (i.fmod j)) st
  | _, _ => False
def dPow (x y : D) (st : Stor) (R : KD) : Prop := match x, y with
  | .int i, .int j => CPow i j ∧ R (.int (i ^ j.toNat)) st
  | _, _ => False
def dNeg (x : D) (st : Stor) (R : KD) : Prop := match x with
  | .int i => R (.int (-i)) st
  | _ => False
def dIntB (f : Int → Int → Bool) (x y : D) (st : Stor) (R : KD) : Prop := match x, y with
  | .int i, .int j => R (.bl (f i j)) st
  | _, _ => False
abbrev dLt := dIntB fun i j => decide (i < j)
abbrev dLe := dIntB fun i j => decide (i ≤ j)
abbrev dGt := dIntB fun i j => decide (j < i)
abbrev dGe := dIntB fun i j => decide (j ≤ i)
def dEqB (n : Bool) (x y : D) (st : Stor) (R : KD) : Prop := match x, y with
  | .int i, .int j => R (.bl (n ^^ decide (i = j))) st
  | .str i, .str j => R (.bl (n ^^ decide (i = j))) st
  | .ref a, .ref b => ∃ xs ys, getL st a = some xs ∧ getL st b = some ys ∧ Okds xs ∧ pureDs ys = true ∧ R (.bl (n ^^ deqs xs ys)) st
  | x, y => Okd x ∧ pureD y = true ∧ R (.bl (n ^^ deq x y)) st
abbrev dEq := dEqB false
abbrev dNe := dEqB true
def dIsN (n : Bool) (x y : D) (st : Stor) (R : KD) : Prop := match y with
  | .non => R (.bl (n ^^ (match x with | .non => true | _ => false))) st
  | _ => False
def dInB (n : Bool) (x y : D) (st : Stor) (R : KD) : Prop := match y with
  | .tup ys => Okd x ∧ pureDs ys = true ∧ R (.bl (n ^^ ys.any fun z => deq z x)) st
  | .ref a => ∃ ys, getL st a = some ys ∧ Okd x ∧ pureDs ys = true ∧ R (.bl (n ^^ ys.any fun z => deq z x)) st
  | .str b => (match x with
    | .str a => R (.bl (n ^^ !(Builtin.Str.occurrences b a 0 b.length 1).isEmpty)) st
    | _ => False)
  | _ => False
abbrev dIn := dInB false
abbrev dNotIn := dInB true
def dIx (x y : D) (st : Stor) (R : KD) : Prop := match x, y with
  | .tup xs, .int k => ∃ v, atI xs k = some v ∧ R v st
  | .str z, .int k => ∃ c, atI z.cps.toList k = some c ∧ R (.str ⟨#[c]⟩) st
  | .ref a, .int k => ∃ xs v, getL st a = some xs ∧ atI xs k = some v ∧ R v st
  | .ro xs, .int k => ∃ v, atI xs k = some v ∧ R v st
  | _, _ => False
def dLen (ds : List D) (st : Stor) (R : KD) : Prop := match ds with
  | [.str x] => R (.int (x.length : Nat)) st
  | [.tup xs] => R (.int (xs.length : Nat)) st
  | [.ref a] => ∃ xs, getL st a = some xs ∧ R (.int (xs.length : Nat)) st
  | [.ro xs] => R (.int (xs.length : Nat)) st
  | _ => False
def dAbs (ds : List D) (st : Stor) (R : KD) : Prop := match ds with
  | [.int i] => R (.int (if i < 0 then -i else i)) st
  | _ => False
def dMax2 (ds : List D) (st : Stor) (R : KD) : Prop := match ds with
  | [.int i, .int j] => R (.int (if j > i then j else i)) st
  | _ => False
def dMin2 (ds : List D) (st : Stor) (R : KD) : Prop := match ds with
  | [.int i, .int j] => R (.int (if j < i then j else i)) st
  | _ => False
def dGcd (ds : List D) (st : Stor) (R : KD) : Prop := match ds with
  | [.int i, .int j] => R (.int ((Nat.gcd i.natAbs j.natAbs : Nat) : Int)) st
  | _ => False
def dInt (ds : List D) (st : Stor) (R : KD) : Prop := match ds with
  | [.int i] => R (.int i) st
  | [.bl b] => R (.int (if b then 1 else 0)) st
  | _ => False
def dList (ds : List D) (st : Stor) (R : KD) : Prop := match ds with
  | [.tup xs] => ∀ p, st p = none → R (.ref p) (put st p (.lst xs))
  | [.ref a] => ∃ xs, getL st a = some xs ∧ ∀ p, st p = none → R (.ref p) (put st p (.lst xs))
  | [.ro xs] => ∀ p, st p = none → R (.ref p) (put st p (.lst xs))
  | _ => False
def dTuple (ds : List D) (st : Stor) (R : KD) : Prop := match ds with
  | [.tup xs] => R (.tup xs) st
  | [.ref a] => ∃ xs, getL st a = some xs ∧ R (.tup xs) st
  | _ => False

section
variable {J : Hid} {X : Cx}
theorem rep_int {K : PySem.W.Frag} {H : Hp} {i : Int} : Rep K H (.int i) (.int i) := by unfold Rep; rfl
theorem rep_bl {K : PySem.W.Frag} {H : Hp} {i : Bool} : Rep K H (.bl i) (.bl i) := by unfold Rep; rfl
theorem rep_ref {K : PySem.W.Frag} {H : Hp} {a : Addr} : Rep K H (.ref a) (.ref a) := by unfold Rep; rfl
theorem reps_nilV {K : PySem.W.Frag} {H : Hp} {ds : List D} (h : Reps K H ds []) : ds = [] := by
  have := h.len
  cases ds with
  | nil => rfl
  | cons d ds => simp at this
/-- t + u -/
theorem op_catF : OpR X (binaryOp .Add) (fun x y H Q => ∃ a b xs ys, x = .ref a ∧ y = .ref b ∧ SqT X.K H a xs ∧ SqT X.K H b ys ∧ xs.length + ys.length ≤ sizeLine ∧
    (xs = [] → Q (.ref b) H) ∧ (xs ≠ [] → ys = [] → Q (.ref a) H) ∧ (xs ≠ [] → ys ≠ [] → TupNew H (xs ++ ys) Q)) := by
  intro pins s σ H x y v u Q I rx ry h
  obtain ⟨a, b, xs, ys, rfl, rfl, ha, hb, hz, q0, q1, q2⟩ := h
  cases rx
  cases ry
  obtain ⟨its, r1, p1, _⟩ := I.tuple ha
  obtain ⟨its2, r2, p2, _⟩ := I.tuple hb
  by_cases hx : xs = []
  · subst hx
    cases r1
    exact cat_tup0 p1 p2 ⟨.ref b, H, I, rfl, q0 rfl⟩
  · refine HT.cat_tup p1 p2 (fun z => hx (r1.nil_iff.mp z)) (fun z => ⟨.ref a, H, I, rfl, q1 hx (r2.nil_iff.mp z)⟩) (fun z => ?_) (by rw [← r1.length, ← r2.length]; exact hz)
    exact tup_laid (t' := s.toks) I (fun b ob q => Heap.get?_push_of_some _ q) (Nat.le_refl _) (Heap.get?_push_size _ rfl) rfl rfl rfl (r1.append r2) (by rw [List.length_append]; exact hz) (q2 hx fun w => z (r2.nil_iff.mpr w))
theorem strOk_append {a b : Str} (h : PyData.strOk a = true) (k : PyData.strOk b = true) : PyData.strOk (a ++ b) = true := by
  unfold PyData.strOk at h k ⊢
  show ((a.cps ++ b.cps).all _) = true
  rw [Array.all_append, h, k]
  rfl
theorem len_append {a b : Str} : (a ++ b).length = a.length + b.length := by
  show (a.cps ++ b.cps).size = _
  rw [Array.size_append]
  rfl
theorem strOk_char {z : Str} {c : Nat} (h : PyData.strOk z = true) (k : c ∈ z.cps.toList) : PyData.strOk ⟨#[c]⟩ = true := by
  unfold PyData.strOk at h ⊢
  rw [Array.all_eq_true_iff_forall_mem] at h
  have := h c (by simpa using k)
  simp at this ⊢
  exact this
theorem od_add : OpD J X (binaryOp .Add) dAdd := by
  refine OpR.imp (op_add.or (op_add_str.or (op_catF.or op_cat))) fun vx vy H Q h => ?_
  obtain ⟨x, y, st, R, rx, ry, S, h, q⟩ := h
  cases x <;> cases y <;> try exact (show False from h).elim
  · unfold Rep at rx ry; subst rx ry
    exact .inl ⟨_, _, rfl, rfl, q _ st _ H h (Ext.refl H) S rep_int⟩
  · unfold Rep at rx ry
    obtain ⟨rfl, l1, o1⟩ := rx
    obtain ⟨rfl, l2, o2⟩ := ry
    exact .inr (.inl ⟨_, _, rfl, rfl, h.1, q _ st _ H h.2 (Ext.refl H) S (by unfold Rep; exact ⟨rfl, by rw [len_append]; exact h.1, strOk_append o1 o2⟩)⟩)
  · rename_i xs ys
    have rx0 := rx
    have ry0 := ry
    unfold Rep at rx ry
    obtain ⟨a, vs, rfl, t1, r1⟩ := rx
    obtain ⟨b, ws, rfl, t2, r2⟩ := ry
    refine .inr (.inr (.inl ⟨a, b, vs, ws, rfl, rfl, t1.sqT, t2.sqT, by rw [← r1.len, ← r2.len]; exact h.1, fun e => ?_, fun _ e => ?_, fun _ _ => ?_⟩))
    · subst e
      rw [reps_nilV r1] at h
      exact q _ st _ H h.2 (Ext.refl H) S ry0
    · subst e
      have h2 := h.2
      rw [reps_nilV r2, List.append_nil] at h2
      exact q _ st _ H h2 (Ext.refl H) S rx0
    · exact tupNew_of S (r1.append r2) h.2 q
  · unfold Rep at rx ry; subst rx ry
    obtain ⟨xs, ys, h1, h2, h3, h4⟩ := h
    obtain ⟨vs, e1, r1⟩ := S.lst h1
    obtain ⟨ws, e2, r2⟩ := S.lst h2
    exact .inr (.inr (.inr ⟨_, _, vs, ws, rfl, rfl, e1, e2, by rw [← r1.len, ← r2.len]; exact h3, fun p hp => q _ _ _ _ (h4 p (S.fresh hp)) (Ext.new hp) (S.newL hp (r1.append r2)) rep_ref⟩))
theorem od_sub : OpD J X (binaryOp .Sub) dSub := by
  refine OpR.imp op_sub fun vx vy H Q h => ?_
  obtain ⟨x, y, st, R, rx, ry, S, h, q⟩ := h
  cases x <;> cases y <;> try exact (show False from h).elim
  unfold Rep at rx ry; subst rx ry
  exact ⟨_, _, rfl, rfl, q _ st _ H h (Ext.refl H) S rep_int⟩
theorem op_mulF : OpR X (binaryOp .Mult) (rI IntMulOk fun i j => .int (i * j)) := opI fun _ _ _ _ _ _ _ hc q => mul_int q hc
/-- tuple * int, the new tuple known -/
theorem dl_op_repT : OpR X (binaryOp .Mult) (fun x y H Q => ∃ l k xs, x = .ref l ∧ y = .int k ∧ SqT X.K H l xs ∧ xs ≠ [] ∧ 2 ≤ k ∧ k ≤ 1000 ∧ xs.length ≤ 1000 ∧ TupNew H (List.replicate k.toNat xs).flatten Q) := by
  intro pins s σ H x y v u Q I rx ry h
  obtain ⟨l, k, xs, rfl, rfl, hT, hne, h1, h2, hz, q⟩ := h
  cases rx
  obtain ⟨t, rfl⟩ := ry
  obtain ⟨its, r, ⟨⟨cls, dd, data, sl⟩, ho, hc, n, hd⟩, hs⟩ := I.tuple hT
  simp only at hc hd
  subst hc hd
  have len := r.length
  have full : its.toArray.isEmpty = false := by
    cases its with
    | nil => exact absurd (List.eq_nil_of_length_eq_zero len) hne
    | cons a b => rfl
  have size : its.toArray.size = xs.length := by rw [List.size_toArray, len]
  have few : ((its.toArray.size : Nat) : Int) * k ≤ 1000000 := by
    rw [size]
    have : ((xs.length : Nat) : Int) * k ≤ 1000 * k := Int.mul_le_mul_of_nonneg_right (by omega) (by omega)
    omega
  have fewN : k.toNat * xs.length ≤ 1000 * 1000 := Nat.mul_le_mul (by omega) hz
  have b0 : (decide (k < -(2 ^ 63)) || decide (k ≥ 2 ^ 63)) = false := by
    rw [decide_eq_false (by omega), decide_eq_false (by omega)]; rfl
  have b1 : (its.toArray.isEmpty || k == 1) = false := by
    rw [full]; exact beq_eq_false_iff_ne.mpr (by omega)
  have b2 : (decide (k ≤ 0) || its.toArray.isEmpty) = false := by
    rw [full, decide_eq_false (by omega)]; rfl
  have b4 : Builtin.Tuple.tupleTooMany (((its.toArray.size : Nat) : Int) * k) = false := by
    unfold Builtin.Tuple.tupleTooMany
    rw [sizeLine_eq]
    exact decide_eq_false (by omega)
  have flat : (List.replicate k.toNat its).flatten.length ≤ sizeLine := by
    rw [PyProof.Rows.lm_len_rep_flat, ← len, sizeLine_eq]; omega
  have body := tuple_mulW l its.toArray n dd sl k t b0 b1 b2 (by omega) b4 (by rw [size_rep, List.size_toArray]; exact flat)
  refine wpAny_binaryOp_repeat_ref (T := "tuple") (U := "int") (by decide) ⟨_, ho, rfl⟩ (fun s' => typeIs_int s' k t) noFill_tuple_mul F.fills_int_mul F.slot_int_rmul repeat_tuple F.slot_int_index.lookup ?_
  refine call_meets F.slot_int_rmul (typeIs_int s k t) F.entry_int_rmul (F.args_int_rmul_2 _ _) (int_rmul_tuple k t l its.toArray n dd sl) ⟨ho, rfl, ⟨_, ho, rfl⟩, ?_⟩
  refine call_meets F.slot_tuple_mul ⟨_, ho, rfl⟩ F.entry_tuple_mul (F.args_tuple_mul_2 _ _) body ⟨ho, ?_⟩
  rw [size_rep]
  exact tup_laid (t' := s.toks) I (fun b ob q => Heap.get?_push_of_some _ q) (Nat.le_refl _) (Heap.get?_push_size _ rfl) rfl rfl rfl (r.rep k.toNat) (by rw [PyProof.Rows.lm_len_rep_flat, sizeLine_eq]; omega) q
theorem reps_rep {K : PySem.W.Frag} {H : Hp} {xs : List D} {vs : List V} (r : Reps K H xs vs) : ∀ n, Reps K H (List.replicate n xs).flatten (List.replicate n vs).flatten
  | 0 => by simp [Reps.nil]
  | n + 1 => by simp only [List.replicate_succ, List.flatten_cons]; exact r.append (reps_rep r n)
theorem od_mul : OpD J X (binaryOp .Mult) dMul := by
  refine OpR.imp (op_mulF.or (op_rep.or dl_op_repT)) fun vx vy H Q h => ?_
  obtain ⟨x, y, st, R, rx, ry, S, h, q⟩ := h
  cases x <;> cases y <;> try exact (show False from h).elim
  · unfold Rep at rx ry; subst rx ry
    exact .inl ⟨_, _, rfl, rfl, h.1, q _ st _ H h.2 (Ext.refl H) S rep_int⟩
  · unfold Rep at rx ry; subst ry
    obtain ⟨a, vs, rfl, t1, r1⟩ := rx
    obtain ⟨h1, h2, h3, h4, h5⟩ := h
    refine .inr (.inr ⟨a, _, vs, rfl, rfl, t1.sqT, fun e => h1 ?_, h2, h3, by rw [← r1.len]; exact h4, tupNew_of S (reps_rep r1 _) h5 q⟩)
    have := r1.len
    rw [e] at this
    exact List.eq_nil_of_length_eq_zero this
  · unfold Rep at rx ry; subst rx ry
    obtain ⟨xs, h1, h2, h3, h4, h5⟩ := h
    obtain ⟨vs, e1, r1⟩ := S.lst h1
    exact .inr (.inl ⟨_, _, vs, rfl, rfl, e1, h2, h3, by rw [← r1.len]; exact h4, fun p hp => q _ _ _ _ (h5 p (S.fresh hp)) (Ext.new hp) (S.newL hp (reps_rep r1 _)) rep_ref⟩)
theorem op_fdivF : OpR X (binaryOp .FloorDiv) (rI (fun _ j => j ≠ 0 ∧ j.natAbs.log2 < 9000) fun i j => .int (i.fdiv j)) := opI fun _ _ _ _ _ _ _ hc q => floordiv_int hc.1 q (.inl (PyProof.noPylong_of_log2 hc.2))
theorem od_fdiv : OpD J X (binaryOp .FloorDiv) dFdiv := by
  refine OpR.imp op_fdivF fun vx vy H Q h => ?_
  obtain ⟨x, y, st, R, rx, ry, S, h, q⟩ := h
  cases x <;> cases y <;> try exact (show False from h).elim
  rename_i i j
  unfold Rep at rx ry; subst rx ry
  refine ⟨_, _, rfl, rfl, ⟨h.1, h.2.1⟩, ?_⟩
  obtain ⟨_, _, h⟩ := h
  by_cases hj : 0 < j
  · rw [if_pos hj] at h
    show Q (.int (i.fdiv j)) H
    rw [Int.fdiv_eq_ediv_of_nonneg i (by omega)]
    exact q _ st _ H h (Ext.refl H) S rep_int
  · rw [if_neg hj] at h
    exact q _ st _ H h (Ext.refl H) S rep_int
theorem od_mod : OpD J X (binaryOp .Mod) dMod := by
  refine OpR.imp op_modN fun vx vy H Q h => ?_
  obtain ⟨x, y, st, R, rx, ry, S, h, q⟩ := h
  cases x <;> cases y <;> try exact (show False from h).elim
  rename_i i j
  unfold Rep at rx ry; subst rx ry
  refine ⟨_, _, rfl, rfl, h.1, ?_⟩
  obtain ⟨_, h⟩ := h
  by_cases hj : 0 < j
  · rw [if_pos hj] at h
    show Q (.int (i.fmod j)) H
    rw [Int.fmod_eq_emod_of_nonneg i (by omega)]
    exact q _ st _ H h (Ext.refl H) S rep_int
  · rw [if_neg hj] at h
    exact q _ st _ H h (Ext.refl H) S rep_int
theorem od_pow : OpD J X (binaryOp .Pow) dPow := by
  refine OpR.imp op_pow fun vx vy H Q h => ?_
  obtain ⟨x, y, st, R, rx, ry, S, h, q⟩ := h
  cases x <;> cases y <;> try exact (show False from h).elim
  unfold Rep at rx ry; subst rx ry
  exact ⟨_, _, rfl, rfl, h.1, q _ st _ H h.2 (Ext.refl H) S rep_int⟩
theorem ud_neg : UnD J X (unaryOp .USub) dNeg := by
  refine UnR.imp un_neg fun vx H Q h => ?_
  obtain ⟨x, st, R, rx, S, h, q⟩ := h
  cases x <;> try exact (show False from h).elim
  unfold Rep at rx; subst rx
  exact ⟨_, rfl, q _ st _ H h (Ext.refl H) S rep_int⟩
theorem od_intB {op : CmpOp} {f : Int → Int → Bool} (h0 : OpR X (compareOp op) (rI0 fun i j => .bl (f i j))) : OpD J X (compareOp op) (dIntB f) := by
  refine OpR.imp h0 fun vx vy H Q h => ?_
  obtain ⟨x, y, st, R, rx, ry, S, h, q⟩ := h
  cases x <;> cases y <;> try exact (show False from h).elim
  unfold Rep at rx ry; subst rx ry
  exact ⟨_, _, rfl, rfl, q _ st _ H h (Ext.refl H) S rep_bl⟩
theorem od_lt : OpD J X (compareOp .Lt) dLt := od_intB op_lt
theorem od_le : OpD J X (compareOp .LtE) dLe := od_intB op_le
theorem od_gt : OpD J X (compareOp .Gt) dGt := od_intB op_gt
theorem od_ge : OpD J X (compareOp .GtE) dGe := od_intB op_ge
/-- deep == -/
theorem op_eqF (hu : X.A.units + 61 < cLine) : OpR X (compareOp .Eq) (fun x y H Q => ∃ d e, Dp X.K H x d ∧ Dp X.K H y e ∧ d.canLay0 = true ∧ e.canLay0 = true ∧ d.depth ≤ 61 ∧ Q (.bl (PyData.eqv d e)) H) := by
  intro pins s σ H x y v u Q I rx ry h
  obtain ⟨d, e, hd, he, cd, ce, hn, q⟩ := h
  obtain ⟨as, r1⟩ := Dp.reads I d x v hd rx
  obtain ⟨bs, r2⟩ := Dp.reads I e y u he ry
  exact SeqAt.compareEq_reads r1 r2 cd ce (by have := Nat.min_le_left d.depth e.depth; omega) ⟨.bl _, H, I, rfl, q⟩
theorem op_neF (hu : X.A.units + 61 < cLine) : OpR X (compareOp .NotEq) (fun x y H Q => ∃ d e, Dp X.K H x d ∧ Dp X.K H y e ∧ d.canLay0 = true ∧ e.canLay0 = true ∧ d.depth ≤ 61 ∧ Q (.bl (!PyData.eqv d e)) H) := by
  intro pins s σ H x y v u Q I rx ry h
  obtain ⟨d, e, hd, he, cd, ce, hn, q⟩ := h
  obtain ⟨as, r1⟩ := Dp.reads I d x v hd rx
  obtain ⟨bs, r2⟩ := Dp.reads I e y u he ry
  exact SeqAt.compareNe_reads r1 r2 cd ce (by have := Nat.min_le_left d.depth e.depth; omega) ⟨.bl _, H, I, rfl, q⟩
theorem eq_core {n : Bool} {vx vy : V} {H : Hp} {Q : VK} (h : upR2 X.K J (dEqB n) vx vy H Q) : ∃ d e, Dp X.K H vx d ∧ Dp X.K H vy e ∧ d.canLay0 = true ∧ e.canLay0 = true ∧ d.depth ≤ 61 ∧ Q (.bl (n ^^ PyData.eqv d e)) H := by
  obtain ⟨x, y, st, R, rx, ry, S, h, q⟩ := h
  have gen : ∀ (ox : Okd x) (py : pureD y = true) (hr : R (.bl (n ^^ deq x y)) st), ∃ d e, Dp X.K H vx d ∧ Dp X.K H vy e ∧ d.canLay0 = true ∧ e.canLay0 = true ∧ d.depth ≤ 61 ∧ Q (.bl (n ^^ PyData.eqv d e)) H := fun ox py hr => by
    obtain ⟨a1, a2⟩ := dp_of x vx rx ox.p
    obtain ⟨b1, b2⟩ := dp_of y vy ry py
    exact ⟨_, _, a1, b1, a2, b2, Nat.le_succ_of_le ox.n, q _ st _ H hr (Ext.refl H) S rep_bl⟩
  cases x <;> cases y <;> first
    | exact gen h.1 h.2.1 h.2.2
    | exact gen Okd.int rfl (by rw [deq_int]; exact h)
    | exact gen Okd.str rfl (by rw [deq_str]; exact h)
    | (exfalso; exact Bool.false_ne_true h.1.p)
    | (exfalso; exact Bool.false_ne_true h.2.1)
    | skip
  · obtain ⟨xs, ys, g1, g2, ox, oy, hr⟩ := h
    unfold Rep at rx ry; subst rx ry
    obtain ⟨vs, s1, r1⟩ := S.getL g1
    obtain ⟨ws, s2, r2⟩ := S.getL g2
    obtain ⟨a1, a2⟩ := dps_of xs vs r1 ox.p
    obtain ⟨b1, b2⟩ := dps_of ys ws r2 oy
    refine ⟨.list (toPys xs), .list (toPys ys), .lst s1 a1, .lst s2 b1, by simp only [PyData.canLay0]; exact a2, by simp only [PyData.canLay0]; exact b2, ?_, q _ st _ H ?_ (Ext.refl H) S rep_bl⟩
    · simp only [PyData.depth]; exact Nat.succ_le_succ ox.n
    · have : PyData.eqv (.list (toPys xs)) (.list (toPys ys)) = deqs xs ys := by
        simp only [PyData.eqv]
        rfl
      rw [this]
      exact hr
theorem od_eq (hu : X.A.units + 61 < cLine) : OpD J X (compareOp .Eq) dEq := OpR.imp (op_eqF hu) fun vx vy H Q h => by
  obtain ⟨d, e, h1, h2, h3, h4, h5, h6⟩ := eq_core h
  rw [Bool.false_xor] at h6
  exact ⟨d, e, h1, h2, h3, h4, h5, h6⟩
theorem od_ne (hu : X.A.units + 61 < cLine) : OpD J X (compareOp .NotEq) dNe := OpR.imp (op_neF hu) fun vx vy H Q h => by
  obtain ⟨d, e, h1, h2, h3, h4, h5, h6⟩ := eq_core h
  rw [Bool.true_xor] at h6
  exact ⟨d, e, h1, h2, h3, h4, h5, h6⟩
theorem isn_core {n : Bool} {vx vy : V} {H : Hp} {Q : VK} (h : upR2 X.K J (dIsN n) vx vy H Q) : vy = .non ∧ Q (.bl (n ^^ decide (vx = .non))) H := by
  obtain ⟨x, y, st, R, rx, ry, S, h, q⟩ := h
  cases y <;> try exact (show False from h).elim
  unfold Rep at ry; subst ry
  refine ⟨rfl, ?_⟩
  have fin : ∀ b c, R (.bl b) st → b = c → Q (.bl c) H := fun b c hr e => by subst e; exact q _ st _ H hr (Ext.refl H) S rep_bl
  refine fin _ _ h (congrArg _ ?_)
  cases x with
  | non => unfold Rep at rx; subst rx; rfl
  | bl b => unfold Rep at rx; subst rx; rfl
  | int b => unfold Rep at rx; subst rx; rfl
  | str b => unfold Rep at rx; obtain ⟨rfl, _⟩ := rx; rfl
  | tup b => unfold Rep at rx; obtain ⟨a, vs, rfl, _⟩ := rx; rfl
  | ref b => unfold Rep at rx; subst rx; rfl
  | ro b => unfold Rep at rx; obtain ⟨a, vs, rfl, _⟩ := rx; rfl
theorem od_isN : OpD J X (compareOp .Is) (dIsN false) := OpR.imp op_isN fun vx vy H Q h => by
  obtain ⟨h1, h2⟩ := isn_core h
  rw [Bool.false_xor] at h2
  exact ⟨h1, h2⟩
theorem od_notN : OpD J X (compareOp .IsNot) (dIsN true) := OpR.imp op_notN fun vx vy H Q h => by
  obtain ⟨h1, h2⟩ := isn_core h
  rw [Bool.true_xor] at h2
  exact ⟨h1, h2⟩
/-- deep in: lists and tuples -/
def rInF (K : PySem.W.Frag) (n : Bool) : R2 := fun x y H Q => ∃ p d ds vs, y = .ref p ∧ (SqL K H p vs ∨ SqT K H p vs) ∧ Dp K H x d ∧ DpAll K H vs ds ∧ d.canLay0 = true ∧ PyData.canLayAll0 ds = true ∧ d.depth ≤ 60 ∧ Q (.bl (n ^^ ds.any fun z => PyData.eqv z d)) H
theorem any_read {h : Heap} {d : PyData} : ∀ {ds : List PyData} {us : List Value} {as : List Addr}, PyData.canLayAll0 ds = true → ReadsAll h us ds as → us.any (fun u => PyData.eqv (SeqAt.readOf h u) d) = ds.any fun z => PyData.eqv z d := fun {ds us as} hc hr => by
  rw [← SeqAt.readsAll_map ds us as hc hr, List.any_map]
  rfl
theorem op_inF (hu : X.A.units + 61 < cLine) : OpR X (compareOp .In) (rInF X.K false) := by
  intro pins s σ H x y v u Q I rx ry h
  obtain ⟨p, d, ds, vs, rfl, hq, hd, hds, cd, cds, hn, q⟩ := h
  cases ry
  obtain ⟨as, r1⟩ := Dp.reads I d x v hd rx
  have hroom : X.A.units + 1 + min (PyData.depthAll ds) d.depth < cLine := by have := Nat.min_le_right (PyData.depthAll ds) d.depth; omega
  rw [Bool.false_xor] at q
  rcases hq with hq | hq
  · obtain ⟨its, rv, pl, hz⟩ := I.list hq
    obtain ⟨bs, r2⟩ := Dp.readsAll I ds vs its hds rv
    refine SeqAt.in_listAt (fun u => PyData.eqv (SeqAt.readOf s.heap u) d) pl.isList (SeqAt.items_eqAt (vs := its.toArray) r2 r1 cds cd hroom) ⟨.bl _, H, I, rfl, ?_⟩
    rw [List.any_toArray, any_read cds r2]
    exact q
  · obtain ⟨its, rv, pl, hz⟩ := I.tuple hq
    obtain ⟨bs, r2⟩ := Dp.readsAll I ds vs its hds rv
    refine SeqAt.in_tupleAt (fun u => PyData.eqv (SeqAt.readOf s.heap u) d) pl (SeqAt.items_eqAt (vs := its.toArray) r2 r1 cds cd hroom) ⟨.bl _, H, I, rfl, ?_⟩
    rw [List.any_toArray, any_read cds r2]
    exact q
theorem op_notInF (hu : X.A.units + 61 < cLine) : OpR X (compareOp .NotIn) (rInF X.K true) := by
  intro pins s σ H x y v u Q I rx ry h
  obtain ⟨p, d, ds, vs, rfl, hq, hd, hds, cd, cds, hn, q⟩ := h
  cases ry
  obtain ⟨as, r1⟩ := Dp.reads I d x v hd rx
  have hroom : X.A.units + 1 + min (PyData.depthAll ds) d.depth < cLine := by have := Nat.min_le_right (PyData.depthAll ds) d.depth; omega
  rw [Bool.true_xor] at q
  rcases hq with hq | hq
  · obtain ⟨its, rv, pl, hz⟩ := I.list hq
    obtain ⟨bs, r2⟩ := Dp.readsAll I ds vs its hds rv
    refine SeqAt.notIn_listAt (fun u => PyData.eqv (SeqAt.readOf s.heap u) d) pl.isList (SeqAt.items_eqAt (vs := its.toArray) r2 r1 cds cd hroom) ⟨.bl _, H, I, rfl, ?_⟩
    rw [List.any_toArray, any_read cds r2]
    exact q
  · obtain ⟨its, rv, pl, hz⟩ := I.tuple hq
    obtain ⟨bs, r2⟩ := Dp.readsAll I ds vs its hds rv
    refine SeqAt.notIn_tupleAt (fun u => PyData.eqv (SeqAt.readOf s.heap u) d) pl (SeqAt.items_eqAt (vs := its.toArray) r2 r1 cds cd hroom) ⟨.bl _, H, I, rfl, ?_⟩
    rw [List.any_toArray, any_read cds r2]
    exact q
theorem any_deq {x : D} (ys : List D) : ((toPys ys).any fun z => PyData.eqv z (toPy x)) = ys.any fun z => deq z x := by
  rw [toPys_map, List.any_map]
  rfl
theorem in_core {n : Bool} {vx vy : V} {H : Hp} {Q : VK} (h : upR2 X.K J (dInB n) vx vy H Q) : rInF X.K n vx vy H Q ∨ ∃ i j, vx = .str i ∧ vy = .str j ∧ Q (.bl (n ^^ !(Builtin.Str.occurrences j i 0 j.length 1).isEmpty)) H := by
  obtain ⟨x, y, st, R, rx, ry, S, h, q⟩ := h
  have fin : ∀ b, R (.bl b) st → Q (.bl b) H := fun b hr => q _ st _ H hr (Ext.refl H) S rep_bl
  cases y <;> try exact (show False from h).elim
  · cases x <;> try exact (show False from h).elim
    unfold Rep at rx ry
    obtain ⟨rfl, _⟩ := rx
    obtain ⟨rfl, _⟩ := ry
    exact .inr ⟨_, _, rfl, rfl, fin _ h⟩
  · rename_i ys
    obtain ⟨ox, oy, hr⟩ := h
    unfold Rep at ry
    obtain ⟨a, vs, rfl, t1, r1⟩ := ry
    obtain ⟨a1, a2⟩ := dp_of x vx rx ox.p
    obtain ⟨b1, b2⟩ := dps_of ys vs r1 oy
    exact .inl ⟨a, _, _, vs, rfl, .inr t1.sqT, a1, b1, a2, b2, ox.n, by rw [any_deq]; exact fin _ hr⟩
  · rename_i a
    obtain ⟨ys, hg, ox, oy, hr⟩ := h
    unfold Rep at ry
    subst ry
    obtain ⟨vs, t1, r1⟩ := S.getL hg
    obtain ⟨a1, a2⟩ := dp_of x vx rx ox.p
    obtain ⟨b1, b2⟩ := dps_of ys vs r1 oy
    exact .inl ⟨a, _, _, vs, rfl, .inl t1, a1, b1, a2, b2, ox.n, by rw [any_deq]; exact fin _ hr⟩
theorem od_in (hu : X.A.units + 61 < cLine) : OpD J X (compareOp .In) dIn := OpR.imp ((op_inF hu).or op_in_str) fun vx vy H Q h => by
  rcases in_core h with h | ⟨i, j, h1, h2, h3⟩
  · exact .inl h
  · rw [Bool.false_xor] at h3
    exact .inr ⟨i, j, h1, h2, h3⟩
theorem od_notIn (hu : X.A.units + 61 < cLine) : OpD J X (compareOp .NotIn) dNotIn := OpR.imp ((op_notInF hu).or L2.op_notIn_str) fun vx vy H Q h => by
  rcases in_core h with h | ⟨i, j, h1, h2, h3⟩
  · exact .inl h
  · rw [Bool.true_xor] at h3
    exact .inr ⟨i, j, h1, h2, h3⟩
theorem atI_len {α β : Type} {xs : List α} {ys : List β} (hl : xs.length = ys.length) {i : Int} {v : α} (h : atI xs i = some v) : ∃ j : Nat, xs[j]? = some v ∧ ∀ w, ys[j]? = some w → atI ys i = some w := by
  unfold atI at h
  cases e : ixN xs.length i with
  | none => rw [e] at h; cases h
  | some j =>
    rw [e] at h
    refine ⟨j, h, fun w hw => ?_⟩
    unfold atI
    rw [← hl, e]
    exact hw
theorem reps_at {K : PySem.W.Frag} {H : Hp} {ds : List D} {vs : List V} {i : Int} {d : D} (r : Reps K H ds vs) (h : atI ds i = some d) : ∃ v, atI vs i = some v ∧ Rep K H d v := by
  obtain ⟨j, h1, h2⟩ := atI_len r.len h
  obtain ⟨v, h3, h4⟩ := r.get h1
  exact ⟨v, h2 v h3, h4⟩
theorem id_ix : IxD J X dIx := by
  refine IxR.imp ix_seq fun vx vy H Q h => ?_
  obtain ⟨x, y, st, R, rx, ry, S, h, q⟩ := h
  cases x <;> cases y <;> try exact (show False from h).elim
  · obtain ⟨c, h1, h2⟩ := h
    unfold Rep at rx ry
    obtain ⟨rfl, l1, o1⟩ := rx
    subst ry
    obtain ⟨j, hj, _⟩ := atI_get h1
    refine .inr (.inr ⟨_, _, c, rfl, rfl, l1, h1, q _ st _ H h2 (Ext.refl H) S ?_⟩)
    unfold Rep
    obtain ⟨j, _, h3, _⟩ := atI_get h1
    exact ⟨rfl, (by show 1 ≤ sizeLine; decide), strOk_char o1 (List.mem_of_getElem? h3)⟩
  · obtain ⟨v, h1, h2⟩ := h
    unfold Rep at rx ry
    obtain ⟨a, vs, rfl, t1, r1⟩ := rx
    subst ry
    obtain ⟨w, h3, h4⟩ := reps_at r1 h1
    exact .inr (.inl ⟨a, vs, _, w, rfl, rfl, t1.sqT, h3, q _ st _ H h2 (Ext.refl H) S h4⟩)
  · obtain ⟨xs, v, hg, h1, h2⟩ := h
    unfold Rep at rx ry
    subst rx ry
    obtain ⟨vs, t1, r1⟩ := S.getL hg
    obtain ⟨w, h3, h4⟩ := reps_at r1 h1
    exact .inl ⟨_, vs, _, w, rfl, rfl, t1, h3, q _ st _ H h2 (Ext.refl H) S h4⟩
  · obtain ⟨v, h1, h2⟩ := h
    unfold Rep at rx ry
    obtain ⟨a, vs, rfl, t1, r1⟩ := rx
    subst ry
    obtain ⟨w, h3, h4⟩ := reps_at r1 h1
    exact .inl ⟨_, vs, _, w, rfl, rfl, t1.sqL, h3, q _ st _ H h2 (Ext.refl H) S h4⟩
/-! ### built-ins by name -/
theorem reps1 {K : PySem.W.Frag} {H : Hp} {d : D} {vs : List V} (h : Reps K H [d] vs) : ∃ v, vs = [v] ∧ Rep K H d v := by
  obtain ⟨v, r, rfl, h1, h2⟩ := h.inv
  rw [h2.inv_nil]
  exact ⟨v, rfl, h1⟩
theorem reps2 {K : PySem.W.Frag} {H : Hp} {d e : D} {vs : List V} (h : Reps K H [d, e] vs) : ∃ v w, vs = [v, w] ∧ Rep K H d v ∧ Rep K H e w := by
  obtain ⟨v, r, rfl, h1, h2⟩ := h.inv
  obtain ⟨w, rfl, h3⟩ := reps1 h2
  exact ⟨v, w, rfl, h1, h3⟩
theorem reps_int2 {K : PySem.W.Frag} {H : Hp} {i j : Int} {vs : List V} (h : Reps K H [.int i, .int j] vs) : vs = [.int i, .int j] := by
  obtain ⟨v, w, rfl, h1, h2⟩ := reps2 h
  unfold Rep at h1 h2
  rw [h1, h2]
theorem cd_len : CallD J X (.builtin "len") dLen := by
  refine CallR.imp call_len fun vs H Q h => ?_
  obtain ⟨ds, st, R, rs, S, h, q⟩ := h
  match ds, h, rs with
  | [.str x], h, rs =>
    obtain ⟨v, rfl, r⟩ := reps1 rs
    unfold Rep at r
    obtain ⟨rfl, l, _⟩ := r
    exact ⟨_, _, rfl, ⟨l, rfl⟩, q _ st _ H h (Ext.refl H) S rep_int⟩
  | [.tup xs], h, rs =>
    obtain ⟨v, rfl, r⟩ := reps1 rs
    unfold Rep at r
    obtain ⟨a, ws, rfl, t, r⟩ := r
    exact ⟨_, _, rfl, .inr ⟨ws, t.sqT, rfl⟩, by rw [← r.len]; exact q _ st _ H h (Ext.refl H) S rep_int⟩
  | [.ref a], h, rs =>
    obtain ⟨v, rfl, r⟩ := reps1 rs
    unfold Rep at r
    subst r
    obtain ⟨xs, hg, h⟩ := h
    obtain ⟨ws, t, r⟩ := S.getL hg
    exact ⟨_, _, rfl, .inl ⟨ws, t, rfl⟩, by rw [← r.len]; exact q _ st _ H h (Ext.refl H) S rep_int⟩
  | [.ro xs], h, rs =>
    obtain ⟨v, rfl, r⟩ := reps1 rs
    unfold Rep at r
    obtain ⟨a, ws, rfl, t, r⟩ := r
    exact ⟨_, _, rfl, .inl ⟨ws, t.sqL, rfl⟩, by rw [← r.len]; exact q _ st _ H h (Ext.refl H) S rep_int⟩
theorem cd_abs : CallD J X (.builtin "abs") dAbs := by
  refine CallR.imp call_abs fun vs H Q h => ?_
  obtain ⟨ds, st, R, rs, S, h, q⟩ := h
  match ds, h, rs with
  | [.int i], h, rs =>
    obtain ⟨v, rfl, r⟩ := reps1 rs
    unfold Rep at r
    subst r
    exact ⟨_, rfl, q _ st _ H h (Ext.refl H) S rep_int⟩
theorem cd_max2 (hc : X.calm = true) : CallD J X (.builtin "max") dMax2 := by
  refine CallR.imp (call_max2 hc) fun vs H Q h => ?_
  obtain ⟨ds, st, R, rs, S, h, q⟩ := h
  match ds, h, rs with
  | [.int i, .int j], h, rs =>
    rw [reps_int2 rs]
    exact ⟨_, _, rfl, q _ st _ H h (Ext.refl H) S rep_int⟩
theorem cd_min2 (hc : X.calm = true) : CallD J X (.builtin "min") dMin2 := by
  refine CallR.imp (call_min2 hc) fun vs H Q h => ?_
  obtain ⟨ds, st, R, rs, S, h, q⟩ := h
  match ds, h, rs with
  | [.int i, .int j], h, rs =>
    rw [reps_int2 rs]
    exact ⟨_, _, rfl, q _ st _ H h (Ext.refl H) S rep_int⟩
theorem cd_gcd : CallD J X (.builtin "math.gcd") dGcd := by
  refine CallR.imp cr_gcd fun vs H Q h => ?_
  obtain ⟨ds, st, R, rs, S, h, q⟩ := h
  match ds, h, rs with
  | [.int i, .int j], h, rs =>
    rw [reps_int2 rs]
    exact ⟨_, _, rfl, q _ st _ H h (Ext.refl H) S rep_int⟩
theorem cd_int : CallD J X (.type "int") dInt := by
  refine CallR.imp call_int1 fun vs H Q h => ?_
  obtain ⟨ds, st, R, rs, S, h, q⟩ := h
  match ds, h, rs with
  | [.int i], h, rs =>
    obtain ⟨v, rfl, r⟩ := reps1 rs
    unfold Rep at r
    subst r
    exact .inl ⟨_, rfl, q _ st _ H h (Ext.refl H) S rep_int⟩
  | [.bl i], h, rs =>
    obtain ⟨v, rfl, r⟩ := reps1 rs
    unfold Rep at r
    subst r
    exact .inr ⟨_, rfl, q _ st _ H h (Ext.refl H) S rep_int⟩
theorem cd_list : CallD J X (.type "list") dList := by
  refine CallR.imp call_list_of fun vs H Q h => ?_
  obtain ⟨ds, st, R, rs, S, h, q⟩ := h
  match ds, h, rs with
  | [.tup xs], h, rs =>
    obtain ⟨v, rfl, r⟩ := reps1 rs
    unfold Rep at r
    obtain ⟨a, ws, rfl, t, r⟩ := r
    exact ⟨_, ws, rfl, .inr t.sqT, fun p hp => q _ _ _ _ (h p (S.fresh hp)) (Ext.new hp) (S.newL hp r) rep_ref⟩
  | [.ref a], h, rs =>
    obtain ⟨v, rfl, r⟩ := reps1 rs
    unfold Rep at r
    subst r
    obtain ⟨xs, hg, h⟩ := h
    obtain ⟨ws, t, r⟩ := S.getL hg
    exact ⟨_, ws, rfl, .inl t, fun p hp => q _ _ _ _ (h p (S.fresh hp)) (Ext.new hp) (S.newL hp r) rep_ref⟩
  | [.ro xs], h, rs =>
    obtain ⟨v, rfl, r⟩ := reps1 rs
    unfold Rep at r
    obtain ⟨a, ws, rfl, t, r⟩ := r
    exact ⟨_, ws, rfl, .inl t.sqL, fun p hp => q _ _ _ _ (h p (S.fresh hp)) (Ext.new hp) (S.newL hp r) rep_ref⟩
theorem call_tupleF : CallR X (.type "tuple") (fun xs H Q => ∃ p ys, xs = [.ref p] ∧ ((SqL X.K H p ys ∧ TupNew H ys Q) ∨ (SqT X.K H p ys ∧ Q (.ref p) H))) := by
  intro pins s σ H xs us Q I r h
  obtain ⟨p, ys, rfl, h⟩ := h
  obtain ⟨u, rfl, rx⟩ := vals1 r
  cases rx
  rcases h with ⟨hq, q⟩ | ⟨hq, q⟩
  · obtain ⟨its, r', pl, hz⟩ := I.list hq
    have hlen := r'.length
    refine call_tuple_list pl.isList (fun h' kp => ?_) (by simp only [List.size_toArray] <;> omega)
    have I1 : Inv X pins σ H { s with heap := h' } := I.kept (t' := s.toks) kp
    exact tup_laid (t' := s.toks) I1 (fun b o e => Heap.get?_push_of_some _ e) (Nat.le_refl _) (Heap.get?_push_size _ rfl) rfl rfl rfl r' hz q
  · obtain ⟨its, r', pl, hz⟩ := I.tuple hq
    exact call_tuple_same pl ⟨.ref p, H, I, rfl, q⟩
theorem cd_tuple : CallD J X (.type "tuple") dTuple := by
  refine CallR.imp call_tupleF fun vs H Q h => ?_
  obtain ⟨ds, st, R, rs, S, h, q⟩ := h
  match ds, h, rs with
  | [.tup xs], h, rs =>
    obtain ⟨v, rfl, r⟩ := reps1 rs
    have r0 := r
    unfold Rep at r
    obtain ⟨a, ws, rfl, t, r⟩ := r
    exact ⟨_, ws, rfl, .inr ⟨t.sqT, q _ st _ H h (Ext.refl H) S r0⟩⟩
  | [.ref a], h, rs =>
    obtain ⟨v, rfl, r⟩ := reps1 rs
    unfold Rep at r
    subst r
    obtain ⟨xs, hg, h⟩ := h
    obtain ⟨ws, t, r⟩ := S.getL hg
    exact ⟨_, ws, rfl, .inl ⟨t, tupNew_of S r h q⟩⟩
end
end DL
-- text DLD
set_option Elab.async false
set_option linter.all false
set_option maxRecDepth 100000
set_option maxHeartbeats 1000000
/-! DLD: isinstance, methods, slices, statements -/
namespace DL
open PySem PySem.Spec PyProof.Rows L2

/-! ### isinstance with a built-in class -/
inductive Tn where
  | int | bool | str | tuple | list | dict
  deriving DecidableEq
def Tn.name : Tn → String
  | .int => "int" | .bool => "bool" | .str => "str" | .tuple => "tuple" | .list => "list" | .dict => "dict"
def Tn.isBl : Tn → Bool
  | .bool => true | .int => true | _ => false
def Tn.isInt : Tn → Bool
  | .int => true | _ => false
def Tn.isStr : Tn → Bool
  | .str => true | _ => false
def Tn.isTup : Tn → Bool
  | .tuple => true | _ => false
def Tn.isLst : Tn → Bool
  | .list => true | _ => false
def Tn.isDic : Tn → Bool
  | .dict => true | _ => false
def cellT (T : Tn) : Cell → Bool
  | .dic _ => T.isDic
  | _ => T.isLst
def Cell.free : Cell → Prop
  | .fzd _ => False
  | _ => True
def dIsi (T : Tn) (x : D) (st : Stor) (R : KD) : Prop := match x with
  | .non => R (.bl false) st
  | .bl _ => R (.bl T.isBl) st
  | .int _ => R (.bl T.isInt) st
  | .str _ => R (.bl T.isStr) st
  | .tup _ => R (.bl T.isTup) st
  | .ref a => ∃ c, st a = some c ∧ Cell.free c ∧ R (.bl (cellT T c)) st
  | .ro _ => False
theorem kit_tn (a : String) (T : Tn) (b : Bool) (h : kitB a T.name = some b) {K : PySem.W.Frag} : PySem.W.kitOne K (.type a) (.type T.name) = some b := kit_ty h
theorem kitN (T : Tn) : kitB "NoneType" T.name = some false := by cases T <;> decide +kernel
theorem kitBl (T : Tn) : kitB "bool" T.name = some T.isBl := by cases T <;> decide +kernel
theorem kitInt (T : Tn) : kitB "int" T.name = some T.isInt := by cases T <;> decide +kernel
theorem kitStr (T : Tn) : kitB "str" T.name = some T.isStr := by cases T <;> decide +kernel
theorem kitTup (T : Tn) : kitB "tuple" T.name = some T.isTup := by cases T <;> decide +kernel
theorem kitList (T : Tn) : kitB "list" T.name = some T.isLst := by cases T <;> decide +kernel
theorem kitDict (T : Tn) : kitB "dict" T.name = some T.isDic := by cases T <;> decide +kernel
section
variable {J : Hid} {X : Cx} {e a b c : Expr} {te ta tb tc : TED} {pos p q : Pos}
theorem isi_core {T : Tn} {vx : V} {H : Hp} {Q : VK} (h : upR1 X.K J (dIsi T) vx H Q) : ∃ (t : Value) (k : Bool), TyX X.K H vx t ∧ PySem.W.kitOne X.K t (.type T.name) = some k ∧ Q (.bl k) H := by
  obtain ⟨x, st, R, rx, S, h, q⟩ := h
  have fin : ∀ k, R (.bl k) st → Q (.bl k) H := fun k hr => q _ st _ H hr (Ext.refl H) S rep_bl
  cases x with
  | non => unfold Rep at rx; subst rx; exact ⟨_, _, .base .non, kit_tn _ _ _ (kitN T), fin _ h⟩
  | bl b => unfold Rep at rx; subst rx; exact ⟨_, _, .base (.bl b), kit_tn _ _ _ (kitBl T), fin _ h⟩
  | int b => unfold Rep at rx; subst rx; exact ⟨_, _, .base (.int b), kit_tn _ _ _ (kitInt T), fin _ h⟩
  | str b => unfold Rep at rx; obtain ⟨rfl, _⟩ := rx; exact ⟨_, _, .base (.str b), kit_tn _ _ _ (kitStr T), fin _ h⟩
  | tup b =>
    unfold Rep at rx
    obtain ⟨a, vs, rfl, t, _⟩ := rx
    rcases t with ⟨ob, _, t⟩ | ⟨o, its, n, t1, t2, _⟩
    · exact ⟨_, _, .fTuple t, kit_tn _ _ _ (kitTup T), fin _ h⟩
    · exact ⟨_, _, .kTuple t1 t2, kit_tn _ _ _ (kitTup T), fin _ h⟩
  | ref a =>
    unfold Rep at rx; subst rx
    obtain ⟨c, e, fr, h⟩ := h
    have ok := S.cell a c e
    cases c with
    | lst xs => obtain ⟨vs, t, _⟩ := ok; exact ⟨_, _, .base (.lst t), kit_tn _ _ _ (kitList T), fin _ h⟩
    | fz xs => obtain ⟨vs, o, t, _⟩ := ok; exact ⟨_, _, .base (.frz t), kit_tn _ _ _ (kitList T), fin _ h⟩
    | dic xs => obtain ⟨vs, t, _⟩ := ok; exact ⟨_, _, .base (.dK t), kit_tn _ _ _ (kitDict T), fin _ h⟩
    | fzd xs => exact (show False from fr).elim
  | ro xs => exact (show False from h).elim
theorem ed_isi (T : Tn) {x : Str} (hm : X.mg "isinstance" = none) (ht : X.mg x = none) (he : PED J X e te) (hv : bootBuiltins x = some (.type T.name) := by decide +kernel) (hg : Gl X "isinstance" := by rfl) (hg2 : Gl X x := by rfl) (hn : x ≠ "__name__" := by decide) (hd : (x == ("__debug__" : Str)) = false := by decide)
    (hs1 : starEach [e, .Name x q] X.env = (false, eval e X.env) :: starEach [.Name x q] X.env := by rfl) (hs2 : starEach [.Name x q] X.env = (false, eval (.Name x q) X.env) :: starEach [] X.env := by rfl) (hpl : (backTo pos (starEach [.Name x q] X.env)).any (·.1) = false := by rfl) :
    PED J X (.Call (.Name "isinstance" p) [e, .Name x q] [] pos) (tUnD (dIsi T) te) := by
  refine PE.imp (pe_callB call_isi hg hm (by decide +kernel) (pa_cons he (pa_cons (pe_bltn (v := .ty T.name) hg2 ht hv rfl hn hd) pa_nil hs2) hs1) (by decide) (by decide) hs1 hpl) fun σ H Q h => ?_
  obtain ⟨ρ, st, R, re, S, h, q⟩ := h
  refine ⟨ρ, st, _, re, S, h, fun x s1 vx H1 hx e1 S1 rx => ?_⟩
  obtain ⟨t, k, h1, h2, h3⟩ := isi_core (X := X) (J := J) (Q := Q) ⟨x, s1, R, rx, S1, hx, q.ext e1⟩
  exact ⟨vx, _, t, _, k, rfl, .ty _, h1, h2, h3⟩

/-! ### methods of lists -/
abbrev RDA := Addr → List D → Stor → KD → Prop
def tMethD (r : RDA) (to : TED) (t : TAD) : TED := fun ρ st R => to ρ st fun x s1 => match x with
  | .ref a => (∃ xs, getL s1 a = some xs) ∧ t ρ s1 fun ds s2 => r a ds s2 R
  | _ => False
def upRA (K : PySem.W.Frag) (J : Hid) (r : RDA) : V → List V → Hp → VK → Prop := fun vx vs H Q => ∃ a ds st R, vx = .ref a ∧ Reps K H ds vs ∧ SimS K J st H ∧ r a ds st R ∧ After K J H R Q
variable {o : Expr} {es : List Expr} {to : TED} {t : TAD} {name : Str} {apos cpos : Pos} {id : String} {r : RDA}
theorem ed_meth (slot : Slot "list" name id) (hty : typeOf (.builtin id) = pure (.type "method_descriptor")) (hm : MtR X id (upRA X.K J r)) (ho : PED J X o to) (ha : PAD J X (e :: es) t)
    (hbase : attributeBase o name X.env (eval o X.env) = eval o X.env := by rfl)
    (hfew : ((backTo cpos (starEach (e :: es) X.env)).all (fun x => !x.1) && (backToKw cpos (keywordEach [] X.env)).all (fun x => x.1.isSome)
      && decide ((e :: es).length + ([] : List Keyword).length + (if ([] : List Keyword).isEmpty then 0 else 1) < 30)) = true := by rfl)
    (hline : (apos.endLine == cpos.line) = true := by rfl) (hs : starEach (e :: es) X.env = (false, eval e X.env) :: starEach es X.env := by rfl) (hplain : (backTo cpos (starEach es X.env)).any (·.1) = false := by rfl) :
    PED J X (.Call (.Attribute o name apos) (e :: es) [] cpos) (tMethD r to t) := by
  refine PE.imp (pe_bm PySem.F.plainAttrs_list slot hty hm ho ha hbase hfew hline hs hplain) fun σ H Q h => ?_
  obtain ⟨ρ, st, R, re, S, h, q⟩ := h
  refine ⟨ρ, st, _, re, S, h, fun x s1 vx H1 hx e1 S1 rx => ?_⟩
  cases x <;> try exact (show False from hx).elim
  rename_i a
  unfold Rep at rx
  subst rx
  obtain ⟨⟨xs, hg⟩, hx⟩ := hx
  obtain ⟨vs, hs, _⟩ := S1.getL hg
  refine ⟨.inl ⟨rfl, vs, hs⟩, ρ, s1, _, re.ext e1, S1, hx, fun ds s2 vs H2 hd e2 S2 rs => ?_⟩
  exact ⟨a, ds, s2, R, rfl, rs, S2, hd, q.ext (e1.trans e2)⟩
theorem ed_meth0 (slot : Slot "list" name id) (hty : typeOf (.builtin id) = pure (.type "method_descriptor")) (hm : MtR X id (upRA X.K J r)) (ho : PED J X o to)
    (hbase : attributeBase o name X.env (eval o X.env) = eval o X.env := by rfl) (hline : (apos.endLine == cpos.line) = true := by rfl) :
    PED J X (.Call (.Attribute o name apos) [] [] cpos) (tMethD r to tNilD) := by
  refine PE.imp (pe_bm0 PySem.F.plainAttrs_list slot hty hm ho hbase hline) fun σ H Q h => ?_
  obtain ⟨ρ, st, R, re, S, h, q⟩ := h
  refine ⟨ρ, st, _, re, S, h, fun x s1 vx H1 hx e1 S1 rx => ?_⟩
  cases x <;> try exact (show False from hx).elim
  rename_i a
  unfold Rep at rx
  subst rx
  obtain ⟨⟨xs, hg⟩, hx⟩ := hx
  obtain ⟨vs, hs, _⟩ := S1.getL hg
  exact ⟨.inl ⟨rfl, vs, hs⟩, a, [], s1, R, rfl, .nil, S1, hx, q.ext e1⟩
def dAppend (a : Addr) (ds : List D) (st : Stor) (R : KD) : Prop := match ds with
  | [y] => ∃ xs, st a = some (.lst xs) ∧ xs.length < sizeLine ∧ R .non (put st a (.lst (xs ++ [y])))
  | _ => False
def dPop (a : Addr) (ds : List D) (st : Stor) (R : KD) : Prop := match ds with
  | [] => ∃ xs y, st a = some (.lst xs) ∧ xs[xs.length - 1]? = some y ∧ R y (put st a (.lst xs.dropLast))
  | _ => False
def dPopAt (a : Addr) (ds : List D) (st : Stor) (R : KD) : Prop := match ds with
  | [.int i] => ∃ xs k y, st a = some (.lst xs) ∧ ixN xs.length i = some k ∧ xs[k]? = some y ∧ R y (put st a (.lst (xs.eraseIdx k)))
  | _ => False
def dExtend (a : Addr) (ds : List D) (st : Stor) (R : KD) : Prop := match ds with
  | [.ref b] => ∃ xs ys, st a = some (.lst xs) ∧ st b = some (.lst ys) ∧ xs.length + ys.length ≤ sizeLine ∧ R .non (put st a (.lst (xs ++ ys)))
  | _ => False
def dInsert (a : Addr) (ds : List D) (st : Stor) (R : KD) : Prop := match ds with
  | [.int i, y] => ∃ xs, st a = some (.lst xs) ∧ xs.length < sizeLine ∧ 0 ≤ i ∧ i < 2 ^ 63 ∧ R .non (put st a (.lst (xs.take i.toNat ++ y :: xs.drop i.toNat)))
  | _ => False
theorem rep_non {K : PySem.W.Frag} {H : Hp} : Rep K H .non .non := by unfold Rep; rfl
theorem md_append : MtR X "list.append" (upRA X.K J dAppend) := by
  refine MtR.imp mt_append fun vx vs H Q h => ?_
  obtain ⟨a, ds, st, R, rfl, rs, S, h, q⟩ := h
  match ds, h, rs with
  | [y], h, rs =>
    obtain ⟨v, rfl, ry⟩ := reps1 rs
    obtain ⟨xs, h1, h2, h3⟩ := h
    obtain ⟨ws, e, r⟩ := S.lst h1
    exact ⟨a, ws, v, rfl, rfl, e, by rw [← r.len]; exact h2, q _ _ _ _ h3 (Ext.lst e) (S.setL h1 e (r.snoc ry)) rep_non⟩
theorem Reps.dropLast {K : PySem.W.Frag} {H : Hp} {ds : List D} {vs : List V} (h : Reps K H ds vs) : Reps K H ds.dropLast vs.dropLast := by
  rw [List.dropLast_eq_take, List.dropLast_eq_take, h.len]
  exact h.take _
theorem md_pop : MtR X "list.pop" (upRA X.K J dPop) := by
  refine MtR.imp mt_pop fun vx vs H Q h => ?_
  obtain ⟨a, ds, st, R, rfl, rs, S, h, q⟩ := h
  match ds, h, rs with
  | [], h, rs =>
    obtain ⟨xs, y, h1, h2, h3⟩ := h
    obtain ⟨ws, e, r⟩ := S.lst h1
    obtain ⟨v, h4, h5⟩ := r.get h2
    exact ⟨a, ws, v, rfl, rs.inv_nil, e, by rw [← r.len]; exact h4, q _ _ _ _ h3 (Ext.lst e) (S.setL h1 e r.dropLast) (Rep.ext (Ext.lst e) _ _ h5)⟩
theorem Reps.eraseIdx {K : PySem.W.Frag} {H : Hp} : ∀ {ds : List D} {vs : List V} (k : Nat), Reps K H ds vs → Reps K H (ds.eraseIdx k) (vs.eraseIdx k)
  | [], _, k, h => by rw [h.inv_nil]; simp [Reps.nil]
  | d :: ds, _, 0, h => by
    obtain ⟨v, r, rfl, _, h2⟩ := h.inv
    simpa using h2
  | d :: ds, _, k + 1, h => by
    obtain ⟨v, r, rfl, h1, h2⟩ := h.inv
    simp only [List.eraseIdx_cons_succ]
    exact .cons h1 (h2.eraseIdx k)
theorem SimS.len {K : PySem.W.Frag} {pins : List (Addr × Obj)} {σ : L2.St} {H : Hp} {s : Shared} (I : Inv X pins σ H s) {a : Addr} {vs : List V} (h : H a = some (.lst vs)) : vs.length ≤ sizeLine := (I.hok a _ h).1
theorem md_popAt : MtR X "list.pop" (upRA X.K J dPopAt) := by
  intro pins s σ H vx vs v us Q I rx ry h
  obtain ⟨a, ds, st, R, rfl, rs, S, h, q⟩ := h
  match ds, h, rs with
  | [.int i], h, rs =>
    obtain ⟨w, rfl, rw'⟩ := reps1 rs
    unfold Rep at rw'
    subst rw'
    obtain ⟨xs, k, y, h1, h2, h3, h4⟩ := h
    obtain ⟨ws, e, r⟩ := S.lst h1
    obtain ⟨v, h5, h6⟩ := r.get h3
    have hl : ws.length ≤ sizeLine := (I.hok a _ e).1
    have hz := line63
    rw [r.len] at h2
    obtain ⟨b1, b2, b3, b4⟩ := ixN_seq h2
    exact mt_popAt pins s σ H _ _ _ us Q I rx ry ⟨a, ws, i, k, v, rfl, rfl, e, by omega, by omega, b1, h5, q _ _ _ _ h4 (Ext.lst e) (S.setL h1 e (r.eraseIdx k)) (Rep.ext (Ext.lst e) _ _ h6)⟩
theorem md_extend : MtR X "list.extend" (upRA X.K J dExtend) := by
  refine MtR.imp mt_extend fun vx vs H Q h => ?_
  obtain ⟨a, ds, st, R, rfl, rs, S, h, q⟩ := h
  match ds, h, rs with
  | [.ref b], h, rs =>
    obtain ⟨v, rfl, ry⟩ := reps1 rs
    unfold Rep at ry
    subst ry
    obtain ⟨xs, ys, h1, h2, h3, h4⟩ := h
    obtain ⟨ws, e, r⟩ := S.lst h1
    obtain ⟨zs, e2, r2⟩ := S.lst h2
    exact ⟨a, b, ws, zs, rfl, rfl, e, e2, by rw [← r.len, ← r2.len]; exact h3, q _ _ _ _ h4 (Ext.lst e) (S.setL h1 e (r.append r2)) rep_non⟩

/-! ### slices -/
def cutD {α : Type} (xs : List α) (lo hi : Option Int) : List α := (xs.drop (HT.sIx xs.length 0 lo)).take (HT.sIx xs.length xs.length hi - HT.sIx xs.length 0 lo)
def tNoD : TOD := fun _ st R => R none st
def tPartD (t : TED) : TOD := fun ρ st R => t ρ st fun d s1 => match d with
  | .int i => R (some i) s1
  | _ => False
theorem xd_none : POD J X none tNoD := PO.imp po_none fun σ H Q ⟨_, st, R, _, S, h, q⟩ => q none st H h (Ext.refl H) S
theorem xd_some (h : PED J X e te) : POD J X (some e) (tPartD te) := by
  refine PO.imp (po_some h) fun σ H Q h => ?_
  obtain ⟨ρ, st, R, re, S, h, q⟩ := h
  refine ⟨ρ, st, _, re, S, h, fun x s1 vx H1 hx e1 S1 rx => ?_⟩
  cases x <;> try exact (show False from hx).elim
  unfold Rep at rx
  exact ⟨_, rx, q _ s1 H1 hx e1 S1⟩
abbrev RDS := D → Option Int → Option Int → Stor → KD → Prop
def tSlD (r : RDS) (te : TED) (tl th : TOD) : TED := fun ρ st R => te ρ st fun x s1 => tl ρ s1 fun l s2 => th ρ s2 fun u s3 => r x l u s3 R
def upRS (K : PySem.W.Frag) (J : Hid) (r : RDS) : V → Option Int → Option Int → Hp → VK → Prop := fun vx lo hi H Q => ∃ x st R, Rep K H x vx ∧ SimS K J st H ∧ r x lo hi st R ∧ After K J H R Q
theorem ed_slice {r : RDS} {lo hi : Option Expr} {tl th : TOD} {p2 : Pos} (hr : SlR X (upRS X.K J r)) (he : PED J X e te) (hl : POD J X lo tl) (hu : POD J X hi th) : PED J X (.Subscript e (.Slice lo hi none p2) pos) (tSlD r te tl th) := by
  refine PE.imp (pe_slice hr he hl hu) fun σ H Q h => ?_
  obtain ⟨ρ, st, R, re, S, h, q⟩ := h
  refine ⟨ρ, st, _, re, S, h, fun x s1 vx H1 hx e1 S1 rx => ?_⟩
  refine ⟨ρ, s1, _, re.ext e1, S1, hx, fun l s2 H2 hl e2 S2 => ?_⟩
  refine ⟨ρ, s2, _, (re.ext e1).ext e2, S2, hl, fun u s3 H3 hu e3 S3 => ?_⟩
  exact ⟨x, s3, R, Rep.ext e3 _ _ (Rep.ext e2 _ _ rx), S3, hu, q.ext ((e1.trans e2).trans e3)⟩
def dSl (x : D) (lo hi : Option Int) (st : Stor) (R : KD) : Prop := match x with
  | .tup xs => R (.tup (cutD xs lo hi)) st
  | .ref a => ∃ xs, getL st a = some xs ∧ ∀ p, st p = none → R (.ref p) (put st p (.lst (cutD xs lo hi)))
  | .ro xs => ∀ p, st p = none → R (.ref p) (put st p (.lst (cutD xs lo hi)))
  | _ => False
theorem reps_cut {K : PySem.W.Frag} {H : Hp} {ds : List D} {vs : List V} (r : Reps K H ds vs) (lo hi : Option Int) : Reps K H (cutD ds lo hi) (cutV vs lo hi) := by
  unfold cutD cutV
  rw [r.len]
  exact (r.drop _).take _
theorem sl_tupF : SlR X (fun x lo hi H Q => ∃ a xs, x = .ref a ∧ SqT X.K H a xs ∧ (HT.sIx xs.length 0 lo = 0 ∧ HT.sIx xs.length xs.length hi = xs.length → Q (.ref a) H) ∧
    (¬ (HT.sIx xs.length 0 lo = 0 ∧ HT.sIx xs.length xs.length hi = xs.length) → TupNew H (cutV xs lo hi) Q)) := by
  intro pins s σ H x v vl vu lo hi sl Q I rx hs pl pu h
  obtain ⟨a, xs, rfl, hx, q1, q2⟩ := h
  cases rx
  obtain ⟨its, r, ht, hz⟩ := I.tuple hx
  have hlen : its.toArray.size = xs.length := by rw [List.size_toArray]; exact r.length.symm
  refine ⟨"tuple", _, PyProof.Rows.slot_tuple_getitem.lookup, ht.typeIs, ?_⟩
  by_cases hw : HT.sIx xs.length 0 lo = 0 ∧ HT.sIx xs.length xs.length hi = xs.length
  · exact getItem_tuple_whole ht hs pl pu (by rw [hlen]; exact hw) ⟨.ref a, H, I, rfl, q1 hw⟩
  · refine HT.getItem_tuple_cut ht hs pl pu (by rw [hlen]; exact hw) ?_ (by rw [hlen]; exact hz)
    rw [hlen]
    exact tup_laid (t' := s.toks) (vs := cutV xs lo hi) I (fun b ob q => Heap.get?_push_of_some _ q) (Nat.le_refl _) (Heap.get?_push_size _ rfl) rfl rfl rfl ((r.drop (HT.sIx xs.length 0 lo)).take (HT.sIx xs.length xs.length hi - HT.sIx xs.length 0 lo)) (Nat.le_trans (cutV_length xs lo hi) hz) (q2 hw)
theorem sld_seq : SlR X (upRS X.K J dSl) := by
  refine SlR.imp (sl_tupF.or sl_list) fun vx lo hi H Q h => ?_
  obtain ⟨x, st, R, rx, S, h, q⟩ := h
  cases x <;> try exact (show False from h).elim
  · rename_i xs
    have rx0 := rx
    unfold Rep at rx
    obtain ⟨a, vs, rfl, t, r⟩ := rx
    refine .inl ⟨a, vs, rfl, t.sqT, fun hw => ?_, fun _ => tupNew_of S (reps_cut r lo hi) h q⟩
    have e : cutD xs lo hi = xs := by
      unfold cutD
      rw [r.len, hw.1, hw.2, ← r.len]
      simp
    have h' : R (.tup (cutD xs lo hi)) st := h
    rw [e] at h'
    exact q _ st _ H h' (Ext.refl H) S rx0
  · unfold Rep at rx
    subst rx
    obtain ⟨xs, hg, h⟩ := h
    obtain ⟨vs, hs, r⟩ := S.getL hg
    exact .inr ⟨_, vs, rfl, hs, fun p hp => q _ _ _ _ (h p (S.fresh hp)) (Ext.new hp) (S.newL hp (reps_cut r lo hi)) rep_ref⟩
  · unfold Rep at rx
    obtain ⟨a, vs, rfl, t, r⟩ := rx
    exact .inr ⟨_, vs, rfl, t.sqL, fun p hp => q _ _ _ _ (h p (S.fresh hp)) (Ext.new hp) (S.newL hp (reps_cut r lo hi)) rep_ref⟩
end

/-! ### targets -/
abbrev TGD := D → Rho → Stor → (Rho → Stor → Prop) → Prop
abbrev TGsD := List D → Rho → Stor → (Rho → Stor → Prop) → Prop
section
variable (K : PySem.W.Frag) (J : Hid)
def upG (t : TGD) : TG := fun v σ H Q => ∃ d ρ st R, Rep K H d v ∧ RepE K H ρ σ ∧ SimS K J st H ∧ t d ρ st R ∧ AfterE K J H R Q
def upGs (t : TGsD) : TGs := fun vs σ H Q => ∃ ds ρ st R, Reps K H ds vs ∧ RepE K H ρ σ ∧ SimS K J st H ∧ t ds ρ st R ∧ AfterE K J H R Q
end
def PGD (J : Hid) (X : Cx) (e : Expr) (t : TGD) : Prop := PG X e (upG X.K J t)
def PGsD (J : Hid) (X : Cx) (e : List Expr) (t : TGsD) : Prop := PGs X e (upGs X.K J t)
def gNameD (i : Nat) : TGD := fun d ρ st R => R (ρ.set i (some d)) st
def gNilD : TGsD := fun ds ρ st R => match ds with
  | [] => R ρ st
  | _ => False
def gConsD (t : TGD) (u : TGsD) : TGsD := fun ds ρ st R => match ds with
  | d :: r => t d ρ st fun ρ1 s1 => u r ρ1 s1 R
  | [] => False
def gTupD (n : Nat) (t : TGsD) : TGD := fun d ρ st R => match d with
  | .tup ds => ds.length = n ∧ t ds ρ st R
  | _ => False
abbrev RSet := Addr → D → D → Stor → (Stor → Prop) → Prop
def gSubD (to ti : TED) (r : RSet) : TGD := fun d ρ st R => to ρ st fun o s1 => ti ρ s1 fun i s2 => match o with
  | .ref a => r a i d s2 fun s3 => R ρ s3
  | _ => False
def dSetL (a : Addr) (i d : D) (st : Stor) (R : Stor → Prop) : Prop := match i with
  | .int k => ∃ xs j, st a = some (.lst xs) ∧ ixN xs.length k = some j ∧ R (put st a (.lst (xs.set j d)))
  | _ => False
section
variable {J : Hid} {X : Cx} {e a b c : Expr} {te ta tb tc : TED} {pos p q : Pos}
theorem PG.imp {e : Expr} {t t' : TG} (h : PG X e t) (k : ∀ v σ H Q, t' v σ H Q → t v σ H Q) : PG X e t' := ⟨fun p s σ H v u Q I r q => h.run p s σ H v u Q I r (k v σ H Q q)⟩
theorem PGs.imp {e : List Expr} {t t' : TGs} (h : PGs X e t) (k : ∀ v σ H Q, t' v σ H Q → t v σ H Q) : PGs X e t' := ⟨fun p s σ H v u Q I r q => h.run p s σ H v u Q I r (k v σ H Q q)⟩
theorem gd_name {i : Nat} {x : Str} (hN : X.N.Nodup) (hi : X.N[i]? = some x := by rfl) (hx : Loc X.env.scope x := by first | exact .inl rfl | exact .inr rfl) (hf : X.fn x = true ∨ X.env.scope.names.lookup x = some .local := by first | exact .inl rfl | exact .inr rfl | assumption) : PGD J X (.Name x pos) (gNameD i) := by
  refine PG.imp (pg_name (i := i) hN hi hx hf) fun v σ H Q h => ?_
  obtain ⟨d, ρ, st, R, r, re, S, h, q⟩ := h
  exact q _ st _ H h (Ext.refl H) S (re.set r i)
theorem gsd_nil : PGsD J X [] gNilD := by
  refine PGs.imp pgs_nil fun vs σ H Q h => ?_
  obtain ⟨ds, ρ, st, R, r, re, S, h, q⟩ := h
  cases ds with
  | nil => exact ⟨r.inv_nil, q _ st _ H h (Ext.refl H) S re⟩
  | cons d ds => exact (show False from h).elim
theorem gsd_cons {e : Expr} {es : List Expr} {t : TGD} {u : TGsD} (h1 : PGD J X e t) (h2 : PGsD J X es u) (hs : (assignEach (e :: es) X.env).map (·.2) = assign e X.env :: (assignEach es X.env).map (·.2) := by rfl) : PGsD J X (e :: es) (gConsD t u) := by
  refine PGs.imp (pgs_cons h1 h2 hs) fun vs σ H Q h => ?_
  obtain ⟨ds, ρ, st, R, r, re, S, h, q⟩ := h
  cases ds with
  | nil => exact (show False from h).elim
  | cons d ds =>
    obtain ⟨v, r', rfl, r1, r2⟩ := r.inv
    refine ⟨v, r', rfl, d, ρ, st, _, r1, re, S, h, fun ρ1 s1 σ1 H1 hr e1 S1 re1 => ?_⟩
    exact ⟨ds, ρ1, s1, R, Reps.ext e1 _ _ r2, re1, S1, hr, q.ext e1⟩
theorem gd_tup {es : List Expr} {k : Nat} {t : TGsD} {n : Nat} (hc : X.calm = true) (h : PGsD J X es t) (hn : (assignEach es X.env).length = n := by rfl) (hst : (assignEach es X.env).findIdx? (·.1) = none := by rfl) : PGD J X (.Tuple es k pos) (gTupD n t) := by
  refine PG.imp (pg_tup hc h hn hst) fun v σ H Q h => ?_
  obtain ⟨d, ρ, st, R, r, re, S, h, q⟩ := h
  cases d <;> try exact (show False from h).elim
  rename_i ds
  unfold Rep at r
  obtain ⟨a, vs, rfl, t1, r⟩ := r
  exact ⟨a, vs, rfl, t1.sqT, by rw [← r.len]; exact h.1, ds, ρ, st, R, r, re, S, h.2, q⟩
def upSet (K : PySem.W.Frag) (J : Hid) (r : RSet) : V → V → V → Hp → (Hp → Prop) → Prop := fun o i v H Q => ∃ a y d st R, o = .ref a ∧ Rep K H y i ∧ Rep K H d v ∧ SimS K J st H ∧ r a y d st R ∧ ∀ st' H', R st' → Ext H H' → SimS K J st' H' → Q H'
theorem PSet.imp {t t' : TSet} (h : PSet X t) (k : ∀ o i v H Q, t' o i v H Q → t o i v H Q) : PSet X t' := fun p s σ H o i v ov iv u Q I ro ri rv q => h p s σ H o i v ov iv u Q I ro ri rv (k _ _ _ _ _ q)
theorem gd_sub {o i : Expr} {to ti : TED} {r : RSet} (ho : PED J X o to) (hi : PED J X i ti) (hs : PSet X (upSet X.K J r))
    (ha : ∀ v, assign (.Subscript o i pos) X.env v = (do
      let ov ← holding [v] (eval o X.env)
      let iv ← holding [v, ov] (eval i X.env)
      standAt pos
      holding [v, ov, iv] (setItem ov iv v)
      release [v, ov, iv] []) := by intro _; rfl) : PGD J X (.Subscript o i pos) (gSubD to ti r) := by
  refine PG.imp (pg_sub ho hi hs ha) fun v σ H Q h => ?_
  obtain ⟨d, ρ, st, R, rd, re, S, h, q⟩ := h
  refine ⟨ρ, st, _, re, S, h, fun x s1 vx H1 hx e1 S1 rx => ?_⟩
  refine ⟨ρ, s1, _, re.ext e1, S1, hx, fun y s2 vy H2 hy e2 S2 ry => ?_⟩
  cases x <;> try exact (show False from hy).elim
  unfold Rep at rx
  subst rx
  exact ⟨_, y, d, s2, _, rfl, ry, Rep.ext (e1.trans e2) _ _ rd, S2, hy, fun s3 H3 hr e3 S3 => q ρ s3 σ H3 hr ((e1.trans e2).trans e3) S3 (((re.ext e1).ext e2).ext e3)⟩
theorem sd_list : PSet X (upSet X.K J dSetL) := by
  refine PSet.imp set_list fun o i v H Q h => ?_
  obtain ⟨a, y, d, st, R, rfl, ry, rd, S, h, q⟩ := h
  cases y <;> try exact (show False from h).elim
  unfold Rep at ry
  subst ry
  obtain ⟨xs, j, h1, h2, h3⟩ := h
  obtain ⟨vs, e, r⟩ := S.lst h1
  exact ⟨a, vs, _, j, rfl, rfl, e, by rw [← r.len]; exact h2, q _ _ h3 (Ext.lst e) (S.setL h1 e (r.set j rd))⟩
end

/-! ### statements -/
def sNextD : TSD := fun E ρ st => E.nx ρ st
def sSeqD (t u : TSD) : TSD := fun E ρ st => t { E with nx := u E } ρ st
def sBreakD : TSD := fun E ρ st => E.bk ρ st
def sContD : TSD := fun E ρ st => E.ct ρ st
def sDropD (te : TED) : TSD := fun E ρ st => te ρ st fun _ s1 => E.nx ρ s1
def sRetD (te : TED) : TSD := fun E ρ st => te ρ st E.rt
def sRetND : TSD := fun E _ st => E.rt .non st
def sIfD (c : TTD) (t u : TSD) : TSD := fun E ρ st => c ρ st fun b s1 => if b = true then t E ρ s1 else u E ρ s1
def sNeverD : TSD := fun _ _ _ => False
def sAsgD (te : TED) (g : TGD) : TSD := fun E ρ st => te ρ st fun d s1 => g d ρ s1 E.nx
def sParD (i j : Nat) (ta : TAD) : TSD := fun E ρ st => ta ρ st fun ds s1 => match ds with
  | [d, e] => E.nx ((ρ.set i (some d)).set j (some e)) s1
  | _ => False
def sAugD (i : Nat) (r : RD2) (te : TED) : TSD := fun E ρ st => match ρ[i]? with
  | some (some x) => te ρ st fun y s1 => r x y s1 fun z s2 => E.nx (ρ.set i (some z)) s2
  | _ => False
section
variable {J : Hid} {X : Cx} {e a b c : Expr} {te ta tb tc : TED} {pos p q : Pos} {st : Stmt} {rest : List Stmt} {t u : TSD}
theorem upS_leaf {K : PySem.W.Frag} {t : TSD} {D : Ends} {σ : L2.St} {H : Hp} {P : Prop} (h : upS K J t D σ H) (k : ∀ ρ st E, RepE K H ρ σ → SimS K J st H → t E ρ st → AfterS K J H E D → P) : P := by
  obtain ⟨ρ, st, E, re, S, h, q⟩ := h
  exact k ρ st E re S h q
theorem ssd_nil : PSsD J X [] sNextD := PSs.imp pss_nil fun D σ H h => upS_leaf h fun ρ st E re S h q => q.nx ρ st σ H h (Ext.refl H) S re
theorem ssd_cons (h1 : PSD J X st t) (h2 : PSsD J X rest u) : PSsD J X (st :: rest) (sSeqD t u) := by
  refine PSs.imp (pss_cons h1 h2) fun D σ H h => ?_
  obtain ⟨ρ, st, E, re, S, h, q⟩ := h
  exact ⟨ρ, st, _, re, S, h, ⟨fun ρ1 s1 σ1 H1 hu e1 S1 re1 => ⟨ρ1, s1, E, re1, S1, hu, q.ext e1⟩, q.rt, q.bk, q.ct⟩⟩
theorem ssd_one (h : PSD J X st t) : PSsD J X [st] t := pss_one h
theorem sd_pass : PSD J X (.Pass pos) sNextD := PS.imp ps_pass fun D σ H h => upS_leaf h fun ρ st E re S h q => q.nx ρ st σ H h (Ext.refl H) S re
theorem sd_break : PSD J X (.Break pos) sBreakD := PS.imp ps_break fun D σ H h => upS_leaf h fun ρ st E re S h q => q.bk ρ st σ H h (Ext.refl H) S re
theorem sd_continue : PSD J X (.Continue pos) sContD := PS.imp ps_continue fun D σ H h => upS_leaf h fun ρ st E re S h q => q.ct ρ st σ H h (Ext.refl H) S re
theorem sd_expr (he : PED J X e te) (hs : swapsWith e none pos.line X.env = pure false := by rfl) : PSD J X (.Expr e pos) (sDropD te) := by
  refine PS.imp (ps_expr he hs) fun D σ H h => ?_
  obtain ⟨ρ, st, E, re, S, h, q⟩ := h
  exact ⟨ρ, st, _, re, S, h, fun d s1 v H1 hd e1 S1 _ => q.nx ρ s1 σ H1 hd e1 S1 (re.ext e1)⟩
theorem sd_ret (he : PED J X e te) : PSD J X (.Return (some e) pos) (sRetD te) := by
  refine PS.imp (ps_ret he) fun D σ H h => ?_
  obtain ⟨ρ, st, E, re, S, h, q⟩ := h
  exact ⟨ρ, st, _, re, S, h, q.rt⟩
theorem sd_retN : PSD J X (.Return none pos) sRetND := PS.imp ps_retN fun D σ H h => upS_leaf h fun ρ st E re S h q => q.rt .non st .non H h (Ext.refl H) S rep_non
theorem sd_if {c : Expr} {xs ys : List Stmt} {tc : TTD} (hc : PTD J X c tc) (ha : PSsD J X xs t) (hb : PSsD J X ys u) : PSD J X (.If c xs ys pos) (sIfD tc t u) := by
  refine PS.imp (ps_if hc ha hb) fun D σ H h => ?_
  obtain ⟨ρ, st, E, re, S, h, q⟩ := h
  refine ⟨ρ, st, _, re, S, h, fun k s1 H1 hk e1 S1 => ?_⟩
  cases k with
  | true => exact iteT ⟨ρ, s1, E, re.ext e1, S1, hk, q.ext e1⟩
  | false => exact iteF ⟨ρ, s1, E, re.ext e1, S1, hk, q.ext e1⟩
theorem sd_never : PSD J X st sNeverD := PS.imp ps_never fun D σ H h => upS_leaf h fun _ _ _ _ _ h _ => h.elim
theorem sd_asg {tg : Expr} {g : TGD} (he : PED J X e te) (hg : PGD J X tg g) (hs : swapsWithSole [tg] e pos.line X.env = pure false := by rfl) (hw : swappedStores [tg] e X.env = pure none := by rfl) (h1 : (assignEach [tg] X.env).map (·.2) = [assign tg X.env] := by rfl) : PSD J X (.Assign [tg] e pos) (sAsgD te g) := by
  refine PS.imp (ps_asg he hg hs hw h1) fun D σ H h => ?_
  obtain ⟨ρ, st, E, re, S, h, q⟩ := h
  refine ⟨ρ, st, _, re, S, h, fun d s1 v H1 hd e1 S1 rd => ?_⟩
  exact ⟨d, ρ, s1, _, rd, re.ext e1, S1, hd, q.nx.ext e1⟩
theorem sd_set {i : Nat} {x : Str} {pos' : Pos} (hN : X.N.Nodup) (he : PED J X e te) (hi : X.N[i]? = some x := by rfl) (hx : Loc X.env.scope x := by first | exact .inl rfl | exact .inr rfl) (hs : swapsWith e (some (.Name x pos')) pos.line X.env = pure false := by rfl)
    (hf : X.fn x = true ∨ X.env.scope.names.lookup x = some .local := by first | exact .inl rfl | exact .inr rfl | assumption) : PSD J X (.Assign [.Name x pos'] e pos) (sAsgD te (gNameD i)) := by
  refine PS.imp (ps_set (i := i) hN hi hx he hs hf) fun D σ H h => ?_
  obtain ⟨ρ, st, E, re, S, h, q⟩ := h
  refine ⟨ρ, st, _, re, S, h, fun d s1 v H1 hd e1 S1 rd => ?_⟩
  exact q.nx _ s1 _ H1 hd e1 S1 ((re.ext e1).set rd i)
theorem sd_par {i j : Nat} {x y : Str} {ta : TAD} {px py pt : Pos} {kt k2 pt2} (hc : X.calm = true) (hN : X.N.Nodup) (ha : PAD J X [a, b] ta) (hi : X.N[i]? = some x := by rfl) (hj : X.N[j]? = some y := by rfl) (hij : i ≠ j := by decide) (hx : X.env.scope.names.lookup x = some .local := by rfl) (hy : X.env.scope.names.lookup y = some .local := by rfl)
    (hw : swappedStores [.Tuple [.Name x px, .Name y py] kt pt] (.Tuple [a, b] k2 pt2) X.env = pure (some [x, y]) := by rfl) (hs : swapsWithSole [.Tuple [.Name x px, .Name y py] kt pt] (.Tuple [a, b] k2 pt2) pos.line X.env = pure false := by rfl) : PSD J X (.Assign [.Tuple [.Name x px, .Name y py] kt pt] (.Tuple [a, b] k2 pt2) pos) (sParD i j ta) := by
  refine PS.imp (ps_par hc hN hi hj hij hx hy ha hw hs) fun D σ H h => ?_
  obtain ⟨ρ, st, E, re, S, h, q⟩ := h
  refine ⟨ρ, st, _, re, S, h, fun ds s1 vs H1 hd e1 S1 rs => ?_⟩
  match ds, hd, rs with
  | [d, e], hd, rs =>
    obtain ⟨v, w, rfl, r1, r2⟩ := reps2 rs
    exact ⟨v, w, rfl, q.nx _ s1 _ H1 hd e1 S1 (((re.ext e1).set r1 i).set r2 j)⟩
theorem sd_aug {i : Nat} {x : Str} {op : Operator} {r : RD2} {pos' : Pos} (ho : OpR X (inplaceOp op) (upR2 X.K J r)) (hN : X.N.Nodup) (he : PED J X e te) (hi : X.N[i]? = some x := by rfl) (hx : Loc X.env.scope x := by first | exact .inl rfl | exact .inr rfl)
    (hf : X.fn x = true ∨ X.env.scope.names.lookup x = some .local := by first | exact .inl rfl | exact .inr rfl | assumption) : PSD J X (.AugAssign (.Name x pos') op e pos) (sAugD i r te) := by
  refine PS.imp (ps_aug (i := i) (ti := upR2 X.K J r) hN hi hx he ho hf) fun D σ H h => ?_
  obtain ⟨ρ, st, E, re, S, h, q⟩ := h
  unfold sAugD at h
  split at h
  · rename_i d ed
    obtain ⟨v, e1, rv⟩ := re.at_ i d ed
    refine ⟨v, e1, ρ, st, _, re, S, h, fun y s1 w H1 hy e2 S1 ry => ?_⟩
    exact ⟨d, y, s1, _, Rep.ext e2 _ _ rv, ry, S1, hy, fun z s2 u H2 hz e3 S2 rz => q.nx _ s2 _ H2 hz (e2.trans e3) S2 (((re.ext e2).ext e3).set rz i)⟩
  · exact h.elim
theorem iod_add : OpD J X (inplaceOp .Add) (fun x y st R => match x, y with
    | .int i, .int j => R (.int (i + j)) st
    | .str a, .str b => a.length + b.length ≤ sizeLine ∧ R (.str (a ++ b)) st
    | _, _ => False) := by
  refine OpR.imp (iop_add.or iop_add_str) fun vx vy H Q h => ?_
  obtain ⟨x, y, st, R, rx, ry, S, h, q⟩ := h
  cases x <;> cases y <;> try exact (show False from h).elim
  · unfold Rep at rx ry; subst rx ry
    exact .inl ⟨_, _, rfl, rfl, q _ st _ H h (Ext.refl H) S rep_int⟩
  · unfold Rep at rx ry
    obtain ⟨rfl, l1, o1⟩ := rx
    obtain ⟨rfl, l2, o2⟩ := ry
    exact .inr ⟨_, _, rfl, rfl, h.1, q _ st _ H h.2 (Ext.refl H) S (by unfold Rep; exact ⟨rfl, by rw [len_append]; exact h.1, strOk_append o1 o2⟩)⟩
theorem iod_sub : OpD J X (inplaceOp .Sub) dSub := by
  refine OpR.imp iop_sub fun vx vy H Q h => ?_
  obtain ⟨x, y, st, R, rx, ry, S, h, q⟩ := h
  cases x <;> cases y <;> try exact (show False from h).elim
  unfold Rep at rx ry; subst rx ry
  exact ⟨_, _, rfl, rfl, q _ st _ H h (Ext.refl H) S rep_int⟩
end
end DL
-- text DLE
set_option Elab.async false
set_option linter.all false
set_option maxRecDepth 100000
set_option maxHeartbeats 1000000
/-! DLE: what is walked, for, while, comprehensions, defs -/
namespace DL
open PySem PySem.Spec PyProof.Rows L2

/-- what an item is, by values: a datum; a pair (a tuple just made) -/
abbrev YD (α : Type) := PySem.W.Frag → Hp → V → α → Prop
def YVal : YD D := fun K H v d => Rep K H d v
def YTup : YD (List D) := fun K H v ds => ∃ a vs, v = .ref a ∧ SqT K H a vs ∧ Reps K H ds vs
abbrev TID (α : Type) := Rho → Stor → (List α → (Stor → Prop) → Stor → Prop) → Prop
section
variable {α : Type} (K : PySem.W.Frag) (J : Hid) (Y : YD α)
structure WalkD (H0 : Hp) (Ji : It) (items : List α) (grd : Stor → Prop) : Prop where
  goes : ∀ i H st, i < items.length → Ext H0 H → SimS K J st H → grd st → Ji.go i H
  stops : ∀ H st, Ext H0 H → SimS K J st H → grd st → Ji.stop items.length H
  yields : ∀ i H st v H', i < items.length → Ext H0 H → SimS K J st H → grd st → Ji.yld i H v H' → ∃ x, items[i]? = some x ∧ Ext H H' ∧ SimS K J st H' ∧ Y K H' v x
def upI (t : TID α) : TI := fun σ H Rv => ∃ ρ st R, RepE K H ρ σ ∧ SimS K J st H ∧ t ρ st R ∧ ∀ items grd st' Ji H', R items grd st' → Ext H H' → SimS K J st' H' → WalkD K J Y H' Ji items grd → Rv Ji H'
def upGY (t : α → Rho → Stor → (Rho → Stor → Prop) → Prop) : TG := fun v σ H Q => ∃ x ρ st R, Y K H v x ∧ RepE K H ρ σ ∧ SimS K J st H ∧ t x ρ st R ∧ AfterE K J H R Q
end
def PID {α : Type} (J : Hid) (X : Cx) (Y : YD α) (tg iter : Expr) (t : TID α) : Prop := PI X tg iter (upI X.K J Y t)
def PGYD {α : Type} (J : Hid) (X : Cx) (Y : YD α) (tg : Expr) (t : α → Rho → Stor → (Rho → Stor → Prop) → Prop) : Prop := PG X tg (upGY X.K J Y t)
def gTup' (n : Nat) (t : TGsD) : List D → Rho → Stor → (Rho → Stor → Prop) → Prop := fun ds ρ st R => ds.length = n ∧ t ds ρ st R
section
variable {α : Type} {J : Hid} {X : Cx} {pos : Pos}
theorem gyd_val {tg : Expr} {t : TGD} (h : PGD J X tg t) : PGYD J X YVal tg t := h
theorem gyd_tup {es : List Expr} {k : Nat} {t : TGsD} {n : Nat} (hc : X.calm = true) (h : PGsD J X es t) (hn : (assignEach es X.env).length = n := by rfl) (hst : (assignEach es X.env).findIdx? (·.1) = none := by rfl) : PGYD J X YTup (.Tuple es k pos) (gTup' n t) := by
  refine PG.imp (pg_tup hc h hn hst) fun v σ H Q h => ?_
  obtain ⟨ds, ρ, st, R, ⟨a, vs, rfl, t1, r⟩, re, S, h, q⟩ := h
  exact ⟨a, vs, rfl, t1, by rw [← r.len]; exact h.1, ds, ρ, st, R, r, re, S, h.2, q⟩
end

/-! ### for -/
/-- N: what a turn reaches -/
def loopD {α : Type} (grd : Stor → Prop) (g : α → Rho → Stor → (Rho → Stor → Prop) → Prop) (tb : TSD) (E : EndsD) : List α → Rho → Stor → Prop
  | [], ρ, st => grd st ∧ E.nx ρ st
  | x :: xs, ρ, st => grd st ∧ ∃ N : Rho → Stor → Prop, (g x ρ st fun ρ1 s1 => tb { E with nx := N, ct := N, bk := E.nx } ρ1 s1) ∧ ∀ ρ' st', N ρ' st' → ∃ s2, Sub s2 st' ∧ loopD grd g tb E xs ρ' s2
def sForD {α : Type} (it : TID α) (g : α → Rho → Stor → (Rho → Stor → Prop) → Prop) (tb : TSD) : TSD := fun E ρ st => it ρ st fun items grd s1 => loopD grd g tb E items ρ s1
section
variable {α : Type} {J : Hid} {X : Cx} {Y : YD α} {tg iter : Expr} {body : List Stmt} {it : TID α} {g : α → Rho → Stor → (Rho → Stor → Prop) → Prop} {tb : TSD} {pos : Pos}
theorem sd_for (hp : PassesOwn (model X.prog X.w) X.A X.env X.xe) (hc : X.calm = true) (hi : PID J X Y tg iter it) (hg : PGYD J X Y tg g) (hb : PSsD J X body tb) (hs : ∀ x, foldedSetIterable iter X.env x = pure x := by intro _; rfl) :
    PSD J X (.For tg iter body [] pos) (sForD it g tb) := by
  refine PS.imp (ps_for hp hc hi hg hb hs) fun D σ H h => ?_
  obtain ⟨ρ, st, E, re, S, h, q⟩ := h
  refine ⟨ρ, st, _, re, S, h, fun items grd s1 Ji H1 hl e1 S1 W => ?_⟩
  refine ⟨fun i m σ H' => m = items.length - i ∧ i ≤ items.length ∧ ∃ ρ st, RepE X.K H' ρ σ ∧ SimS X.K J st H' ∧ Ext H1 H' ∧ loopD grd g tb E (items.drop i) ρ st,
    ⟨items.length, by simp, Nat.zero_le _, ρ, s1, re.ext e1, S1, Ext.refl H1, by simpa using hl⟩, ?_⟩
  rintro i m σ' H' ⟨rfl, hi, ρ', st', re', S', e', hl'⟩
  by_cases hlt : i < items.length
  · have hd : items.drop i = items[i] :: items.drop (i + 1) := (List.getElem_cons_drop hlt).symm
    rw [hd] at hl'
    obtain ⟨hg', N, hN, hN2⟩ := hl'
    refine .inr ⟨W.goes i H' st' hlt e' S' hg', fun σ2 H2 => ∃ ρ2 s2, RepE X.K H2 ρ2 σ2 ∧ SimS X.K J s2 H2 ∧ Ext H1 H2 ∧ N ρ2 s2, fun σ2 H2 h2 => ?_, fun x H2 hy => ?_⟩
    · obtain ⟨ρ2, s2, r2, S2, e2, n2⟩ := h2
      obtain ⟨s3, sub, l3⟩ := hN2 ρ2 s2 n2
      exact ⟨items.length - (i + 1), by omega, rfl, hlt, ρ2, s3, r2, S2.sub sub, e2, l3⟩
    · obtain ⟨d, hd', e2, S2, y⟩ := W.yields i H' st' x H2 hlt e' S' hg' hy
      have : items[i] = d := by
        rw [List.getElem?_eq_getElem hlt] at hd'
        exact Option.some.inj hd'
      rw [this] at hN
      refine ⟨d, ρ', st', _, y, re'.ext e2, S2, hN, fun ρ3 s3 σ3 H3 h3 e3 S3 r3 => ?_⟩
      refine ⟨ρ3, s3, _, r3, S3, h3, ⟨fun ρ4 s4 σ4 H4 h4 e4 S4 r4 => ⟨ρ4, s4, r4, S4, e'.trans (e2.trans (e3.trans e4)), h4⟩, q.rt.ext (e1.trans (e'.trans (e2.trans e3))), q.nx.ext (e1.trans (e'.trans (e2.trans e3))), fun ρ4 s4 σ4 H4 h4 e4 S4 r4 => ⟨ρ4, s4, r4, S4, e'.trans (e2.trans (e3.trans e4)), h4⟩⟩⟩
  · have ei : i = items.length := by omega
    subst ei
    rw [List.drop_length] at hl'
    exact .inl ⟨W.stops H' st' e' S' hl'.1, q.nx ρ' st' σ' H' hl'.2 (e1.trans e') S' re'⟩
/-- a loop by its invariant -/
theorem loop_inv {grd : Stor → Prop} {E : EndsD} {items : List α} {ρ : Rho} {st : Stor} (P : Nat → Rho → Stor → Prop) (h0 : P 0 ρ st) (hg : ∀ i ρ st, P i ρ st → grd st)
    (hs : ∀ i x ρ st, items[i]? = some x → P i ρ st → g x ρ st fun ρ1 s1 => tb { E with nx := fun ρ' st' => ∃ s2, Sub s2 st' ∧ P (i + 1) ρ' s2, ct := fun ρ' st' => ∃ s2, Sub s2 st' ∧ P (i + 1) ρ' s2, bk := E.nx } ρ1 s1)
    (hd : ∀ ρ st, P items.length ρ st → E.nx ρ st) : loopD grd g tb E items ρ st := by
  have main : ∀ (n i : Nat) (ρ : Rho) (st : Stor), n = items.length - i → i ≤ items.length → P i ρ st → loopD grd g tb E (items.drop i) ρ st := by
    intro n
    induction n with
    | zero =>
      intro i ρ st hn hi p
      have ei : i = items.length := by omega
      subst ei
      rw [List.drop_length]
      exact ⟨hg _ _ _ p, hd _ _ p⟩
    | succ n ih =>
      intro i ρ st hn hi p
      have hlt : i < items.length := by omega
      rw [← List.getElem_cons_drop hlt]
      exact ⟨hg _ _ _ p, _, hs i _ ρ st (List.getElem?_eq_getElem hlt) p, fun ρ' st' ⟨s2, sub, p'⟩ => ⟨s2, sub, ih (i + 1) ρ' s2 (by omega) hlt p'⟩⟩
  have := main items.length 0 ρ st (by simp) (Nat.zero_le _) h0
  simpa using this
theorem loop_nil {grd : Stor → Prop} {E : EndsD} {ρ : Rho} {st : Stor} (h1 : grd st) (h2 : E.nx ρ st) : loopD grd g tb E [] ρ st := ⟨h1, h2⟩
/-- one turn, written out -/
theorem loop_cons {grd : Stor → Prop} {E : EndsD} {x : α} {xs : List α} {ρ : Rho} {st : Stor} (h1 : grd st) (h2 : g x ρ st fun ρ1 s1 => tb { E with nx := loopD grd g tb E xs, ct := loopD grd g tb E xs, bk := E.nx } ρ1 s1) : loopD grd g tb E (x :: xs) ρ st :=
  ⟨h1, _, h2, fun _ st' h => ⟨st', Sub.refl _, h⟩⟩
end

/-! ### what is walked -/
def iSeqD (t : TED) : TID D := fun ρ st R => t ρ st fun d s1 => match d with
  | .tup xs => R xs (fun _ => True) s1
  | .ref a => ∃ xs, getL s1 a = some xs ∧ R xs (fun s => getL s a = some xs) s1
  | .str z => R (z.cps.toList.map fun c => .str ⟨#[c]⟩) (fun _ => True) s1
  | .ro xs => R xs (fun _ => True) s1
  | _ => False
def rangeD (lo : Int) (n : Nat) : List D := (List.range n).map fun i => .int (lo + (i : Nat))
def iRng1D (ta : TAD) : TID D := fun ρ st R => ta ρ st fun ds s1 => match ds with
  | [.int j] => (-(2 ^ 62) ≤ j ∧ j < 2 ^ 62) ∧ R (rangeD 0 j.toNat) (fun _ => True) s1
  | _ => False
def iRng2D (ta : TAD) : TID D := fun ρ st R => ta ρ st fun ds s1 => match ds with
  | [.int i, .int j] => (-(2 ^ 62) ≤ i ∧ i < 2 ^ 62 ∧ -(2 ^ 62) ≤ j ∧ j < 2 ^ 62) ∧ R (rangeD i (j - i).toNat) (fun _ => True) s1
  | _ => False
section
variable {J : Hid} {X : Cx} {tg e a b : Expr} {te : TED} {ta : TAD} {pos p : Pos}
theorem wd_list {K : PySem.W.Frag} {H0 : Hp} {a : Addr} {xs : List D} : WalkD K J YVal H0 (Itl K a) xs fun s => getL s a = some xs := by
  refine ⟨fun i H st hi e0 S hg => ?_, fun H st e0 S hg => ?_, fun i H st v H' hi e0 S hg hy => ?_⟩
  · obtain ⟨vs, hs, r⟩ := S.getL hg
    exact ⟨vs, vs[i]'(by rw [← r.len]; exact hi), hs, by simp⟩
  · obtain ⟨vs, hs, r⟩ := S.getL hg
    exact ⟨vs, hs, by rw [r.len]; exact Nat.le_refl _⟩
  · obtain ⟨vs, hs, r⟩ := S.getL hg
    obtain ⟨rfl, hy⟩ := hy
    obtain ⟨d, h1, h2⟩ := r.getV (hy vs hs)
    exact ⟨d, h1, Ext.refl _, S, h2⟩
theorem wd_ro {K : PySem.W.Frag} {H0 : Hp} {a : Addr} {xs : List D} {vs : List V} (h : RoL K H0 a vs) (hr : Reps K H0 xs vs) : WalkD K J YVal H0 (Itl K a) xs fun _ => True := by
  refine ⟨fun i H st hi e0 S hg => ?_, fun H st e0 S hg => ?_, fun i H st v H' hi e0 S hg hy => ?_⟩
  · exact ⟨vs, vs[i]'(by rw [← hr.len]; exact hi), (e0.roL h).sqL, by simp⟩
  · exact ⟨vs, (e0.roL h).sqL, by rw [hr.len]; exact Nat.le_refl _⟩
  · obtain ⟨rfl, hy⟩ := hy
    obtain ⟨d, h1, h2⟩ := hr.getV (hy vs (e0.roL h).sqL)
    exact ⟨d, h1, Ext.refl _, S, Rep.ext e0 _ _ h2⟩
theorem wd_tup {K : PySem.W.Frag} {H0 : Hp} {a : Addr} {xs : List D} {vs : List V} (h : TupOk K H0 a vs) (hr : Reps K H0 xs vs) : WalkD K J YVal H0 (Itt K a) xs fun _ => True := by
  refine ⟨fun i H st hi e0 S hg => ?_, fun H st e0 S hg => ?_, fun i H st v H' hi e0 S hg hy => ?_⟩
  · exact ⟨vs, vs[i]'(by rw [← hr.len]; exact hi), (e0.tupOk h).sqT, by simp⟩
  · exact ⟨vs, (e0.tupOk h).sqT, by rw [hr.len]; exact Nat.le_refl _⟩
  · obtain ⟨rfl, hy⟩ := hy
    obtain ⟨d, h1, h2⟩ := hr.getV (hy vs (e0.tupOk h).sqT)
    exact ⟨d, h1, Ext.refl _, S, Rep.ext e0 _ _ h2⟩
theorem wd_range {K : PySem.W.Frag} {H0 : Hp} {lo : Int} {n : Nat} : WalkD K J YVal H0 (Itr lo n) (rangeD lo n) fun _ => True := by
  have hl : (rangeD lo n).length = n := by simp [rangeD]
  refine ⟨fun i H st hi e0 S hg => ?_, fun H st e0 S hg => ?_, fun i H st v H' hi e0 S hg hy => ?_⟩
  · rw [hl] at hi; exact hi
  · rw [hl]; exact Nat.le_refl _
  · rw [hl] at hi
    obtain ⟨rfl, rfl⟩ := hy
    exact ⟨.int (lo + (i : Nat)), by simp [rangeD, hi], Ext.refl _, S, rep_int⟩
theorem wd_str {K : PySem.W.Frag} {z : Str} {H0 : Hp} (ho : PyData.strOk z = true) : WalkD K J YVal H0 (Its z) (z.cps.toList.map fun c => .str ⟨#[c]⟩) fun _ => True := by
  have hl : (z.cps.toList.map fun c => D.str ⟨#[c]⟩).length = z.cps.size := by simp
  refine ⟨fun i H st hi e0 S hg => ?_, fun H st e0 S hg => ?_, fun i H st v H' hi e0 S hg hy => ?_⟩
  · rw [hl] at hi; exact hi
  · rw [hl]; exact Nat.le_refl _
  · obtain ⟨rfl, c, h1, rfl⟩ := hy
    have h2 : z.cps.toList[i]? = some c := by simpa using h1
    refine ⟨.str ⟨#[c]⟩, by rw [List.getElem?_map, h2]; rfl, Ext.refl _, S, ?_⟩
    show Rep K H' (.str ⟨#[c]⟩) (.str ⟨#[c]⟩)
    unfold Rep
    exact ⟨rfl, (by show 1 ≤ sizeLine; decide), strOk_char ho (List.mem_of_getElem? h2)⟩
/-- a list, a tuple or a text, walked -/
theorem pi_seqA {l : Expr} {tl : TE} (hl : PE X l tl) : PI X tg l (fun σ H R => tl σ H fun x H1 => (∃ a xs, x = .ref a ∧ SqL X.K H1 a xs ∧ R (Itl X.K a) H1) ∨ (∃ a xs, x = .ref a ∧ SqT X.K H1 a xs ∧ R (Itt X.K a) H1) ∨ ∃ z, x = .str z ∧ R (Its z) H1) := by
  refine ⟨fun pins s σ H R I h => ?_⟩
  refine thn (hl.run pins s σ H _ I h) fun v s1 ⟨x, H1, I1, r1, q1⟩ => ?_
  rcases q1 with ⟨a, xs, e, hq, q⟩ | ⟨a, xs, e, hq, q⟩ | ⟨z, e, q⟩
  · subst e
    cases r1
    obtain ⟨its, rv, p, hz⟩ := I1.list hq
    refine wpAny_pyIter_list p.isList ?_
    refine ⟨s1.heap.objs.size, [s1.heap.objs.size], _, _, H1, rfl, I1.kept (t' := s1.toks) fun b o e => Heap.get?_push_of_some _ e, turn_list a _, ⟨_, Heap.get?_push_size _ rfl, rfl, rfl⟩, fun b hb => ?_, q⟩
    have e : b = s1.heap.objs.size := by simpa using hb
    subst e
    exact I1.fpOk (Nat.le_refl _) (I1.hok.fresh (Nat.le_refl _))
  · subst e
    cases r1
    obtain ⟨its, rv, p, hz⟩ := I1.tuple hq
    refine wpAny_pyIter_tuple (show s1.heap.IsTuple a its.toArray from p) ?_
    refine ⟨s1.heap.objs.size, [s1.heap.objs.size], _, _, H1, rfl, I1.kept (t' := s1.toks) fun b o e => Heap.get?_push_of_some _ e, turn_tuple a _, ⟨_, Heap.get?_push_size _ rfl, rfl, rfl⟩, fun b hb => ?_, q⟩
    have e : b = s1.heap.objs.size := by simpa using hb
    subst e
    exact I1.fpOk (Nat.le_refl _) (I1.hok.fresh (Nat.le_refl _))
  · subst e
    obtain ⟨t, rfl⟩ := r1
    cases ha : z.cps.all (· < 128)
    · exact wpAny_pyIter_wide ha (pi_one (tk := s1.toks) I1 _ (turn_str _ z t "str_iterator" (.inr rfl)) ⟨_, Heap.get?_push_size _ rfl, rfl, rfl⟩ q)
    · exact wpAny_pyIter_ascii ha (pi_one (tk := s1.toks) I1 _ (turn_str _ z t "str_ascii_iterator" (.inl rfl)) ⟨_, Heap.get?_push_size _ rfl, rfl, rfl⟩ q)
theorem PI.imp {tg e : Expr} {t t' : TI} (h : PI X tg e t) (k : ∀ σ H Q, t' σ H Q → t σ H Q) : PI X tg e t' := ⟨fun p s σ H R I q => h.run p s σ H R I (k σ H R q)⟩
theorem id_seq (he : PED J X e te) : PID J X YVal tg e (iSeqD te) := by
  refine PI.imp (pi_seqA he) fun σ H Rv h => ?_
  obtain ⟨ρ, st, R, re, S, h, q⟩ := h
  refine ⟨ρ, st, _, re, S, h, fun d s1 v H1 hd e1 S1 rd => ?_⟩
  cases d <;> try exact (show False from hd).elim
  · unfold Rep at rd
    obtain ⟨rfl, _, ho⟩ := rd
    exact .inr (.inr ⟨_, rfl, q _ _ s1 _ H1 hd e1 S1 (wd_str ho)⟩)
  · unfold Rep at rd
    obtain ⟨a, vs, rfl, t, r⟩ := rd
    exact .inr (.inl ⟨a, vs, rfl, t.sqT, q _ _ s1 _ H1 hd e1 S1 (wd_tup t r)⟩)
  · unfold Rep at rd
    subst rd
    obtain ⟨xs, hg, hd⟩ := hd
    obtain ⟨vs, hs, _⟩ := S1.getL hg
    exact .inl ⟨_, vs, rfl, hs, q _ _ s1 _ H1 hd e1 S1 wd_list⟩
  · unfold Rep at rd
    obtain ⟨a, vs, rfl, t, r⟩ := rd
    exact .inl ⟨_, vs, rfl, t.sqL, q _ _ s1 _ H1 hd e1 S1 (wd_ro t r)⟩
theorem id_range1 (hm : X.mg "range" = none) (ha : PAD J X [a] ta) (hg : Gl X "range" := by rfl) (hs : starEach [a] X.env = [(false, eval a X.env)] := by rfl) : PID J X YVal tg (.Call (.Name "range" p) [a] [] pos) (iRng1D ta) := by
  refine PI.imp (pi_range1 hg hm ha hs) fun σ H Rv h => ?_
  obtain ⟨ρ, st, R, re, S, h, q⟩ := h
  refine ⟨ρ, st, _, re, S, h, fun ds s1 vs H1 hd e1 S1 rs => ?_⟩
  match ds, hd, rs with
  | [.int j], hd, rs =>
    obtain ⟨v, rfl, r⟩ := reps1 rs
    unfold Rep at r
    subst r
    exact ⟨j, rfl, hd.1.1, hd.1.2, q _ _ s1 _ H1 hd.2 e1 S1 wd_range⟩
theorem id_range2 (hm : X.mg "range" = none) (ha : PAD J X [a, b] ta) (hg : Gl X "range" := by rfl) (hs : starEach [a, b] X.env = [(false, eval a X.env), (false, eval b X.env)] := by rfl) (hs2 : starEach [b] X.env = [(false, eval b X.env)] := by rfl) : PID J X YVal tg (.Call (.Name "range" p) [a, b] [] pos) (iRng2D ta) := by
  refine PI.imp (pi_range2 hg hm ha hs hs2) fun σ H Rv h => ?_
  obtain ⟨ρ, st, R, re, S, h, q⟩ := h
  refine ⟨ρ, st, _, re, S, h, fun ds s1 vs H1 hd e1 S1 rs => ?_⟩
  match ds, hd, rs with
  | [.int i, .int j], hd, rs =>
    rw [reps_int2 rs]
    exact ⟨i, j, rfl, hd.1, q _ _ s1 _ H1 hd.2 e1 S1 wd_range⟩
end

/-! ### while -/
def sWhileD (c : TTD) (tb : TSD) : TSD := fun E ρ st => ∃ W : Nat → Rho → Stor → Prop, (∃ m, W m ρ st) ∧ ∀ m ρ st, W m ρ st → c ρ st fun b s1 =>
  if b = true then ∃ N : Rho → Stor → Prop, (∀ ρ' st', N ρ' st' → ∃ m' s2, m' < m ∧ Sub s2 st' ∧ W m' ρ' s2) ∧ tb { E with nx := N, ct := N, bk := E.nx } ρ s1 else E.nx ρ s1
section
variable {J : Hid} {X : Cx} {c : Expr} {body : List Stmt} {tc : TTD} {tb : TSD} {pos : Pos}
theorem sd_while (hp : PassesOwn (model X.prog X.w) X.A X.env X.xe) (hc : PTD J X c tc) (hb : PSsD J X body tb) : PSD J X (.While c body [] pos) (sWhileD tc tb) := by
  refine PS.imp (ps_while hp hc hb) fun D σ H h => ?_
  obtain ⟨ρ, st, E, re, S, ⟨W, ⟨m0, w0⟩, turn⟩, q⟩ := h
  refine ⟨fun m σ' H' => ∃ ρ' st', RepE X.K H' ρ' σ' ∧ SimS X.K J st' H' ∧ Ext H H' ∧ W m ρ' st', ⟨m0, ρ, st, re, S, Ext.refl H, w0⟩, ?_⟩
  rintro m σ1 H1 ⟨ρ1, s1, r1, S1, e1, w1⟩
  refine ⟨ρ1, s1, _, r1, S1, turn m ρ1 s1 w1, fun b s2 H2 hb e2 S2 => ?_⟩
  cases b with
  | true =>
    rw [if_pos rfl] at hb
    obtain ⟨N, hN, hb⟩ := hb
    refine iteT ⟨fun σ3 H3 => ∃ ρ3 s3, RepE X.K H3 ρ3 σ3 ∧ SimS X.K J s3 H3 ∧ Ext H H3 ∧ N ρ3 s3, fun σ3 H3 ⟨ρ3, s3, r3, S3, e3, n3⟩ => ?_, ρ1, s2, _, r1.ext e2, S2, hb, ?_⟩
    · obtain ⟨m', s4, hm, sub, w4⟩ := hN ρ3 s3 n3
      exact ⟨m', hm, ρ3, s4, r3, S3.sub sub, e3, w4⟩
    · exact ⟨fun ρ4 s4 σ4 H4 h4 e4 S4 r4 => ⟨ρ4, s4, r4, S4, e1.trans (e2.trans e4), h4⟩, q.rt.ext (e1.trans e2), q.nx.ext (e1.trans e2), fun ρ4 s4 σ4 H4 h4 e4 S4 r4 => ⟨ρ4, s4, r4, S4, e1.trans (e2.trans e4), h4⟩⟩
  | false =>
    rw [if_neg Bool.false_ne_true] at hb
    exact iteF (q.nx ρ1 s2 σ1 H2 hb (e1.trans e2) S2 (r1.ext e2))
end

/-! ### comprehensions -/
def wipeD (ρ : Rho) : List Nat → Rho
  | [] => ρ
  | v :: vs => (wipeD ρ vs).set v none
theorem RepE.unset {K : PySem.W.Frag} {H : Hp} {ρ : Rho} {σ : L2.St} (r : RepE K H ρ σ) (i : Nat) : RepE K H (ρ.set i none) (σ.set i none) :=
  ⟨by simp [r.len], fun j e q => by
    by_cases hj : i = j
    · subst hj
      by_cases hl : i < ρ.length
      · rw [List.getElem?_set_self hl] at q; cases q
      · rw [List.getElem?_eq_none (by simpa using hl)] at q; cases q
    · rw [List.getElem?_set_ne hj] at q
      obtain ⟨w, h1, h2⟩ := r.at_ j e q
      exact ⟨w, by rw [List.getElem?_set_ne hj]; exact h1, h2⟩⟩
theorem RepE.wipe {K : PySem.W.Frag} {H : Hp} {ρ : Rho} {σ : L2.St} (r : RepE K H ρ σ) : ∀ vs : List Nat, RepE K H (wipeD ρ vs) (L2.wipe σ vs)
  | [] => r
  | v :: vs => by
    show RepE K H ((wipeD ρ vs).set v none) ((L2.wipe σ vs).set v none)
    exact (RepE.wipe r vs).unset v
theorem wipe_set {σ : L2.St} {i : Nat} {x : Option V} : ∀ {vs : List Nat}, i ∈ vs → L2.wipe (σ.set i x) vs = L2.wipe σ vs
  | v :: vs, h => by
    by_cases hi : i ∈ vs
    · show (L2.wipe (σ.set i x) vs).set v none = (L2.wipe σ vs).set v none
      rw [wipe_set hi]
    · have e : i = v := by
        rcases List.mem_cons.mp h with h | h
        · exact h
        · exact absurd h hi
      subst e
      show (L2.wipe (σ.set i x) vs).set i none = (L2.wipe σ vs).set i none
      have com : ∀ (ws : List Nat) (τ : L2.St), i ∉ ws → L2.wipe (τ.set i x) ws = (L2.wipe τ ws).set i x := by
        intro ws
        induction ws with
        | nil => intro τ _; rfl
        | cons w ws ih =>
          intro τ hw
          show (L2.wipe (τ.set i x) ws).set w none = ((L2.wipe τ ws).set w none).set i x
          rw [ih τ (fun z => hw (List.mem_cons_of_mem _ z)), List.set_comm _ _ (fun z => hw (by rw [z]; exact List.mem_cons_self))]
      rw [com vs σ hi, List.set_set]
theorem wipe_idem {σ : L2.St} : ∀ vs : List Nat, L2.wipe (L2.wipe σ vs) vs = L2.wipe σ vs := by
  have gen : ∀ (ws vs : List Nat), (∀ w ∈ ws, w ∈ vs) → ∀ τ : L2.St, L2.wipe (L2.wipe τ ws) vs = L2.wipe τ vs := by
    intro ws
    induction ws with
    | nil => intro vs _ τ; rfl
    | cons w ws ih =>
      intro vs h τ
      show L2.wipe ((L2.wipe τ ws).set w none) vs = _
      rw [wipe_set (h w List.mem_cons_self)]
      exact ih vs (fun z hz => h z (List.mem_cons_of_mem _ hz)) τ
  exact fun vs => gen vs vs (fun _ h => h) σ
/-- a comprehension's target: it writes own slots alone -/
def TgOk {α : Type} (K : PySem.W.Frag) (Y : YD α) (vs : List Nat) (tv : TG) (td : α → Rho → Stor → (Rho → Stor → Prop) → Prop) : Prop :=
  ∀ v (σ : L2.St) H Q x ρ st R, Y K H v x → RepE K H ρ σ → td x ρ st R → (∀ ρ' σ', R ρ' st → RepE K H ρ' σ' → L2.wipe σ' vs = L2.wipe σ vs → Q σ' H) → tv v σ H Q
def TgsOk (K : PySem.W.Frag) (vs : List Nat) (tv : TGs) (td : TGsD) : Prop :=
  ∀ ws (σ : L2.St) H Q xs ρ st R, Reps K H xs ws → RepE K H ρ σ → td xs ρ st R → (∀ ρ' σ', R ρ' st → RepE K H ρ' σ' → L2.wipe σ' vs = L2.wipe σ vs → Q σ' H) → tv ws σ H Q
theorem tg_name {K : PySem.W.Frag} {vs : List Nat} {i : Nat} (h : i ∈ vs := by decide) : TgOk K YVal vs (gName i) (gNameD i) :=
  fun v σ H Q x ρ st R y re ht k => k _ _ ht (re.set y i) (wipe_set h)
theorem tgs_nil {K : PySem.W.Frag} {vs : List Nat} : TgsOk K vs gNil gNilD := fun ws σ H Q xs ρ st R rs re ht k => by
  cases xs with
  | nil => exact ⟨rs.inv_nil, k _ _ ht re rfl⟩
  | cons _ _ => exact (show False from ht).elim
theorem tgs_cons {K : PySem.W.Frag} {vs : List Nat} {t : TG} {u : TGs} {td : TGD} {ud : TGsD} (h1 : TgOk K YVal vs t td) (h2 : TgsOk K vs u ud) (hst : ∀ x ρ st R, td x ρ st R → td x ρ st fun ρ' s' => s' = st ∧ R ρ' s' := by intro _ _ _ _ h; exact ⟨rfl, h⟩) : TgsOk K vs (gCons t u) (gConsD td ud) := fun ws σ H Q xs ρ st R rs re ht k => by
  cases xs with
  | nil => exact (show False from ht).elim
  | cons x xs =>
    obtain ⟨v, r, rfl, r1, r2⟩ := rs.inv
    refine ⟨v, r, rfl, h1 v σ H _ x ρ st _ r1 re ht fun ρ1 σ1 hr re1 w1 => ?_⟩
    exact h2 r σ1 H Q xs ρ1 st R r2 re1 hr fun ρ2 σ2 hr2 re2 w2 => k ρ2 σ2 hr2 re2 (w2.trans w1)
theorem tg_tup {K : PySem.W.Frag} {vs : List Nat} {t : TGs} {td : TGsD} {n : Nat} (h : TgsOk K vs t td) : TgOk K YTup vs (gTup K n t) (gTup' n td) := fun v σ H Q x ρ st R y re ht k => by
  obtain ⟨a, ws, rfl, t1, r⟩ := y
  exact ⟨a, ws, rfl, t1, by rw [← r.len]; exact ht.1, h ws σ H Q x ρ st R r re ht.2 k⟩
theorem tg_tupV {K : PySem.W.Frag} {vs : List Nat} {t : TGs} {td : TGsD} {n : Nat} (h : TgsOk K vs t td) : TgOk K YVal vs (gTup K n t) (gTupD n td) := fun v σ H Q x ρ st R y re ht k => by
  cases x <;> try exact (show False from ht).elim
  unfold YVal Rep at y
  obtain ⟨a, ws, rfl, t1, r⟩ := y
  exact ⟨a, ws, rfl, t1.sqT, by rw [← r.len]; exact ht.1, h ws σ H Q _ ρ st R r re ht.2 k⟩
def tYesD : TTD := fun _ st R => R true st
structure PTsD (J : Hid) (X : Cx) (ifs : List Expr) (t : TTD) : Prop where
  h : PTs X ifs (upT X.K J t)
theorem tsd_nil {J : Hid} {X : Cx} : PTsD J X [] tYesD := ⟨⟨fun pins s σ H Q I hw => by
  obtain ⟨ρ, st, R, re, S, h, q⟩ := hw
  exact (pts_nil (X := X)).run pins s σ H Q I (q true st H h (Ext.refl H) S)⟩⟩
theorem tsd_one {J : Hid} {X : Cx} {c : Expr} {t : TTD} (h : PTD J X c t) : PTsD J X [c] t := ⟨pts_one h⟩
/-- the items from here on; the new list stands at p -/
def compD {α : Type} (grd : Stor → Prop) (g : α → Rho → Stor → (Rho → Stor → Prop) → Prop) (c : TTD) (e : TED) (ρ : Rho) (p : Addr) (R : Stor → Prop) : List α → List D → Stor → Prop
  | [], _, st => grd st ∧ R st
  | x :: xs, acc, st => grd st ∧ ∃ N : Option D → Stor → Prop, (g x ρ st fun ρ1 s1 => c ρ1 s1 fun b s2 => if b = true then e ρ1 s2 fun v s3 => N (some v) s3 else N none s2) ∧
      (∀ v s3, N (some v) s3 → ∃ s4, Sub s4 s3 ∧ s4 p = some (.lst acc) ∧ acc.length < sizeLine ∧ compD grd g c e ρ p R xs (acc ++ [v]) (put s4 p (.lst (acc ++ [v])))) ∧
      (∀ s3, N none s3 → ∃ s4, Sub s4 s3 ∧ compD grd g c e ρ p R xs acc s4)
def tLcD {α : Type} (it : TID α) (g : α → Rho → Stor → (Rho → Stor → Prop) → Prop) (c : TTD) (e : TED) (vs : List Nat) : TED := fun ρ st R =>
  it ρ st fun items grd s1 => ∀ p, s1 p = none → compD grd g c e (wipeD ρ vs) p (fun s2 => R (.ref p) s2) items [] (put s1 p (.lst []))
section
variable {α : Type} {J : Hid} {X : Cx} {Y : YD α} {elt tg iter : Expr} {ifs : List Expr} {scope : Scope} {own : List (Str × Nat)} {pos : Pos} {it : TID α} {tv : TG} {g : α → Rho → Stor → (Rho → Stor → Prop) → Prop} {tt : TTD} {te : TED}
theorem up_lc (tgk : TgOk X.K Y (own.map (·.2)) tv g) {σ : L2.St} {H : Hp} {Q : VK} (h : upE X.K J (tLcD it g tt te (own.map (·.2))) σ H Q) : tLc (upI X.K J Y it) tv (upT X.K J tt) (upE X.K J te) (own.map (·.2)) σ H Q := by
  obtain ⟨ρ, st, R, re, S, h, q⟩ := h
  refine ⟨ρ, st, _, re, S, h, fun items grd s1 Ji H1 hl e1 S1 W D hD => ?_⟩
  have hl := hl D (S1.fresh hD)
  refine ⟨fun i m H' => m = items.length - i ∧ i ≤ items.length ∧ ∃ acc s2, SimS X.K J s2 H' ∧ Ext H1 H' ∧ compD grd g tt te (wipeD ρ (own.map (·.2))) D (fun s3 => R (.ref D) s3) (items.drop i) acc s2,
    ⟨items.length, by simp, Nat.zero_le _, [], _, S1.newL hD .nil, Ext.new hD, by simpa using hl⟩, ?_⟩
  rintro i m H' ⟨rfl, hi, acc, s2, S2, e2, hc⟩
  by_cases hlt : i < items.length
  · rw [← List.getElem_cons_drop hlt] at hc
    obtain ⟨hg, N, hN, hs, hn⟩ := hc
    refine .inr ⟨W.goes i H' s2 hlt e2 S2 hg, fun H2 => ∃ acc s3, SimS X.K J s3 H2 ∧ Ext H1 H2 ∧ compD grd g tt te (wipeD ρ (own.map (·.2))) D (fun s3 => R (.ref D) s3) (items.drop (i + 1)) acc s3, fun H2 ⟨acc, s3, S3, e3, c3⟩ => ⟨_, by omega, rfl, hlt, acc, s3, S3, e3, c3⟩, fun x H2 hy => ?_⟩
    obtain ⟨d, hd, e3, S3, y⟩ := W.yields i H' s2 x H2 hlt e2 S2 hg hy
    have ed : items[i] = d := by
      rw [List.getElem?_eq_getElem hlt] at hd
      exact Option.some.inj hd
    rw [ed] at hN
    refine tgk x _ H2 _ d _ s2 _ y (((re.ext e1).wipe _).ext (e2.trans e3)) hN fun ρ1 σ1 h1 r1 w1 => ?_
    refine ⟨w1.trans (wipe_idem _), ρ1, s2, _, r1, S3, h1, fun b s4 H4 hb e4 S4 => ?_⟩
    cases b with
    | true =>
      rw [if_pos rfl] at hb
      refine iteT ⟨ρ1, s4, _, r1.ext e4, S4, hb, fun v s5 w H5 hv e5 S5 rv => ?_⟩
      obtain ⟨s6, sub, h6, hz, hc6⟩ := hs v s5 hv
      have S6 := S5.sub sub
      obtain ⟨ws, eD, rws⟩ := S6.lst h6
      exact ⟨ws, eD, by rw [← rws.len]; exact hz, _, _, S6.setL h6 eD (rws.snoc rv), (e2.trans (e3.trans (e4.trans e5))).trans (Ext.lst eD), hc6⟩
    | false =>
      rw [if_neg Bool.false_ne_true] at hb
      obtain ⟨s6, sub, hc6⟩ := hn s4 hb
      exact iteF ⟨acc, s6, S4.sub sub, e2.trans (e3.trans e4), hc6⟩
  · have ei : i = items.length := by omega
    subst ei
    rw [List.drop_length] at hc
    exact .inl ⟨W.stops H' s2 e2 S2 hc.1, q _ s2 _ H' hc.2 (e1.trans e2) S2 rep_ref⟩
theorem ed_lc (hc : X.calm = true) (hN : X.N.Nodup) (hi : PID J X Y tg iter it) (ok : BlkOk X.N X.env.scope scope own) (tgk : TgOk X.K Y (own.map (·.2)) tv g)
    (hg : ∀ (s : Shared) (H : Hp) (C : Addr) (cl : List (Str × Addr)) (fp : List Addr), PG (X.blk s H scope (compEnvC scope cl C X.env) fp) tg tv) (ht : ∀ (s : Shared) (H : Hp) (C : Addr) (cl : List (Str × Addr)) (fp : List Addr), PTsD J (X.blk s H scope (compEnvC scope cl C X.env) fp) ifs tt)
    (he : ∀ (s : Shared) (H : Hp) (C : Addr) (cl : List (Str × Addr)) (fp : List Addr), PED J (X.blk s H scope (compEnvC scope cl C X.env) fp) elt te) (hs : ∀ x, foldedSetIterable iter X.env x = pure x := by intro _; rfl) :
    PED J X (.ListComp elt [⟨tg, iter, ifs, 0⟩] scope pos) (tLcD it g tt te (own.map (·.2))) :=
  PE.imp (pe_lc (tt := upT X.K J tt) (te := upE X.K J te) hc hN hi ok hg (fun s H C cl fp => (ht s H C cl fp).h) (fun s H C cl fp => he s H C cl fp) hs) fun σ H Q h => up_lc tgk h
theorem sd_setLc {i : Nat} {y : Str} {py spos : Pos} (hc : X.calm = true) (hN : X.N.Nodup) (hi : PID J X Y tg iter it) (ok : BlkOk X.N X.env.scope scope own) (tgk : TgOk X.K Y (own.map (·.2)) tv g)
    (hg : ∀ (s : Shared) (H : Hp) (C : Addr) (cl : List (Str × Addr)) (fp : List Addr), PG (X.blk s H scope (compEnvC scope cl C X.env) fp) tg tv) (ht : ∀ (s : Shared) (H : Hp) (C : Addr) (cl : List (Str × Addr)) (fp : List Addr), PTsD J (X.blk s H scope (compEnvC scope cl C X.env) fp) ifs tt)
    (he : ∀ (s : Shared) (H : Hp) (C : Addr) (cl : List (Str × Addr)) (fp : List Addr), PED J (X.blk s H scope (compEnvC scope cl C X.env) fp) elt te)
    (hsw : swapsWith (.ListComp elt [⟨tg, iter, ifs, 0⟩] scope pos) (some (.Name y py)) spos.line X.env = pure true)
    (hy : X.N[i]? = some y := by rfl) (hyl : X.env.scope.names.lookup y = some .local := by rfl) (hs : ∀ x, foldedSetIterable iter X.env x = pure x := by intro _; rfl) :
    PSD J X (.Assign [.Name y py] (.ListComp elt [⟨tg, iter, ifs, 0⟩] scope pos) spos) (sAsgD (tLcD it g tt te (own.map (·.2))) (gNameD i)) := by
  refine PS.imp (ps_setLc (i := i) (tt := upT X.K J tt) (te := upE X.K J te) hc hN hy hyl hsw hi ok hg (fun s H C cl fp => (ht s H C cl fp).h) (fun s H C cl fp => he s H C cl fp) hs) fun D σ H h => ?_
  obtain ⟨ρ, st, E, re, S, h, q⟩ := h
  show tLc _ _ _ _ _ σ H _
  refine up_lc tgk ⟨ρ, st, _, re, S, h, fun d s1 v H1 hd e1 S1 rd => ?_⟩
  exact q.nx _ s1 _ H1 hd e1 S1 ((re.ext e1).set rd i)
end
/-- forgetting a part of the store behind an expression -/
def tForget (t : TED) : TED := fun ρ st R => t ρ st fun d s1 => ∃ s2, Sub s2 s1 ∧ R d s2
theorem ed_forget {J : Hid} {X : Cx} {e : Expr} {t : TED} (h : PED J X e t) : PED J X e (tForget t) := PE.imp h fun σ H Q ⟨ρ, st, R, re, S, h, q⟩ =>
  ⟨ρ, st, _, re, S, h, fun d s1 v H1 ⟨s2, sub, hd⟩ e1 S1 rd => q d s2 v H1 hd e1 (S1.sub sub) rd⟩

/-! ### defs -/
abbrev SpD := List D → Stor → KD → Prop
def spUp (K : PySem.W.Frag) (J : Hid) (sp : SpD) : Sp := fun vs H Q _ => ∃ ds st R, Reps K H ds vs ∧ SimS K J st H ∧ sp ds st R ∧ After K J H R Q
def endsD (R : KD) : EndsD := { nx := fun _ st => ∃ s2, Sub s2 st ∧ R .non s2, rt := fun d st => ∃ s2, Sub s2 st ∧ R d s2 }
def startD (n : Nat) (ds : List D) : Rho := ds.map some ++ List.replicate (n - ds.length) none
section
variable {P : Program} {w : World} {K : PySem.W.Frag} {mg : Str → Option Value} {base : Heap} {J : Hid}
theorem repE_start {H : Hp} {N : List Str} {ds : List D} {vs : List V} (r : Reps K H ds vs) : RepE K H (startD N.length ds) (L2.start N vs) := by
  refine ⟨by simp [startD, L2.start, r.len], fun i d h => ?_⟩
  unfold startD at h
  unfold L2.start
  by_cases hi : i < ds.length
  · rw [List.getElem?_append_left (by simpa using hi), List.getElem?_map] at h
    cases e : ds[i]? with
    | none => rw [e] at h; cases h
    | some d' =>
      rw [e] at h
      cases h
      obtain ⟨v, h1, h2⟩ := r.get e
      exact ⟨v, by rw [List.getElem?_append_left (by rw [List.length_map, ← r.len]; exact hi), List.getElem?_map, h1]; rfl, h2⟩
  · rw [List.getElem?_append_right (by simpa using hi)] at h
    rw [List.getElem?_replicate] at h
    split at h <;> cases h
/-- a def: its body's reading keeps the promise -/
theorem fn_okD {x qual : Str} {st : Stmt} {f : Addr} {fd : FuncData} {N ps : List Str} {k : Nat} {sp : SpD} {t : TSD} (F : Fun K x qual st f fd) (S : FnScope N ps (defScope st)) (len : ∀ ds s R, sp ds s R → ds.length = ps.length)
    (hbody : ∀ (cdv : Value) (A : Around) (outer : List Env) (s : Shared) (H : Hp) (E : XK), Room k (A.deeper (envOfC qual (defScope st) s.heap.objs.size f cdv)) → PSsD J (cxOf CX0 P w K mg base N qual (defScope st) f cdv A outer s H E).nox (defBody st) t)
    (hsp : ∀ ds s R, sp ds s R → t (endsD R) (startD N.length ds) s) : FnOk P w K mg base CX0 (k + 1) f fd ps (spUp K J sp) := by
  refine F.ok S (fun vs H Q E ⟨ds, s, R, rs, _, h, _⟩ => by rw [← rs.len]; exact len ds s R h) fun cdv A outer s H vs Q E hr h => ?_
  obtain ⟨ds, st', R, rs, SS, h, q⟩ := h
  refine ⟨_, hbody cdv A outer s H E hr, startD N.length ds, st', endsD R, repE_start rs, SS, hsp ds st' R h, ⟨?_, ?_, fun _ _ _ _ z => z.elim, fun _ _ _ _ z => z.elim⟩⟩
  · exact fun ρ' s' σ' H' ⟨s2, sub, hr⟩ e S' _ => q .non s2 .non H' hr e (S'.sub sub) rep_non
  · exact fun d s' v H' ⟨s2, sub, hr⟩ e S' r => q d s2 v H' hr e (S'.sub sub) r
variable {X : Cx} {e : Expr} {es : List Expr} {t : TAD} {k : Nat} {f : Addr} {fd : FuncData} {ps : List Str} {sp : SpD} {p pos : Pos} {x : Str}
theorem ed_call (F : FnOk X.prog X.w X.K X.mg X.base CX0 k f fd ps (spUp X.K J sp)) (hr : Room k X.A) (hm : X.mg x = some (.ref f)) (hk : PySem.W.keepIn X.K (.ref f) = true) (hb : Binds X.K fd ps []) (ha : PAD J X (e :: es) t) (hg : Gl X x := by rfl)
    (hdb : (x == ("__debug__" : Str)) = false := by decide) (he : starEach (e :: es) X.env = (false, eval e X.env) :: starEach es X.env := by rfl) (hpl : (backTo pos (starEach es X.env)).any (·.1) = false := by rfl) :
    PED J X (.Call (.Name x p) (e :: es) [] pos) (tCallD sp t) := by
  refine PE.imp (pe_call F hr hg hm hk hb .nil pass0 ha hdb he hpl) fun σ H Q h => ?_
  obtain ⟨ρ, st, R, re, S, h, q⟩ := h
  refine ⟨ρ, st, _, re, S, h, fun ds s1 vs H1 hd e1 S1 rs => ?_⟩
  show spUp X.K J sp (vs ++ []) H1 Q E0
  rw [List.append_nil]
  exact ⟨ds, s1, R, rs, S1, hd, q.ext e1⟩
end
end DL
-- text DLF
set_option Elab.async false
set_option linter.all false
set_option maxRecDepth 100000
set_option maxHeartbeats 1000000
/-! DLF: defs by name, built-ins by name -/
namespace DL
open PySem PySem.Spec PyProof.Rows L2

/-- a def as the top has left it -/
structure FnAt (K : PySem.W.Frag) (x : Str) (st : Stmt) : Prop where
  ex : ∃ (f : Addr) (oc : Value) (od : Option Addr) (kV doc pm : Value) (an : Option Addr) (cdv ct : Value) (osl : Array (Option Value)),
    PySem.W.nsIn K mainGlobals x = some (some (.ref f)) ∧ K.lookup f = some ⟨oc, od, .func (PySem.W.fnOf x x (defArgs st) (defBody st) (defScope st) .none kV doc pm an cdv ct), osl⟩ ∧ PySem.W.codeIn K cdv x = true ∧ PySem.W.keepIn K (.ref f) = true
theorem fnAt {K : PySem.W.Frag} {x : Str} {st : Stmt} {f : Addr} {oc : Value} {od : Option Addr} {kV doc pm : Value} {an : Option Addr} {cdv ct : Value} {osl : Array (Option Value)}
    (a : PySem.W.nsIn K mainGlobals x = some (some (.ref f))) (l : K.lookup f = some ⟨oc, od, .func (PySem.W.fnOf x x (defArgs st) (defBody st) (defScope st) .none kV doc pm an cdv ct), osl⟩) (c : PySem.W.codeIn K cdv x = true) (k : PySem.W.keepIn K (.ref f) = true) : FnAt K x st :=
  ⟨f, oc, od, kV, doc, pm, an, cdv, ct, osl, a, l, c, k⟩
/-- a def with its promise, as a caller uses it -/
structure DefD (P : Program) (w : World) (K : PySem.W.Frag) (mg : Str → Option Value) (base : Heap) (J : Hid) (x : Str) (k : Nat) (ps : List Str) (sp : SpD) : Prop where
  ex : ∃ (f : Addr) (fd : FuncData), FnOk P w K mg base CX0 k f fd ps (spUp K J sp) ∧ mg x = some (.ref f) ∧ PySem.W.keepIn K (.ref f) = true ∧ L2.Binds K fd ps []
section
variable {P : Program} {w : World} {K : PySem.W.Frag} {mg : Str → Option Value} {base : Heap} {J : Hid}
theorem defD {x : Str} {st : Stmt} {N ps : List Str} {k : Nat} {sp : SpD} {t : TSD} {h : Heap} (KX : K.In h) (G : h.Ns mainGlobals mg) (F : FnAt K x st) (S : FnScope N ps (defScope st))
    (hb : ∀ (kV doc pm : Value) (an : Option Addr) (cdv ct : Value) (us : List Value), us.length = ps.length → bindArgs (PySem.W.fnOf x x (defArgs st) (defBody st) (defScope st) .none kV doc pm an cdv ct) ⟨us, []⟩ = pure (ps.zip us))
    (len : ∀ ds s R, sp ds s R → ds.length = ps.length)
    (hbody : ∀ (f : Addr) (cdv : Value) (A : Around) (outer : List Env) (s : Shared) (H : Hp) (E : XK), Room k (A.deeper (envOfC x (defScope st) s.heap.objs.size f cdv)) → PSsD J (cxOf CX0 P w K mg base N x (defScope st) f cdv A outer s H E).nox (defBody st) t)
    (hsp : ∀ ds s R, sp ds s R → t (endsD R) (startD N.length ds) s) : DefD P w K mg base J x (k + 1) ps sp := by
  obtain ⟨f, oc, od, kV, doc, pm, an, cdv, ct, osl, a, l, c, kp⟩ := F.ex
  have F1 := fun_mk (st := st) l c kp
  exact ⟨f, _, fn_okD F1 S len (hbody f) hsp, PySem.W.mg_of KX G a, kp, F1.binds hb⟩
variable {X : Cx} {e : Expr} {es : List Expr} {t : TAD} {k : Nat} {ps : List Str} {sp : SpD} {p pos : Pos} {x : Str}
theorem ed_callD (F : DefD X.prog X.w X.K X.mg X.base J x k ps sp) (hr : Room k X.A) (ha : PAD J X (e :: es) t) (hg : Gl X x := by rfl)
    (hdb : (x == ("__debug__" : Str)) = false := by decide) (he : starEach (e :: es) X.env = (false, eval e X.env) :: starEach es X.env := by rfl) (hpl : (backTo pos (starEach es X.env)).any (·.1) = false := by rfl) :
    PED J X (.Call (.Name x p) (e :: es) [] pos) (tCallD sp t) := by
  obtain ⟨f, fd, h1, h2, h3, h4⟩ := F.ex
  exact ed_call h1 hr h2 h3 h4 ha hg hdb he hpl
/-- a weaker promise -/
theorem DefD.imp {J' : Hid} {sp' : SpD} (F : DefD P w K mg base J x k ps sp) (h : ∀ vs H Q E, spUp K J' sp' vs H Q E → spUp K J sp vs H Q E) : DefD P w K mg base J' x k ps sp' := by
  obtain ⟨f, fd, h1, h2, h3, h4⟩ := F.ex
  exact ⟨f, fd, h1.imp h, h2, h3, h4⟩
end

/-! ### built-ins -/
/-- the top binds none of these -/
structure NoG (mg : Str → Option Value) : Prop where
  len : mg "len" = none
  range : mg "range" = none
  tuple : mg "tuple" = none
  list : mg "list" = none
  int : mg "int" = none
  str : mg "str" = none
  bool : mg "bool" = none
  dict : mg "dict" = none
  isinstance : mg "isinstance" = none
  enumerate : mg "enumerate" = none
  zip : mg "zip" = none
  sorted : mg "sorted" = none
  abs : mg "abs" = none
  max : mg "max" = none
  min : mg "min" = none
  sum : mg "sum" = none
  set : mg "set" = none
  any : mg "any" = none
  all : mg "all" = none
theorem bt_abs : bootBuiltins "abs" = some (.builtin "abs") := by decide +kernel
theorem bt_max : bootBuiltins "max" = some (.builtin "max") := by decide +kernel
theorem bt_min : bootBuiltins "min" = some (.builtin "min") := by decide +kernel
theorem bt_int : bootBuiltins "int" = some (.type Tn.int.name) := by decide +kernel
theorem bt_str : bootBuiltins "str" = some (.type Tn.str.name) := by decide +kernel
theorem bt_bool : bootBuiltins "bool" = some (.type Tn.bool.name) := by decide +kernel
theorem bt_tuple : bootBuiltins "tuple" = some (.type Tn.tuple.name) := by decide +kernel
theorem bt_list : bootBuiltins "list" = some (.type Tn.list.name) := by decide +kernel
theorem bt_dict : bootBuiltins "dict" = some (.type Tn.dict.name) := by decide +kernel
theorem bt_len : bootBuiltins "len" = some (.builtin "len") := by decide +kernel
section
variable {J : Hid} {X : Cx} {e : Expr} {es : List Expr} {t : TAD} {p pos : Pos}
theorem ed_lenD (m : NoG X.mg) (ha : PAD J X (e :: es) t) (hg : Gl X "len" := by rfl) (he : starEach (e :: es) X.env = (false, eval e X.env) :: starEach es X.env := by rfl) (hpl : (backTo pos (starEach es X.env)).any (·.1) = false := by rfl) : PED J X (.Call (.Name "len" p) (e :: es) [] pos) (tCallD dLen t) :=
  ed_bltn cd_len m.len bt_len ha hg (by decide) (by decide) he hpl
theorem ed_absD (m : NoG X.mg) (ha : PAD J X (e :: es) t) (hg : Gl X "abs" := by rfl) (he : starEach (e :: es) X.env = (false, eval e X.env) :: starEach es X.env := by rfl) (hpl : (backTo pos (starEach es X.env)).any (·.1) = false := by rfl) : PED J X (.Call (.Name "abs" p) (e :: es) [] pos) (tCallD dAbs t) :=
  ed_bltn cd_abs m.abs bt_abs ha hg (by decide) (by decide) he hpl
theorem ed_max2 (m : NoG X.mg) (hc : X.calm = true) (ha : PAD J X (e :: es) t) (hg : Gl X "max" := by rfl) (he : starEach (e :: es) X.env = (false, eval e X.env) :: starEach es X.env := by rfl) (hpl : (backTo pos (starEach es X.env)).any (·.1) = false := by rfl) : PED J X (.Call (.Name "max" p) (e :: es) [] pos) (tCallD dMax2 t) :=
  ed_bltn (cd_max2 hc) m.max bt_max ha hg (by decide) (by decide) he hpl
theorem ed_min2 (m : NoG X.mg) (hc : X.calm = true) (ha : PAD J X (e :: es) t) (hg : Gl X "min" := by rfl) (he : starEach (e :: es) X.env = (false, eval e X.env) :: starEach es X.env := by rfl) (hpl : (backTo pos (starEach es X.env)).any (·.1) = false := by rfl) : PED J X (.Call (.Name "min" p) (e :: es) [] pos) (tCallD dMin2 t) :=
  ed_bltn (cd_min2 hc) m.min bt_min ha hg (by decide) (by decide) he hpl
theorem ed_intD (m : NoG X.mg) (ha : PAD J X (e :: es) t) (hg : Gl X "int" := by rfl) (he : starEach (e :: es) X.env = (false, eval e X.env) :: starEach es X.env := by rfl) (hpl : (backTo pos (starEach es X.env)).any (·.1) = false := by rfl) : PED J X (.Call (.Name "int" p) (e :: es) [] pos) (tCallD dInt t) :=
  ed_type cd_int m.int bt_int ha hg (by decide) (by decide) he hpl
theorem ed_listD (m : NoG X.mg) (ha : PAD J X (e :: es) t) (hg : Gl X "list" := by rfl) (he : starEach (e :: es) X.env = (false, eval e X.env) :: starEach es X.env := by rfl) (hpl : (backTo pos (starEach es X.env)).any (·.1) = false := by rfl) : PED J X (.Call (.Name "list" p) (e :: es) [] pos) (tCallD dList t) :=
  ed_type cd_list m.list bt_list ha hg (by decide) (by decide) he hpl
theorem ed_tupleD (m : NoG X.mg) (ha : PAD J X (e :: es) t) (hg : Gl X "tuple" := by rfl) (he : starEach (e :: es) X.env = (false, eval e X.env) :: starEach es X.env := by rfl) (hpl : (backTo pos (starEach es X.env)).any (·.1) = false := by rfl) : PED J X (.Call (.Name "tuple" p) (e :: es) [] pos) (tForget (tCallD dTuple t)) :=
  ed_forget (ed_type cd_tuple m.tuple bt_tuple ha hg (by decide) (by decide) he hpl)
/-- a module's name for math.gcd -/
theorem ed_gcdD {x : Str} (hm : X.mg x = some (.builtin "math.gcd")) (ha : PAD J X (e :: es) t) (hg : Gl X x := by rfl) (hdb : (x == ("__debug__" : Str)) = false := by decide) (he : starEach (e :: es) X.env = (false, eval e X.env) :: starEach es X.env := by rfl) (hpl : (backTo pos (starEach es X.env)).any (·.1) = false := by rfl) :
    PED J X (.Call (.Name x p) (e :: es) [] pos) (tCallD dGcd t) := PE.imp (pe_callBfun cd_gcd hg hm ha hdb he hpl) fun _ _ _ h => up_call h
theorem hu_room {k : Nat} {A : Around} (hr : Room k A) : A.units + 61 < cLine := by have := hr.un; omega
end
end DL
-- text DLG
set_option Elab.async false
set_option linter.all false
set_option maxRecDepth 100000
set_option maxHeartbeats 2000000
/-! DLG: enumerate of a tuple or a list -/
namespace PySem
open Sem (wp)
open AutoSeq1 (wpAny_loadPart')
theorem dlMeetsEnumT (l : Addr) (items : Array Value) (n : Nat) (dct : Option Addr) (sl : Array (Option Value)) :
    Meets (Builtin.«enumerate.__new__» ⟨[.type "enumerate", .ref l], []⟩) (fun _ R s => s.heap.get? l = some { cls := .type "tuple", dict := dct, data := .seq items n, slots := sl } ∧
      R (.ok (.ret (.ref (s.heap.push { cls := .type "tuple_iterator", data := .fields #[.ref l, .int 0 0] }).objs.size)))
        { s with heap := (s.heap.push { cls := .type "tuple_iterator", data := .fields #[.ref l, .int 0 0] }).push { cls := .type "enumerate", data := .fields #[.none, .bool false, .ref s.heap.objs.size, rawInt 0, .none, .none] } }) :=
  .of_wp fun prog w A R s h => by
    obtain ⟨hp, g, d, tk, os⟩ := s; obtain ⟨hl, h⟩ := h
    have hsub := sub_enumerate
    have hL : Heap.IsTuple (Shared.heap ⟨hp, g, d, tk, os⟩) l items := ⟨_, hl, rfl, n, rfl⟩
    wp_walk using wpAny_loadPart' hl
    refine wpAny_stack_any fun st => wpAny_pure ?_
    split
    · rename_i c _ _ _ _ _
      cases (c == Value.type "enumerate")
      · wp_walk using wpAny_loadPart' hl, wpAny_pyIter_tuple hL
        exact ⟨_, rfl, h⟩
      · wp_walk using wpAny_loadPart' hl, wpAny_pyIter_tuple hL
        exact ⟨_, rfl, h⟩
    · wp_walk using wpAny_loadPart' hl, wpAny_pyIter_tuple hL
      exact ⟨_, rfl, h⟩
section
variable {prog : Program} {w : World} {A : Around} {E : Value → Shared → Prop} {s : Shared}
theorem dl_call_enumerate_tup {l : Addr} {items : Array Value} {Q : Value → Shared → Prop} (hL : s.heap.IsTuple l items)
    (h : ∀ h', IsEnum h' (s.heap.objs.size + 1) s.heap.objs.size 0 .none → h'.IsTupleIter s.heap.objs.size l 0 → h'.objs.size = s.heap.objs.size + 2 →
      (∀ b o, s.heap.get? b = some o → h'.get? b = some o) → Q (.ref (s.heap.objs.size + 1)) { s with heap := h' }) :
    wpAny (model prog w) A (call (.type "enumerate") [.ref l]) Q E s := by
  obtain ⟨⟨c, dct, dt, sl⟩, hl, hc, n, hd⟩ := hL
  replace hc : c = .type "tuple" := hc
  replace hd : dt = .seq items n := hd
  subst hc hd
  refine callType_new F.called_enumerate (by decide) (F.typeCall_enumerate_1 _) (F.newCall_enumerate_1 _) (fun obj => F.args_object_init_2 obj _) F.entry_enumerate_new
    (dlMeetsEnumT l items n dct sl) ⟨hl, ?_⟩
  have hz : (s.heap.push { cls := .type "tuple_iterator", data := .fields #[.ref l, .int 0 0] }).objs.size = s.heap.objs.size + 1 := Heap.size_push ..
  show _ ∧ _
  rw [hz]
  have he : IsEnum ((s.heap.push { cls := .type "tuple_iterator", data := .fields #[.ref l, .int 0 0] }).push
      { cls := .type "enumerate", data := .fields #[.none, .bool false, .ref s.heap.objs.size, rawInt 0, .none, .none] }) (s.heap.objs.size + 1) s.heap.objs.size 0 .none := by
    have := Heap.get?_push_size (s.heap.push { cls := .type "tuple_iterator", data := .fields #[.ref l, .int 0 0] })
      (o := { cls := .type "enumerate", data := .fields #[.none, .bool false, .ref s.heap.objs.size, rawInt 0, .none, .none] }) rfl
    rw [hz] at this; exact this
  refine ⟨⟨_, he, rfl⟩, h _ he ⟨_, Heap.get?_push_of_some _ (Heap.get?_push_size _ rfl), rfl, rfl⟩ (by rw [Heap.size_push, hz]) fun b o x => Heap.get?_push_of_some _ (Heap.get?_push_of_some _ x)⟩
theorem dl_pyNext_enumT_end {e it l : Addr} {i : Nat} {items : Array Value} {old : Value} {Q : Option Value → Shared → Prop} (hh : A.handled = none)
    (he : IsEnum s.heap e it i old) (hit : s.heap.IsTupleIter it l i) (hl : s.heap.IsTuple l items) (hx : items[i]? = none)
    (hQ : ∀ h', Heap.ExtBut it s.heap h' → Q none { s with heap := h' }) : wpAny (model prog w) A (pyNext (.ref e)) Q E s := by
  have hT : s.TypeIs (.ref e) "enumerate" := ⟨_, he, rfl⟩
  unfold pyNext
  refine wpAny_bind (wpAny_attempt (wpAny_callSpecial?_slot (name := Str.ofString "__next__") hT F.slot_enumerate_next
    (wpAny_call_entry F.slot_enumerate_next hT F.entry_enumerate_next ?_ (F.args_enumerate_next_1 _))))
  show wpAny _ _ (field (.ref e) 2 >>= _) _ _ _
  refine wpAny_bind (wpAny_field he rfl (x := .ref it) rfl ?_)
  refine wpAny_bind (wpAny_nextOf_tuple_end hh hit hl hx fun h' x he' hx' => ?_)
  obtain ⟨o, ho, hc⟩ := hx'
  refine wpAny_bind (wpAny_isInstance (T := "StopIteration") (b := true) ⟨o, ho, hc⟩ isSubtype_stop ?_)
  exact wpAny_pure (hQ _ he')
end
end PySem
namespace DL
open PySem PySem.Spec PyProof.Rows L2
/-- the tuple at a as it stands, each item in a new pair -/
def IteT (K : PySem.W.Frag) (a : Addr) : It :=
  ⟨fun i H => ∃ (xs : List V) (x : V), SqT K H a xs ∧ xs[i]? = some x, fun i H v H' => ∃ T x, v = .ref T ∧ H T = none ∧ H' = upd H T (.tup [.int (i : Nat), x]) ∧ ∀ xs, SqT K H a xs → xs[i]? = some x, fun i H => ∃ xs : List V, SqT K H a xs ∧ xs.length ≤ i⟩
theorem turn_enumT {P : Program} {w : World} {K : PySem.W.Frag} {elts : List Expr} {kk : Nat} {tpos : Pos} (a e it : Addr) :
    Turn P w K (.Tuple elts kk tpos) (IteT K a) [e, it] e (fun i h => (∃ old, IsEnum h e it ((i : Nat) : Int) old) ∧ h.IsTupleIter it a i ∧ e ≠ it) where
  mem := by simp
  obj := fun i h st b hb => by
    obtain ⟨⟨old, he⟩, ⟨o, ho, hc, hd⟩, _⟩ := st
    have e' : b = e ∨ b = it := by simpa using hb
    rcases e' with z | z
    · rw [z]; exact ⟨_, he, fun v q => nomatch q⟩
    · rw [z]; exact ⟨o, ho, fun v q => by rw [hd] at q; cases q⟩
  keep := fun i h h' st k => let ⟨⟨old, he⟩, hi, hne⟩ := st; ⟨⟨old, k e (by simp) _ he⟩, hi.at fun o q => k it (by simp) o q, hne⟩
  item := by
    intro X hP hw hK hc i pins s σ H E I hf st hg
    subst hP hw hK
    obtain ⟨⟨old, he⟩, hit, hne⟩ := st
    obtain ⟨xs, x, hq, hx⟩ := hg
    obtain ⟨its, rv, p, hz⟩ := I.tuple hq
    obtain ⟨u, hu, ru⟩ := rv.get hx
    have hel : e < s.heap.objs.size := Heap.lt_size he
    have hil : it < s.heap.objs.size := by obtain ⟨_, q, _⟩ := hit; exact Heap.lt_size q
    have hea : e ≠ a := fun z => by
      subst z
      obtain ⟨o, ho, hcl, _⟩ := p
      rw [he] at ho
      cases ho
      exact absurd (show Value.type "enumerate" = Value.type "tuple" from hcl) (by decide)
    have hia : a ≠ it := fun z => by
      subst z
      obtain ⟨o, ho, hcl, _⟩ := p
      obtain ⟨o2, ho2, hcl2, _⟩ := hit
      rw [ho2] at ho
      cases ho
      rw [hcl2] at hcl
      exact absurd hcl (by decide)
    have hlt : i < its.toArray.size := by
      obtain ⟨h1, _⟩ := List.getElem?_eq_some_iff.mp hu
      simpa using h1
    refine wpAny_pyNext_enum_itemD (Draws.tuple (A := X.A.in1) (I.ok.hd hc) it a hia its.toArray) he ⟨hit, p⟩ hlt hne (by simp [hne, hea]) fun y h' tk hy ho hit' hT hsz hk => ?_
    have hy2 : y = u := by
      have : its[i]? = some y := by simpa using hy
      rw [hu] at this
      exact (Option.some.inj this).symm
    subst hy2
    refine ⟨_, rfl, wpAny_letOwnedTupleGo_enum (s := { s with heap := h', toks := tk + 1 }) ho fun h'' he' sb => ?_⟩
    have hT2 : h''.get? s.heap.objs.size = some { cls := .type "tuple", data := .seq #[.int i tk, y] } := (sb.2 _ (Nat.ne_of_gt hel)).trans hT
    have new : ObjOk X.prog X.w (upd H s.heap.objs.size (.tup [.int (i : Nat), x])) h'' s.heap.objs.size (.tup [.int (i : Nat), x]) :=
      ⟨by show 2 ≤ sizeLine; decide, [.int i tk, y], .cons ⟨_, rfl⟩ (.cons ru .nil), ⟨_, hT2, rfl, _, rfl⟩⟩
    have I1 : Inv X pins σ (upd H s.heap.objs.size (.tup [.int (i : Nat), x])) { s with heap := h'', toks := tk + 1 } :=
      I.turnedNew (ch := [e, it]) (fun b ob hb q => (sb.2 b (fun z => hb (by simp [z]))).trans (hk b ob (fun z => hb (by simp [z])) (fun z => hb (by simp [z])) q)) hf (Nat.le_refl _) new
    refine ⟨.ref s.heap.objs.size, _, I1, rfl, ⟨_, x, rfl, I.hok.fresh (Nat.le_refl _), rfl, fun ys hy => by rw [I.tuple_inj hy hq]; exact hx⟩, ⟨⟨y, ?_⟩, hit'.1.at fun o q => (sb.2 it (Ne.symm hne)).trans q, hne⟩, fun b hb => ?_⟩
    · have e1 : ((i + 1 : Nat) : Int) = (i : Int) + 1 := by omega
      rw [e1]; exact he'
    · have hb' : b < s.heap.objs.size := by
        have e' : b = e ∨ b = it := by simpa using hb
        rcases e' with z | z
        · rw [z]; exact hel
        · rw [z]; exact hil
      rw [upd_ne (Nat.ne_of_lt hb')]
      exact (hf b hb).1
  done := by
    intro X hP hw hK hc i pins s σ H E I hf st hg
    subst hP hw hK
    obtain ⟨⟨old, he⟩, hit, hne⟩ := st
    obtain ⟨xs, hq, hx⟩ := hg
    obtain ⟨its, rv, p, hz⟩ := I.tuple hq
    obtain ⟨f0, f1, f2, f3, f4, f5⟩ := hf it (by simp)
    have hl := rv.length
    have hia : a ≠ it := fun z => by
      subst z
      obtain ⟨o, ho, hcl, _⟩ := p
      obtain ⟨o2, ho2, hcl2, _⟩ := hit
      rw [ho2] at ho
      cases ho
      rw [hcl2] at hcl
      exact absurd hcl (by decide)
    exact dl_pyNext_enumT_end (I.ok.hd hc) he hit p (by simp; omega) fun h' eb => ⟨rfl, I.turned (t' := s.toks) (fun b o hb q => eb b o hb q) f0 f1 f3 f4 f5⟩
  self := fun A i s Q E st h => let ⟨⟨_, he⟩, _⟩ := st; wpAny_pyIter_enum he h
/-- enumerate(list or tuple) -/
theorem pi_enumA {X : Cx} {e : Expr} {te : TE} {p pos tpos : Pos} {elts : List Expr} {kk : Nat} (hg : Gl X "enumerate") (hm : X.mg "enumerate" = none) (he : PE X e te) (hs : starEach [e] X.env = (false, eval e X.env) :: starEach [] X.env := by rfl) :
    PI X (.Tuple elts kk tpos) (.Call (.Name "enumerate" p) [e] [] pos) (fun σ H R => te σ H fun x H1 => ∃ a xs, x = .ref a ∧ ((SqL X.K H1 a xs ∧ R (Ite X.K a) H1) ∨ (SqT X.K H1 a xs ∧ R (IteT X.K a) H1))) := by
  refine ⟨fun pins s σ H R I h => ?_⟩
  refine Call_ (ld_blt I hg hm boot_enumerate (PyProof.Rows.callWith_type1 (args_cons (thn (he.run pins s σ H _ I h) fun u s1 ⟨v, H1, I1, r1, q1⟩ => args_nil ?_) hs) hs rfl))
  obtain ⟨a, xs, ex, q⟩ := q1
  subst ex
  cases r1
  rcases q with ⟨hq, q⟩ | ⟨hq, q⟩
  · obtain ⟨its, rv, p', hz⟩ := I1.list hq
    refine call_enumerate_list p'.isList fun h' he hit hsz hk => wpAny_pyIter_enum he ?_
    have I2 : Inv X pins σ H1 { s1 with heap := h' } := I1.kept (t' := s1.toks) hk
    refine ⟨s1.heap.objs.size + 1, [s1.heap.objs.size + 1, s1.heap.objs.size], _, _, H1, rfl, I2, turn_enum a (s1.heap.objs.size + 1) s1.heap.objs.size, ⟨⟨.none, he⟩, hit, Nat.succ_ne_self _⟩, fun b hb => ?_, q⟩
    have e' : b = s1.heap.objs.size + 1 ∨ b = s1.heap.objs.size := by simpa using hb
    have hle : s1.heap.objs.size ≤ b := by
      rcases e' with z | z
      · rw [z]; exact Nat.le_add_right _ _
      · rw [z]; exact Nat.le_refl _
    exact I1.fpOk hle (I1.hok.fresh hle)
  · obtain ⟨its, rv, p', hz⟩ := I1.tuple hq
    refine dl_call_enumerate_tup (show s1.heap.IsTuple a its.toArray from p') fun h' he hit hsz hk => wpAny_pyIter_enum he ?_
    have I2 : Inv X pins σ H1 { s1 with heap := h' } := I1.kept (t' := s1.toks) hk
    refine ⟨s1.heap.objs.size + 1, [s1.heap.objs.size + 1, s1.heap.objs.size], _, _, H1, rfl, I2, turn_enumT a (s1.heap.objs.size + 1) s1.heap.objs.size, ⟨⟨.none, he⟩, hit, Nat.succ_ne_self _⟩, fun b hb => ?_, q⟩
    have e' : b = s1.heap.objs.size + 1 ∨ b = s1.heap.objs.size := by simpa using hb
    have hle : s1.heap.objs.size ≤ b := by
      rcases e' with z | z
      · rw [z]; exact Nat.le_add_right _ _
      · rw [z]; exact Nat.le_refl _
    exact I1.fpOk hle (I1.hok.fresh hle)
def enumD : Nat → List D → List (List D)
  | _, [] => []
  | k, x :: xs => [.int (k : Nat), x] :: enumD (k + 1) xs
theorem enumD_len : ∀ (k : Nat) (xs : List D), (enumD k xs).length = xs.length
  | _, [] => rfl
  | k, _ :: xs => by rw [enumD, List.length_cons, List.length_cons, enumD_len (k + 1) xs]
theorem enumD_get : ∀ (k : Nat) (xs : List D) (i : Nat), (enumD k xs)[i]? = xs[i]?.map fun x => [.int ((k + i : Nat) : Nat), x]
  | _, [], i => by simp [enumD]
  | k, x :: xs, 0 => by simp [enumD]
  | k, x :: xs, i + 1 => by
    rw [enumD, List.getElem?_cons_succ, List.getElem?_cons_succ, enumD_get (k + 1) xs i]
    rw [show k + 1 + i = k + (i + 1) by omega]
def iEnumD (t : TED) : TID (List D) := fun ρ st R => t ρ st fun d s1 => match d with
  | .tup xs => R (enumD 0 xs) (fun _ => True) s1
  | .ref a => ∃ xs, getL s1 a = some xs ∧ R (enumD 0 xs) (fun s => getL s a = some xs) s1
  | _ => False
section
variable {J : Hid} {X : Cx} {e : Expr} {te : TED} {p pos tpos : Pos} {elts : List Expr} {kk : Nat}
theorem pairY {K : PySem.W.Frag} {st : Stor} {H H' : Hp} {T : Addr} {x y : V} {d f : D} (S : SimS K J st H) (n : H T = none) (e : H' = upd H T (.tup [x, y])) (r1 : Rep K H d x) (r2 : Rep K H f y) : Ext H H' ∧ SimS K J st H' ∧ YTup K H' (.ref T) [d, f] := by
  subst e
  exact ⟨Ext.new n, S.new n, T, [x, y], rfl, SqT.of upd_same, Reps.ext (Ext.new n) _ _ (.cons r1 (.cons r2 .nil))⟩
theorem wd_enumL {K : PySem.W.Frag} {H0 : Hp} {a : Addr} {xs : List D} : WalkD K J YTup H0 (Ite K a) (enumD 0 xs) fun s => getL s a = some xs := by
  refine ⟨fun i H st hi e0 S hg => ?_, fun H st e0 S hg => ?_, fun i H st v H' hi e0 S hg hy => ?_⟩
  · obtain ⟨vs, hs, r⟩ := S.getL hg
    rw [enumD_len] at hi
    exact ⟨vs, vs[i]'(by rw [← r.len]; exact hi), hs, by simp⟩
  · obtain ⟨vs, hs, r⟩ := S.getL hg
    rw [enumD_len]
    exact ⟨vs, hs, by rw [r.len]; exact Nat.le_refl _⟩
  · obtain ⟨vs, hs, r⟩ := S.getL hg
    obtain ⟨T, x, rfl, n, e, hy⟩ := hy
    obtain ⟨d, h1, h2⟩ := r.getV (hy vs hs)
    obtain ⟨e1, S1, y1⟩ := pairY S n e rep_int h2
    exact ⟨[.int (i : Nat), d], by rw [enumD_get, h1, Nat.zero_add]; rfl, e1, S1, y1⟩
theorem wd_enumT {K : PySem.W.Frag} {H0 : Hp} {a : Addr} {xs : List D} {vs : List V} (h : TupOk K H0 a vs) (hr : Reps K H0 xs vs) : WalkD K J YTup H0 (IteT K a) (enumD 0 xs) fun _ => True := by
  refine ⟨fun i H st hi e0 S hg => ?_, fun H st e0 S hg => ?_, fun i H st v H' hi e0 S hg hy => ?_⟩
  · rw [enumD_len] at hi
    exact ⟨vs, vs[i]'(by rw [← hr.len]; exact hi), (e0.tupOk h).sqT, by simp⟩
  · rw [enumD_len]
    exact ⟨vs, (e0.tupOk h).sqT, by rw [hr.len]; exact Nat.le_refl _⟩
  · obtain ⟨T, x, rfl, n, e, hy⟩ := hy
    obtain ⟨d, h1, h2⟩ := hr.getV (hy vs (e0.tupOk h).sqT)
    obtain ⟨e1, S1, y1⟩ := pairY S n e rep_int (Rep.ext e0 _ _ h2)
    exact ⟨[.int (i : Nat), d], by rw [enumD_get, h1, Nat.zero_add]; rfl, e1, S1, y1⟩
theorem id_enum (hm : X.mg "enumerate" = none) (he : PED J X e te) (hg : Gl X "enumerate" := by rfl) (hs : starEach [e] X.env = (false, eval e X.env) :: starEach [] X.env := by rfl) : PID J X YTup (.Tuple elts kk tpos) (.Call (.Name "enumerate" p) [e] [] pos) (iEnumD te) := by
  refine PI.imp (pi_enumA hg hm he hs) fun σ H Rv h => ?_
  obtain ⟨ρ, st, R, re, S, h, q⟩ := h
  refine ⟨ρ, st, _, re, S, h, fun d s1 v H1 hd e1 S1 rd => ?_⟩
  cases d <;> try exact (show False from hd).elim
  · unfold Rep at rd
    obtain ⟨a, vs, rfl, t, r⟩ := rd
    exact ⟨a, vs, rfl, .inr ⟨t.sqT, q _ _ s1 _ H1 hd e1 S1 (wd_enumT t r)⟩⟩
  · unfold Rep at rd
    subst rd
    obtain ⟨xs, hg, hd⟩ := hd
    obtain ⟨vs, hs, _⟩ := S1.getL hg
    exact ⟨_, vs, rfl, .inl ⟨hs, q _ _ s1 _ H1 hd e1 S1 wd_enumL⟩⟩
end
end DL
-- text DLH
set_option Elab.async false
set_option linter.all false
set_option maxRecDepth 100000
set_option maxHeartbeats 2000000
/-! DLH: sorted -/
namespace PySem.W
open PySem PySem.Calls PyProof.Rows PySem.SeqAt
section
variable {prog : Program} {w : World} {A : Around} {E : Value → Shared → Prop} {s : Shared}
theorem dl_call_tuple_lt {Q : Value → Shared → Prop} {l b : Addr} {items items2 : Array Value} {e r : Nat → Bool} (hl : s.heap.IsTuple l items) (hb : s.heap.IsTuple b items2)
    (he : ∀ j (h1 : j < items.size) (h2 : j < items2.size), EqAt A.in1 s items[j] items2[j] (e j)) (hr : ∀ j (h1 : j < items.size) (h2 : j < items2.size), e j = false → RcLt A.in1 s items[j] items2[j] (r j))
    (h : Q (.bool (firstLt e r (decide (items.size < items2.size)) (List.range (min items.size items2.size)))) s) : wpAny (model prog w) A (call (.builtin "tuple.__lt__") [.ref l, .ref b]) Q E s := by
  obtain ⟨⟨cls, dd, data, sl⟩, ho, hc, n, hd⟩ := id hl
  obtain ⟨⟨cls2, dd2, data2, sl2⟩, ho2, hc2, n2, hd2⟩ := id hb
  simp only at hc hd hc2 hd2
  subst hc hd hc2 hd2
  exact call_meets F.slot_tuple_lt ⟨_, ho, rfl⟩ F.entry_tuple_lt (F.args_tuple_lt_2 _ _) (tuple_ltAt l b items items2 n n2 dd dd2 sl sl2 e r) ⟨ho, ho2, he, hr, h⟩
theorem dl_oneLt_tup {f : Bool} {xs ys : List PyData} {a b : Value} {as bs : List Addr} {Q : Bool → Shared → Prop} (ra : Reads s.heap a (.tuple xs) as) (rb : Reads s.heap b (.tuple ys) bs) (h : alike (.tuple xs) (.tuple ys) = true)
    (hu : A.units + min (PyData.tuple xs).depth (PyData.tuple ys).depth < cLine) (hq : Q (dataLt (.tuple xs) (.tuple ys)) s) : wpAny (model prog w) A (oneLt' f a b) Q E s := by
  cases f with
  | false => exact oneLt_alike (f := false) (fun z => by cases z) ra rb h (by intro z; cases z) hu hq
  | true =>
    have hal : alikeAll xs ys = true := by simpa [alike] using h
    cases ra with
    | @tuple l o vs n _ as₁ h1 h2 h3 h4 =>
      cases rb with
      | @tuple l' o' vs' n' _ bs₁ k1 k2 k3 k4 =>
        have n1 : vs.size = xs.length := by simpa using ReadsAll.length _ _ _ h4
        have n2 : vs'.size = ys.length := by simpa using ReadsAll.length _ _ _ k4
        rw [dataLt_tuple, ← firstLt_toks xs ys hal, ← n1, ← n2] at hq
        rw [oneLt'_eq]
        simp only [if_true]
        refine wpAny_bind (wpAny_cRoomFor (room_here hu) ?_)
        refine wpAny_bind (wpAny_callSpecialIfBound?_slot (T := "tuple") ⟨_, h1, h2⟩ F.slot_tuple_lt (dl_call_tuple_lt (e := pairEq xs ys) (r := fun j => dataLt (xs.getD j .none) (ys.getD j .none)) ⟨_, h1, h2, _, h3⟩ ⟨_, k1, k2, _, k3⟩ (fun j j1 j2 => ?_) (fun j j1 j2 hj => ?_) ?_))
        · have := eqAt_alikeAll xs ys A.in1 s vs.toList vs'.toList _ _ h4 k4 hal (room_in hu) j (by simpa using j1) (by simpa using j2)
          simpa using this
        · have := rcLt_alikeAll xs ys A.in1 s vs.toList vs'.toList _ _ h4 k4 hal (room_in hu) j (by simpa using j1) (by simpa using j2) hj
          simpa using this
        · exact wpAny_truthy_bool hq
/-- the first items of tuples, some of them empty -/
theorem dl_firsts {h : Heap} : ∀ {vs : List Value} {ds : List PyData}, EachIs (fun v d => ∃ as, Reads h v d as) vs ds → (∀ d, d ∈ ds → ∃ r, d = .tuple r) →
    ∃ fs : List (Option Value), fs.length = vs.length ∧ (PyData.tuple [] ∈ ds → none ∈ fs) ∧ ∀ (M : Model) (A : Around) (E : Value → Shared → Prop) (s : Shared) (Q : List (Option Value) → Shared → Prop), s.heap = h → Q fs s → wpAny M A (vs.mapM firstOfTuple') Q E s
  | _, _, .nil, _ => ⟨[], rfl, fun z => absurd z (by simp), fun M A E s Q _ h => by rw [List.mapM_nil]; exact wpAny_pure h⟩
  | _, _, .cons (b := d) (as := vs) ⟨as, r⟩ t, ht => by
    obtain ⟨fs, h1, h2, h3⟩ := dl_firsts t fun d hd => ht d (List.mem_cons_of_mem _ hd)
    obtain ⟨r0, rfl⟩ := ht d (List.mem_cons_self ..)
    cases r with
    | @tuple a o xs n _ _ ho hc hd hr =>
      refine ⟨xs[0]? :: fs, by simp [h1], fun z => ?_, fun M A E s Q hs hq => ?_⟩
      · rcases List.mem_cons.mp z with z | z
        · cases z
          have e : xs.toList = [] := by cases q : xs.toList with
            | nil => rfl
            | cons f fr => rw [q] at hr; cases hr
          have e2 : xs[0]? = none := by rw [← Array.getElem?_toList, e]; rfl
          rw [e2]; exact List.mem_cons_self ..
        · exact List.mem_cons_of_mem _ (h2 z)
      · rw [List.mapM_cons]
        refine wpAny_bind ?_
        rw [kas_first_eq]
        refine wpAny_bind (Looks.here (show Looks M s.heap (typeOf (.ref a)) o.cls from (Looks.ld (hs ▸ ho)).andThen .now) ?_)
        rw [hc, if_neg (by first | decide | simp)]
        refine wpAny_bind (listItems_at (hs ▸ ho) hd (wpAny_pure ?_))
        exact wpAny_bind (h3 M A E s (fun bs s' => wpAny M A (pure (xs[0]? :: bs)) Q E s') hs (wpAny_pure hq))
/-- tuples, some of them empty, can be sorted -/
theorem SortsAt.dlTups {vs : List Value} {ds : List PyData} (e : EachIs (fun v d => ∃ as, Reads s.heap v d as) vs ds) (hal : AllAlike ds) (ht : ∀ d, d ∈ ds → ∃ r, d = .tuple r) (hn : PyData.tuple [] ∈ ds) (hu : ∀ d, d ∈ ds → A.units + d.depth < cLine) : SortsAt prog w A s (dataKind s.heap ds) vs := by
  have room : ∀ {d d' : PyData}, d ∈ ds → A.units + min d.depth d'.depth < cLine := fun {d d'} hd => Nat.lt_of_le_of_lt (Nat.add_le_add_left (Nat.min_le_left _ _) _) (hu d hd)
  have cmp : ∀ kd, (∃ f, ∀ x y, keyLt' kd x y = oneLt' f x y) → H.LtAt prog w A s (dataKind s.heap ds) kd := by
    rintro kd ⟨f, hf⟩ E x y a b Q ha hb hq
    obtain ⟨d, as, hd, ra, rfl⟩ := dataKind_inv ha
    obtain ⟨d', as', hd', rb, rfl⟩ := dataKind_inv hb
    rw [hf]
    obtain ⟨r1, rfl⟩ := ht d hd
    obtain ⟨r2, rfl⟩ := ht d' hd'
    exact dl_oneLt_tup ra rb (hal _ hd _ hd') (room hd) hq
  obtain ⟨fs, f1, f2, f3⟩ := dl_firsts e ht
  refine ⟨fun v hv => ?_, ?_⟩
  · obtain ⟨d, hd, as, r⟩ := e.left v hv
    exact ⟨_, dataKind_some hal hd r⟩
  · have hall : ¬ (fs.toArray.all (·.isSome)) = true := by
      intro z
      rw [List.all_toArray, List.all_eq_true] at z
      exact absurd (z none (f2 hn)) (by simp)
    by_cases hg : (fs.toArray[0]?.bind id).isSome = true
    · refine ⟨general', cmp _ ⟨false, fun _ _ => rfl⟩, fun h2 E Q hq => ?_⟩
      rw [kat_kind_eq, List.mapM_toArray, map_eq_pure_bind]
      refine wpAny_bind (wpAny_bind (f3 _ _ _ s _ rfl (wpAny_pure ?_)))
      rw [if_neg hall, if_pos hg]
      exact wpAny_pure hq
    · refine ⟨oneType', cmp _ ⟨true, fun _ _ => rfl⟩, fun h2 E Q hq => ?_⟩
      rw [kat_kind_eq, List.mapM_toArray, map_eq_pure_bind]
      refine wpAny_bind (wpAny_bind (f3 _ _ _ s _ rfl (wpAny_pure ?_)))
      rw [if_neg hall, if_neg hg]
      have hT : ∀ v ∈ vs, Looks (model prog w) s.heap (typeOf v) (Value.type "tuple") := fun v hv => by
        obtain ⟨d, hd, as, r⟩ := e.left v hv
        obtain ⟨r1, rfl⟩ := ht d hd
        exact looks_reads r
      rw [oneTypeOnly'_eq, List.mapM_toArray, map_eq_pure_bind]
      refine wpAny_bind (wpAny_bind (wpAny_bind (kas_mapM (r := Value.type "tuple") _ (fun v hv Q' hq => (hT v hv).here hq) (wpAny_pure ?_))))
      have hall2 : ((List.map (fun _ => Value.type "tuple") vs).toArray.all fun x => x == Value.type "tuple") = true := by
        simp only [List.all_toArray, List.all_map, List.all_eq_true]
        intro _ _
        exact beq_self_eq_true _
      have h0 : (List.map (fun _ => Value.type "tuple") vs).toArray[0]? = some (Value.type "tuple") := by
        cases vs with
        | nil => simp at h2
        | cons a b => simp
      rw [h0]
      simp only [hall2, if_true]
      exact wpAny_pure (wpAny_pure hq)
/-- alike data, no None among them -/
theorem SortsAt.dlAny {vs : List Value} {ds : List PyData} (e : EachIs (fun v d => ∃ as, Reads s.heap v d as) vs ds) (hal : AllAlike ds) (hn : ∀ d, d ∈ ds → d ≠ .none) (hu : ∀ d, d ∈ ds → A.units + d.depth < cLine) : SortsAt prog w A s (dataKind s.heap ds) vs := by
  by_cases h1 : ∃ r, PyData.tuple r ∈ ds
  · obtain ⟨r, hr⟩ := h1
    have ht : ∀ d, d ∈ ds → ∃ r, d = .tuple r := fun d hd => by
      have q := hal d hd _ hr
      cases d with
      | tuple r => exact ⟨r, rfl⟩
      | _ => simp [alike] at q
    by_cases h2 : PyData.tuple [] ∈ ds
    · exact SortsAt.dlTups e hal ht h2 hu
    · refine SortsAt.data e hal (.inl fun d hd => ?_) hu
      obtain ⟨r, rfl⟩ := ht d hd
      cases r with
      | nil => exact absurd hd h2
      | cons x r => exact ⟨x, r, rfl⟩
  · exact SortsAt.data e hal (.inr fun d hd => ⟨hn d hd, fun xs z => h1 ⟨xs, z ▸ hd⟩⟩) hu
/-- a tuple's items, collected -/
theorem dl_collect_tup {l : Addr} {vs : List Value} {Q : List Value → Shared → Prop} (hl : s.heap.IsTuple l vs.toArray)
    (h : Q vs { s with heap := (s.heap.push (seqObj "list" #[] 0)).update s.heap.objs.size (Obj.mapSeq (· ++ vs.toArray)) }) (hsz : vs.length ≤ sizeLine) :
    wpAny (model prog w) A (collect (.ref l)) Q E s := by
  obtain ⟨o, ho, hc, n, hd⟩ := id hl
  unfold collect
  refine wpAny_bind (wpAny_runValue (codeAny_builtin entry_proto_collect' ?_))
  show wpAny _ _ (do again (.builtin "list.__iadd__" ⟨[← newList [], .ref l], []⟩)) _ _ s
  refine wpAny_bind (wpAny_newList (wpAny_pure ⟨Code.quiet_builtin _ (by decide +kernel), codeAny_builtin entry_list_iadd' ?_⟩))
  show wpAny _ _ (Builtin.List.listExtendWith (.ref s.heap.objs.size) (.ref l) (.ref s.heap.objs.size)) _ _ { s with heap := s.heap.push (seqObj "list" #[] 0) }
  unfold Builtin.List.listExtendWith
  have ho' : (s.heap.push (seqObj "list" #[] 0)).get? l = some o := Heap.get?_push_of_some _ ho
  refine wpAny_bind (wpAny_typeOf (T := "tuple") ⟨o, ho', hc⟩ ?_)
  have ht : (Value.type "tuple" == Value.type "tuple") = true := by rfl
  rw [if_pos (by rw [ht]; simp)]
  refine wpAny_bind (listItems_at ho' hd ?_)
  refine wpAny_bind (listItems_at (xs := #[]) (n := 0) (Heap.get?_push_size _ rfl) rfl ?_)
  rw [if_neg (by simp)]
  refine wpAny_bind (listUpdate_at (xs := #[]) (n := 0) (Heap.get?_push_size _ rfl) rfl ?_ (Nat.zero_le _) (by show (#[] ++ vs.toArray).size ≤ sizeLine + 1; simp only [Array.size_append, List.size_toArray, List.length_nil]; omega))
  refine wpAny_pure ?_
  show wpAny (model prog w) A (do
      let o ← load s.heap.objs.size
      match o.data with
      | .seq xs _ => pure xs.toList
      | _ => unsupported "internal:collect") Q E { s with heap := (s.heap.push (seqObj "list" #[] 0)).update s.heap.objs.size (Obj.mapSeq (· ++ vs.toArray)) }
  refine wpAny_bind (wpAny_load (get?_update_seq (Heap.get?_push_size _ rfl) _) ?_)
  show wpAny _ _ (pure ((#[] : Array Value) ++ vs.toArray).toList) Q E _
  rw [show ((#[] : Array Value) ++ vs.toArray).toList = vs by simp]
  exact wpAny_pure h
/-- sorted(t) of a tuple is list.sort() on a new list of its items -/
theorem dl_sorted_tup {κ : PyProof.Rows.KeyKind} {l : Addr} {vs : List Value} {Q : Value → Shared → Prop} (hl : s.heap.IsTuple l vs.toArray) (S : SortsAt prog w A.in1.in1 { s with heap := sortingHeap (copyHeap s.heap vs) (s.heap.objs.size + 1) vs } κ vs) (hL : vs.length ≤ sizeLine)
    (h : Q (.ref (s.heap.objs.size + 1)) { s with heap := sortedAll s.heap vs (sortVals κ false vs vs).toArray }) : wpAny (model prog w) A (call (.builtin "sorted") [.ref l]) Q E s := by
  refine call_function_entry_kw (kw := []) kind_sorted plain_sorted entry_sorted (args_sorted1 _) ?_
  unfold Builtin.«sorted»
  refine wpAny_bind (m := checkCount "sorted" 1 1 _) (wpAny_pure ?_)
  refine wpAny_bind (dl_collect_tup hl ?_ hL)
  refine wpAny_bind (wpAny_newList ?_ hL)
  have hsz : ((s.heap.push (seqObj "list" #[] 0)).update s.heap.objs.size (Obj.mapSeq (· ++ vs.toArray))).objs.size = s.heap.objs.size + 1 := by
    rw [Heap.size_update, size_push']
  show wpAny _ _ _ _ _ { s with heap := copyHeap s.heap vs }
  rw [hsz]
  refine wpAny_bind (wpAny_holding (wpAny_call_entry_kw (kw := []) slot_list_sort ⟨_, copyHeap_at s.heap vs, rfl⟩ entry_list_sort ?body (args_list_sort _)))
  case body =>
    show wpAny (model prog w) A.in1.in1 (Builtin.«list.sort» ⟨[.ref (s.heap.objs.size + 1)], []⟩) _ _ _
    refine wpAny_mono (list_sort_vals (P := fun f s' => f = .done (.ret .none) ∧ Q (.ref (s.heap.objs.size + 1)) s') (s := { s with heap := copyHeap s.heap vs }) (copyHeap_at s.heap vs) S hL ⟨rfl, h⟩) (fun f s' hf => ?_) fun _ _ e => e
    obtain ⟨rfl, hq⟩ := hf
    exact ⟨_, rfl, wpAny_pure ⟨_, rfl, hq⟩⟩
/-- sorted(xs) of alike data -/
theorem dl_sorted_data {β : Type} {vs : List Value} {bs : List β} {enc : β → PyData} {R : Value → β → Prop} {l : Addr} {Q : Value → Shared → Prop} (hl : s.heap.IsList l vs.toArray) (e : EachIs R vs bs) (er : EachIs (fun v b => ∃ as, Reads s.heap v (enc b) as) vs bs) (hal : AllAlike (bs.map enc)) (hk : ∀ b, b ∈ bs → enc b ≠ .none) (hL : bs.length ≤ sizeLine)
    (hu : ∀ b, b ∈ bs → A.units + 2 + (enc b).depth < cLine) (h : ∀ out, out.length = bs.length → EachIs R out (bs.mergeSort (dataLe false enc)) → Q (.ref (s.heap.objs.size + 1)) { s with heap := sortedAll s.heap vs (List.toArray out) }) :
    wpAny (model prog w) A (call (.builtin "sorted") [.ref l]) Q E s := by
  have er' : EachIs (fun v b => ∃ as, Reads (sortingHeap (copyHeap s.heap vs) (s.heap.objs.size + 1) vs) v (enc b) as) vs bs := er.mono fun _ _ ⟨as, r⟩ => ⟨as, PyProof.Rows.Reads.keeps (fun _ _ => sorting_copy_old) r⟩
  exact sorted_vals hl (SortsAt.dlAny (s := { s with heap := sortingHeap (copyHeap s.heap vs) (s.heap.objs.size + 1) vs }) (each_map (R := fun v d => ∃ as, Reads (sortingHeap (copyHeap s.heap vs) (s.heap.objs.size + 1) vs) v d as) enc er') hal (fun d hd => by
      obtain ⟨b, hb, rfl⟩ := List.mem_map.mp hd
      exact hk b hb) (bound_map hu)) (by rw [e.length]; exact hL)
    (h _ (by rw [sortVals_length false rfl]; exact e.length) (sortVals_data false e er' hal))
/-- sorted(t) of a tuple of alike data -/
theorem dl_sorted_data_tup {β : Type} {vs : List Value} {bs : List β} {enc : β → PyData} {R : Value → β → Prop} {l : Addr} {Q : Value → Shared → Prop} (hl : s.heap.IsTuple l vs.toArray) (e : EachIs R vs bs) (er : EachIs (fun v b => ∃ as, Reads s.heap v (enc b) as) vs bs) (hal : AllAlike (bs.map enc)) (hk : ∀ b, b ∈ bs → enc b ≠ .none) (hL : bs.length ≤ sizeLine)
    (hu : ∀ b, b ∈ bs → A.units + 2 + (enc b).depth < cLine) (h : ∀ out, out.length = bs.length → EachIs R out (bs.mergeSort (dataLe false enc)) → Q (.ref (s.heap.objs.size + 1)) { s with heap := sortedAll s.heap vs (List.toArray out) }) :
    wpAny (model prog w) A (call (.builtin "sorted") [.ref l]) Q E s := by
  have er' : EachIs (fun v b => ∃ as, Reads (sortingHeap (copyHeap s.heap vs) (s.heap.objs.size + 1) vs) v (enc b) as) vs bs := er.mono fun _ _ ⟨as, r⟩ => ⟨as, PyProof.Rows.Reads.keeps (fun _ _ => sorting_copy_old) r⟩
  exact dl_sorted_tup hl (SortsAt.dlAny (s := { s with heap := sortingHeap (copyHeap s.heap vs) (s.heap.objs.size + 1) vs }) (each_map (R := fun v d => ∃ as, Reads (sortingHeap (copyHeap s.heap vs) (s.heap.objs.size + 1) vs) v d as) enc er') hal (fun d hd => by
      obtain ⟨b, hb, rfl⟩ := List.mem_map.mp hd
      exact hk b hb) (bound_map hu)) (by rw [e.length]; exact hL)
    (h _ (by rw [sortVals_length false rfl]; exact e.length) (sortVals_data false e er' hal))
end
end PySem.W
namespace DL
open PySem PySem.Spec PyProof.Rows L2
/-- alike, as sorting asks -/
def Alikes (ds : List D) : Prop := ∀ d, d ∈ ds → ∀ d', d' ∈ ds → PySem.W.alike (toPy d) (toPy d') = true
def leD (x y : D) : Bool := PySem.W.dataLe false toPy x y
def sortD (ds : List D) : List D := ds.mergeSort leD
def dSorted (ds : List D) (st : Stor) (R : KD) : Prop := match ds with
  | [.ref a] => ∃ xs, getL st a = some xs ∧ pureDs xs = true ∧ depDs xs ≤ 60 ∧ Alikes xs ∧ (∀ x ∈ xs, x ≠ .non) ∧ ∀ p, st p = none → R (.ref p) (put st p (.lst (sortD xs)))
  | [.tup xs] => pureDs xs = true ∧ depDs xs ≤ 60 ∧ Alikes xs ∧ (∀ x ∈ xs, x ≠ .non) ∧ ∀ p, st p = none → R (.ref p) (put st p (.lst (sortD xs)))
  | _ => False
theorem depD_le_mem {x : D} : ∀ {xs : List D}, x ∈ xs → depD x ≤ depDs xs
  | [], h => absurd h (by simp)
  | y :: ys, h => by
    rw [depDs_cons]
    rcases List.mem_cons.mp h with rfl | h
    · exact Nat.le_max_left _ _
    · exact Nat.le_trans (depD_le_mem h) (Nat.le_max_right _ _)
theorem each_vals {X : Cx} {H : Hp} : ∀ {vs : List V} {us : List Value} {ds : List D}, Vals vs us → Reps X.K H ds vs → PySem.W.EachIs (fun u d => ∃ v, RelV v u ∧ Rep X.K H d v) us ds
  | _, _, [], r, h => by rw [h.inv_nil] at r; cases r; exact .nil
  | _, _, d :: ds, r, h => by
    obtain ⟨v, vs, rfl, h1, h2⟩ := h.inv
    cases r with
    | cons r1 r2 => exact .cons ⟨v, r1, h1⟩ (each_vals r2 h2)
theorem vals_each {X : Cx} {H : Hp} : ∀ {us : List Value} {ds : List D}, PySem.W.EachIs (fun u d => ∃ v, RelV v u ∧ Rep X.K H d v) us ds → ∃ vs, Vals vs us ∧ Reps X.K H ds vs
  | _, _, .nil => ⟨[], .nil, .nil⟩
  | _, _, .cons ⟨v, r1, h1⟩ t => by
    obtain ⟨vs, r2, h2⟩ := vals_each t
    exact ⟨v :: vs, .cons r1 r2, .cons h1 h2⟩
theorem sortD_perm (ds : List D) : (sortD ds).Perm ds := List.mergeSort_perm _ _
theorem cd_sorted {J : Hid} {X : Cx} (hu : X.A.units + 63 < cLine) : CallD J X (.builtin "sorted") dSorted := by
  intro pins s σ H vs us Q I r h
  obtain ⟨ds, st, R, rs, S, h, q⟩ := h
  match ds, h, rs with
  | [.ref a], h, rs =>
    obtain ⟨v, rfl, rv⟩ := reps1 rs
    unfold Rep at rv
    subst rv
    obtain ⟨xs, hg, hp, hd, hal, hn, h⟩ := h
    obtain ⟨ws, t, rw1⟩ := S.getL hg
    obtain ⟨its, rvs, hl, hz⟩ := I.list t
    obtain ⟨u, rfl, ru⟩ := vals1 r
    obtain rfl : u = Value.ref a := ru
    have len : xs.length = its.length := by rw [rw1.len, rvs.length]
    have er : PySem.W.EachIs (fun u d => ∃ as, Reads s.heap u (toPy d) as) its xs :=
      (PySem.W.each_mem (each_vals rvs rw1)).mono fun u d ⟨⟨v, r1, h1⟩, hm⟩ => by
        have pd : pureD d = true := by
          rw [pureDs_all, List.all_eq_true] at hp
          exact hp d hm
        exact Dp.reads I _ v u (dp_of d v h1 pd).1 r1
    have ne : ∀ b, b ∈ xs → toPy b ≠ .none := fun b hb => by
      have pd : pureD b = true := by
        rw [pureDs_all, List.all_eq_true] at hp
        exact hp b hb
      cases b with
      | non => exact absurd rfl (hn _ hb)
      | ref a => cases pd
      | ro a => cases pd
      | bl b => simp [toPy]
      | int b => simp [toPy]
      | str b => simp [toPy]
      | tup b => simp [toPy]
    refine PySem.W.dl_sorted_data (enc := toPy) (vs := its) hl.isList (each_vals rvs rw1) er (fun d hd d' hd' => ?_) ne (by rw [rw1.len]; exact hz) (fun b hb => ?_) fun out ho eo => ?_
    · obtain ⟨x, hx, rfl⟩ := List.mem_map.mp hd
      obtain ⟨y, hy, rfl⟩ := List.mem_map.mp hd'
      exact hal x hx y hy
    · have := depD_le_mem hb
      have e : (toPy b).depth = depD b := rfl
      omega
    · obtain ⟨zs, r3, r4⟩ := vals_each (X := X) eo
      obtain ⟨c, hc⟩ := sortedAll_at s.heap its out.toArray
      have hlen : out.length ≤ sizeLine := by rw [ho, rw1.len]; exact hz
      have fresh : H (s.heap.objs.size + 1) = none := I.hok.fresh (Nat.le_succ _)
      refine ⟨.ref (s.heap.objs.size + 1), upd H (s.heap.objs.size + 1) (.lst zs), I.laid (t' := s.toks) (fun _ _ => sortedAll_old) (Nat.le_succ _) ⟨?_, out, c, r3, ?_⟩, rfl, ?_⟩
      · rw [r3.length]; exact hlen
      · exact hc
      · have r5 : Reps X.K H (sortD xs) zs := r4
        exact q _ _ _ _ (h _ (S.fresh fresh)) (Ext.new fresh) (S.newL fresh r5) rep_ref
  | [.tup xs], h, rs =>
    obtain ⟨v, rfl, rv⟩ := reps1 rs
    unfold Rep at rv
    obtain ⟨a, ws, rfl, t, rw1⟩ := rv
    obtain ⟨hp, hd, hal, hn, h⟩ := h
    obtain ⟨its, rvs, hl, hz⟩ := I.tuple t.sqT
    obtain ⟨u, rfl, ru⟩ := vals1 r
    obtain rfl : u = Value.ref a := ru
    have len : xs.length = its.length := by rw [rw1.len, rvs.length]
    have er : PySem.W.EachIs (fun u d => ∃ as, Reads s.heap u (toPy d) as) its xs :=
      (PySem.W.each_mem (each_vals rvs rw1)).mono fun u d ⟨⟨v, r1, h1⟩, hm⟩ => by
        have pd : pureD d = true := by
          rw [pureDs_all, List.all_eq_true] at hp
          exact hp d hm
        exact Dp.reads I _ v u (dp_of d v h1 pd).1 r1
    have ne : ∀ b, b ∈ xs → toPy b ≠ .none := fun b hb => by
      have pd : pureD b = true := by
        rw [pureDs_all, List.all_eq_true] at hp
        exact hp b hb
      cases b with
      | non => exact absurd rfl (hn _ hb)
      | ref a => cases pd
      | ro a => cases pd
      | bl b => simp [toPy]
      | int b => simp [toPy]
      | str b => simp [toPy]
      | tup b => simp [toPy]
    refine PySem.W.dl_sorted_data_tup (enc := toPy) (vs := its) hl (each_vals rvs rw1) er (fun d hd d' hd' => ?_) ne (by rw [rw1.len]; exact hz) (fun b hb => ?_) fun out ho eo => ?_
    · obtain ⟨x, hx, rfl⟩ := List.mem_map.mp hd
      obtain ⟨y, hy, rfl⟩ := List.mem_map.mp hd'
      exact hal x hx y hy
    · have := depD_le_mem hb
      have e : (toPy b).depth = depD b := rfl
      omega
    · obtain ⟨zs, r3, r4⟩ := vals_each (X := X) eo
      obtain ⟨c, hc⟩ := sortedAll_at s.heap its out.toArray
      have hlen : out.length ≤ sizeLine := by rw [ho, rw1.len]; exact hz
      have fresh : H (s.heap.objs.size + 1) = none := I.hok.fresh (Nat.le_succ _)
      refine ⟨.ref (s.heap.objs.size + 1), upd H (s.heap.objs.size + 1) (.lst zs), I.laid (t' := s.toks) (fun _ _ => sortedAll_old) (Nat.le_succ _) ⟨?_, out, c, r3, ?_⟩, rfl, ?_⟩
      · rw [r3.length]; exact hlen
      · exact hc
      · have r5 : Reps X.K H (sortD xs) zs := r4
        exact q _ _ _ _ (h _ (S.fresh fresh)) (Ext.new fresh) (S.newL fresh r5) rep_ref
end DL
-- text DLI
set_option Elab.async false
set_option linter.all false
set_option maxRecDepth 100000
set_option maxHeartbeats 2000000
/-! DLI: str of an int, slices with a step, list.count, list.index, list.insert -/
set_option exponentiation.threshold 600
namespace DL
open PySem PySem.Spec PyProof.Rows L2
/-! ### str(i) -/
def natS (n : Nat) : Str := Str.ofString (toString ((n : Nat) : Int))
def dStr (ds : List D) (st : Stor) (R : KD) : Prop := match ds with
  | [.int i] => ∃ n : Nat, i = (n : Int) ∧ n < 10 ^ 500 ∧ R (.str (natS n)) st
  | [.str x] => R (.str x) st
  | _ => False
theorem natS_ok (n : Nat) : PyData.strOk (natS n) = true := by
  unfold PyData.strOk
  have h : (natS n).cps.toList = TL.numL n := TL.tl_num n
  rw [← Array.all_toList, h, List.all_eq_true]
  intro c hc
  have := TL.numL_digits n c hc
  simp only [decide_eq_true_eq]
  omega
theorem natS_len {n k : Nat} (hk : 0 < k) (h : n < 10 ^ k) : (natS n).length ≤ k := by
  have e : (natS n).cps.toList = TL.numL n := TL.tl_num n
  show (natS n).cps.size ≤ k
  rw [← Array.length_toList, e]
  exact TL.numL_len hk h
theorem natS_inj {m n : Nat} (h : natS m = natS n) : m = n := by
  have e1 : (natS m).cps.toList = TL.numL m := TL.tl_num m
  have e2 : (natS n).cps.toList = TL.numL n := TL.tl_num n
  rw [h, e2] at e1
  exact (TL.numL_inj e1).symm
theorem log_500 {n : Nat} (h : n < 10 ^ 500) : n.log2 < 1920 := by
  by_cases h0 : n = 0
  · subst h0; decide
  · rw [Nat.log2_lt h0]
    exact Nat.lt_trans h (by decide +kernel)
section
variable {J : Hid} {X : Cx} {e : Expr} {es : List Expr} {t : TAD} {p pos : Pos}
theorem cd_strI : CallR X (.type "str") (fun xs H Q => (∃ i : Int, xs = [.int i] ∧ i.natAbs.log2 < 1920 ∧ Q (.str (toString i)) H)) := call_str_int
theorem cd_str : CallD J X (.type "str") (fun ds st R => match ds with
  | [.int i] => dStr [.int i] st R
  | _ => False) := by
  refine CallR.imp call_str_int fun vs H Q h => ?_
  obtain ⟨ds, st, R, rs, S, h, q⟩ := h
  match ds, h, rs with
  | [.int i], h, rs =>
    obtain ⟨v, rfl, r⟩ := reps1 rs
    unfold Rep at r
    subst r
    obtain ⟨n, rfl, hn, h⟩ := h
    refine ⟨_, rfl, log_500 (by simpa using hn), q _ st _ H h (Ext.refl H) S ?_⟩
    unfold Rep
    exact ⟨rfl, Nat.le_trans (natS_len (by decide) hn) (by rw [sizeLine_eq]; decide), natS_ok n⟩
abbrev dStrI : RDL := fun ds st R => match ds with
  | [.int i] => dStr [.int i] st R
  | _ => False
theorem ed_strD (m : NoG X.mg) (ha : PAD J X (e :: es) t) (hg : Gl X "str" := by rfl) (he : starEach (e :: es) X.env = (false, eval e X.env) :: starEach es X.env := by rfl) (hpl : (backTo pos (starEach es X.env)).any (·.1) = false := by rfl) : PED J X (.Call (.Name "str" p) (e :: es) [] pos) (tCallD dStrI t) :=
  ed_type cd_str m.str bt_str ha hg (by decide) (by decide) he hpl
theorem bt_sorted : bootBuiltins "sorted" = some (.builtin "sorted") := by decide +kernel
theorem ed_sortedD (m : NoG X.mg) (hu : X.A.units + 63 < cLine) (ha : PAD J X (e :: es) t) (hg : Gl X "sorted" := by rfl) (he : starEach (e :: es) X.env = (false, eval e X.env) :: starEach es X.env := by rfl) (hpl : (backTo pos (starEach es X.env)).any (·.1) = false := by rfl) : PED J X (.Call (.Name "sorted" p) (e :: es) [] pos) (tCallD dSorted t) :=
  ed_bltn (cd_sorted hu) m.sorted bt_sorted ha hg (by decide) (by decide) he hpl
end
theorem hu_room3 {k : Nat} {A : Around} (hr : Room k A) : A.units + 63 < cLine := by have := hr.un; omega

/-! ### slices with a step -/
def pickD {α : Type} (xs : List α) (lo hi st : Option Int) : List α := (sliceRange (sliceBounds lo hi st xs.length).1 (sliceBounds lo hi st xs.length).2.1 (sliceBounds lo hi st xs.length).2.2).filterMap (xs[·]?)
theorem reps_pick {K : PySem.W.Frag} {H : Hp} {ds : List D} {vs : List V} (r : Reps K H ds vs) : ∀ L : List Nat, Reps K H (L.filterMap (ds[·]?)) (L.filterMap (vs[·]?))
  | [] => .nil
  | i :: L => by
    rw [List.filterMap_cons, List.filterMap_cons]
    cases e : ds[i]? with
    | none =>
      have e2 : vs[i]? = none := by
        rw [List.getElem?_eq_none_iff] at e ⊢
        rw [← r.len]; exact e
      rw [e2]; exact reps_pick r L
    | some d =>
      obtain ⟨v, e2, h⟩ := r.get e
      rw [e2]; exact .cons h (reps_pick r L)
theorem vals_pick {vs : List V} {us : List Value} (r : Vals vs us) : ∀ L : List Nat, Vals (L.filterMap (vs[·]?)) (L.filterMap (us[·]?))
  | [] => .nil
  | i :: L => by
    rw [List.filterMap_cons, List.filterMap_cons]
    cases e : vs[i]? with
    | none =>
      have e2 : us[i]? = none := by
        rw [List.getElem?_eq_none_iff] at e ⊢
        rw [← r.length]; exact e
      rw [e2]; exact vals_pick r L
    | some d =>
      obtain ⟨v, e2, h⟩ := r.get e
      rw [e2]; exact .cons h (vals_pick r L)
theorem pick_len {α : Type} (xs : List α) (lo hi : Option Int) {c : Option Int} (h0 : c ≠ some 0) : (pickD xs lo hi c).length ≤ xs.length := by
  unfold pickD
  refine Nat.le_trans (List.length_filterMap_le _ _) ?_
  refine sliceRange_length_le _ _ _ _ (fun hc => ?_) fun hc => ?_
  · unfold sliceBounds at hc ⊢
    simp only at hc ⊢
    constructor
    · cases lo <;> simp only [if_pos hc] <;> omega
    · cases hi <;> simp only [if_pos hc] <;> omega
  · unfold sliceBounds at hc ⊢
    simp only at hc ⊢
    constructor
    · cases lo <;> simp only [if_neg hc] <;> omega
    · cases hi <;> simp only [if_neg hc] <;> omega
def tSl3D (te : TED) (tl th ts : TOD) : TED := fun ρ st R => te ρ st fun x s1 => tl ρ s1 fun l s2 => th ρ s2 fun u s3 => ts ρ s3 fun c s4 => match x with
  | .ref a => c ≠ some 0 ∧ ∃ xs, getL s4 a = some xs ∧ ∀ p, s4 p = none → R (.ref p) (put s4 p (.lst (pickD xs l u c)))
  | _ => False
section
variable {J : Hid} {X : Cx} {e : Expr} {te : TED} {tl th ts : TOD} {lo hi : Option Expr} {sp : Expr} {p3 pos : Pos}
theorem ed_slice3 (he : PED J X e te) (hl : POD J X lo tl) (hu : POD J X hi th) (hs : POD J X (some sp) ts) : PED J X (.Subscript e (.Slice lo hi (some sp) p3) pos) (tSl3D te tl th ts) := by
  refine ⟨fun pins s σ H Q I h => ?_⟩
  obtain ⟨ρ, st, R, re, S, h, q⟩ := h
  let fin : D → Option Int → Option Int → Option Int → Stor → Prop := fun x l u c s4 => match x with
    | .ref a => c ≠ some 0 ∧ ∃ xs, getL s4 a = some xs ∧ ∀ p, s4 p = none → R (.ref p) (put s4 p (.lst (pickD xs l u c)))
    | _ => False
  refine Subscript_ (thn (he.run pins s σ H (fun vx H1 => ∃ x s1, (tl ρ s1 fun l s2 => th ρ s2 fun u s3 => ts ρ s3 fun c s4 => fin x l u c s4) ∧ Ext H H1 ∧ SimS X.K J s1 H1 ∧ Rep X.K H1 x vx) I
    ⟨ρ, st, _, re, S, h, fun x s1 vx H1 hx e1 S1 rx => ⟨x, s1, hx, e1, S1, rx⟩⟩) fun v t1 ⟨vx, H1, I1, r1, x, s1, h1, e1, S1, rx⟩ => ?_)
  refine wpAny_Slice (thn (hl.run pins t1 σ H1 (fun l H2 => ∃ s2, (th ρ s2 fun u s3 => ts ρ s3 fun c s4 => fin x l u c s4) ∧ Ext H1 H2 ∧ SimS X.K J s2 H2) I1 ⟨ρ, s1, _, re.ext e1, S1, h1, fun l s2 H2 hx e2 S2 => ⟨s2, hx, e2, S2⟩⟩) fun vl t2 ⟨l, H2, I2, pl, s2, h2, e2, S2⟩ => ?_)
  refine thn (hu.run pins t2 σ H2 (fun u H3 => ∃ s3, (ts ρ s3 fun c s4 => fin x l u c s4) ∧ Ext H2 H3 ∧ SimS X.K J s3 H3) I2 ⟨ρ, s2, _, (re.ext e1).ext e2, S2, h2, fun l s2 H2 hx e2 S2 => ⟨s2, hx, e2, S2⟩⟩) fun vu t3 ⟨u, H3, I3, pu, s3, h3, e3, S3⟩ => ?_
  refine thn (hs.run pins t3 σ H3 (fun c H4 => ∃ s4, fin x l u c s4 ∧ Ext H3 H4 ∧ SimS X.K J s4 H4) I3 ⟨ρ, s3, _, ((re.ext e1).ext e2).ext e3, S3, h3, fun l s2 H2 hx e2 S2 => ⟨s2, hx, e2, S2⟩⟩) fun vc t4 ⟨c, H4, I4, pc, s4, h4, e4, S4⟩ => ?_
  obtain ⟨a, rfl⟩ : ∃ a, x = .ref a := by
    cases x <;> first | exact ⟨_, rfl⟩ | exact (show False from h4).elim
  obtain ⟨hc, xs, hg, h4⟩ := h4
  unfold Rep at rx
  subst rx
  cases r1
  obtain ⟨vs, hL, rs⟩ := S4.getL hg
  have I5 : Inv X pins σ H4 { t4 with heap := t4.heap.push { cls := .type "slice", data := .fields #[vl, vu, vc] } } := I4.kept (t' := t4.toks) fun b ob q => Heap.get?_push_of_some _ q
  obtain ⟨its, r, ht, hz⟩ := I5.list hL
  have hlen := r.length
  show wpAny (model X.prog X.w) X.A (subscriptTail e (.Slice lo hi (some sp) p3) (.ref a) (.ref t4.heap.objs.size)) (EP X pins σ Q) X.xe { t4 with heap := t4.heap.push { cls := .type "slice", data := .fields #[vl, vu, vc] } }
  refine tail_any (ops := [.ref a, .ref t4.heap.objs.size]) ht.isList.typeIs (PySem.slot_list_getitem.lookup) ?_ (by with_unfolding_all rfl)
  refine wpAny_getItem_list_slice ht.isList (Heap.IsSliceOf.new _ vl vu vc) pl pu pc hc ?_ (by rw [List.size_toArray]; omega)
  have ep : slicePick its.toArray l u c = (pickD its l u c).toArray := by
    unfold slicePick pickD
    simp only [List.size_toArray, List.getElem?_toArray]
  have rp : Reps X.K H4 (pickD xs l u c) (pickD vs l u c) := by
    unfold pickD; rw [rs.len]; exact reps_pick rs _
  have vp : Vals (pickD vs l u c) (pickD its l u c) := by
    unfold pickD; rw [r.length]; exact vals_pick r _
  rw [ep]
  have fresh : H4 (t4.heap.push { cls := .type "slice", data := .fields #[vl, vu, vc] }).objs.size = none := I5.hok.fresh (Nat.le_refl _)
  refine ⟨.ref _, _, I5.laid (t' := t4.toks) (o := .lst (pickD vs l u c)) (fun b ob q => Heap.get?_push_of_some _ q) (Nat.le_refl _) ⟨Nat.le_trans (pick_len vs l u hc) hz, _, 0, vp, Heap.get?_push_size _ rfl⟩, rfl, ?_⟩
  exact q _ _ _ _ (h4 _ (S4.fresh fresh)) ((((e1.trans e2).trans e3).trans e4).trans (Ext.new fresh)) (S4.newL fresh rp) rep_ref
end

/-! ### list.count, list.index, list.insert -/
def dCount (a : Addr) (ds : List D) (st : Stor) (R : KD) : Prop := match ds with
  | [x] => ∃ xs, getL st a = some xs ∧ Okd x ∧ pureDs xs = true ∧ R (.int ((xs.countP fun y => deq y x : Nat) : Int)) st
  | _ => False
def dIndex (a : Addr) (ds : List D) (st : Stor) (R : KD) : Prop := match ds with
  | [x] => ∃ xs j, getL st a = some xs ∧ Okd x ∧ pureDs xs = true ∧ (xs.findIdx? fun y => deq y x) = some j ∧ R (.int (j : Nat)) st
  | _ => False
section
variable {J : Hid} {X : Cx}
theorem md_insert : MtR X "list.insert" (upRA X.K J dInsert) := by
  refine MtR.imp mt_insert fun vx vs H Q h => ?_
  obtain ⟨a, ds, st, R, rfl, rs, S, h, q⟩ := h
  match ds, h, rs with
  | [.int i, y], h, rs =>
    obtain ⟨v1, r1, rfl, h1, h2⟩ := rs.inv
    obtain ⟨v2, rfl, h3⟩ := reps1 h2
    unfold Rep at h1
    subst h1
    obtain ⟨xs, g1, g2, g3, g4, g5⟩ := h
    obtain ⟨ws, e, r⟩ := S.lst g1
    refine ⟨a, ws, i, v2, rfl, rfl, e, by rw [← r.len]; exact g2, g3, g4, q _ _ _ _ g5 (Ext.lst e) (S.setL g1 e ?_) rep_non⟩
    have := ((r.take i.toNat).append (.cons h3 .nil)).append (r.drop i.toNat)
    simpa using this
theorem md_count (hu : X.A.units + 61 < cLine) : MtR X "list.count" (upRA X.K J dCount) := by
  intro pins s σ H x xs v us Q I rx rxs h
  obtain ⟨a, ds, st, R, rfl, rs, S, h, q⟩ := h
  match ds, h, rs with
  | [y], h, rs =>
    obtain ⟨vy, rfl, ry⟩ := reps1 rs
    obtain ⟨zs, hg, hk, hp, h⟩ := h
    obtain ⟨ws, hL, rw1⟩ := S.getL hg
    cases rx
    obtain ⟨uy, rfl, ruy⟩ := rxs.one
    obtain ⟨its, rv, ⟨⟨cls, dd, data, sls⟩, n, ho, hc, hdn, hdt⟩, hlen⟩ := I.list hL
    simp only at hc hdt
    subst hc hdt
    obtain ⟨d1, l1⟩ := dp_of y vy ry hk.p
    obtain ⟨d2, l2⟩ := dps_of zs ws rw1 hp
    obtain ⟨bs, r1⟩ := Dp.reads I _ vy uy d1 ruy
    obtain ⟨as, h4⟩ := Dp.readsAll I _ _ its d2 rv
    have hmap : its.map (SeqAt.readOf s.heap) = toPys zs := SeqAt.readsAll_map (toPys zs) its as l2 h4
    have hroom : X.A.units + 1 + min (PyData.depthAll (toPys zs)) (toPy y).depth < cLine := by
      have e : (toPy y).depth = depD y := rfl
      have := hk.n
      have := Nat.min_le_right (PyData.depthAll (toPys zs)) (toPy y).depth
      omega
    refine call_meets PySem.F.slot_list_count ⟨_, ho, rfl⟩ PySem.F.entry_list_count (PySem.F.args_list_count_2 _ _)
      (SeqAt.list_countAt a its.toArray n dd sls uy (fun u => PyData.eqv (SeqAt.readOf s.heap u) (toPy y))) ⟨ho, SeqAt.items_eqAt (vs := its.toArray) (show ReadsAll s.heap its.toArray.toList (toPys zs) as from h4) r1 l2 l1 hroom, ?_⟩
    have ec : its.toArray.toList.countP (fun u => PyData.eqv (SeqAt.readOf s.heap u) (toPy y)) = zs.countP fun z => deq z y := by
      have e1 : its.countP (fun u => PyData.eqv (SeqAt.readOf s.heap u) (toPy y)) = (its.map (SeqAt.readOf s.heap)).countP (fun p => PyData.eqv p (toPy y)) := by
        rw [List.countP_map]; rfl
      show its.countP _ = _
      rw [e1, hmap, toPys_map, List.countP_map]
      rfl
    rw [ec]
    exact ⟨.int _, H, I.tok _, ⟨_, rfl⟩, q _ st _ H h (Ext.refl H) S rep_int⟩
theorem findIdx_map {α β : Type} (f : α → β) (p : β → Bool) : ∀ l : List α, (l.map f).findIdx? p = l.findIdx? (p ∘ f)
  | [] => rfl
  | x :: l => by rw [List.map_cons, List.findIdx?_cons, List.findIdx?_cons, findIdx_map f p l]; rfl
theorem md_index (hu : X.A.units + 61 < cLine) : MtR X "list.index" (upRA X.K J dIndex) := by
  intro pins s σ H x xs v us Q I rx rxs h
  obtain ⟨a, ds, st, R, rfl, rs, S, h, q⟩ := h
  match ds, h, rs with
  | [y], h, rs =>
    obtain ⟨vy, rfl, ry⟩ := reps1 rs
    obtain ⟨zs, j, hg, hk, hp, hj, h⟩ := h
    obtain ⟨ws, hL, rw1⟩ := S.getL hg
    cases rx
    obtain ⟨uy, rfl, ruy⟩ := rxs.one
    obtain ⟨its, rv, ⟨⟨cls, dd, data, sls⟩, n, ho, hc, hdn, hdt⟩, hlen⟩ := I.list hL
    simp only at hc hdt
    subst hc hdt
    obtain ⟨d1, l1⟩ := dp_of y vy ry hk.p
    obtain ⟨d2, l2⟩ := dps_of zs ws rw1 hp
    obtain ⟨bs, r1⟩ := Dp.reads I _ vy uy d1 ruy
    obtain ⟨as, h4⟩ := Dp.readsAll I _ _ its d2 rv
    have hmap : its.map (SeqAt.readOf s.heap) = toPys zs := SeqAt.readsAll_map (toPys zs) its as l2 h4
    have hroom : X.A.units + 1 + min (PyData.depthAll (toPys zs)) (toPy y).depth < cLine := by
      have e : (toPy y).depth = depD y := rfl
      have := hk.n
      have := Nat.min_le_right (PyData.depthAll (toPys zs)) (toPy y).depth
      omega
    have hf : its.findIdx? (fun u => PyData.eqv (SeqAt.readOf s.heap u) (toPy y)) = some j := by
      have e1 := findIdx_map (SeqAt.readOf s.heap) (fun p => PyData.eqv p (toPy y)) its
      rw [hmap, toPys_map, findIdx_map] at e1
      exact e1.symm.trans hj
    rw [List.findIdx?_eq_some_iff_getElem] at hf
    obtain ⟨hjl, hj1, hj2⟩ := hf
    have hl := rv.length
    have hs := sizeLine_eq
    refine call_meets PySem.F.slot_list_index ⟨_, ho, rfl⟩ PySem.F.entry_list_index (PySem.F.args_list_index_2 _ _)
        (SeqAt.list_indexAt a its.toArray n dd sls uy (fun u => PyData.eqv (SeqAt.readOf s.heap u) (toPy y)) j (by simpa using hjl) (by omega) ?_ ?_) ⟨ho, SeqAt.items_eqAt (vs := its.toArray) (show ReadsAll s.heap its.toArray.toList (toPys zs) as from h4) r1 l2 l1 hroom, ?_⟩
    · simpa using hj1
    · intro m hm hmj
      have := hj2 m hmj
      simpa using this
    · exact ⟨.int _, H, I.tok _, ⟨_, rfl⟩, q _ st _ H h (Ext.refl H) S rep_int⟩
end
end DL
-- text DLJ
set_option Elab.async false
set_option linter.all false
set_option maxRecDepth 100000
set_option maxHeartbeats 2000000
/-! DLJ: hiding flat cells (the tape) behind a law -/
namespace DL
open PySem PySem.Spec PyProof.Rows L2
/-- in-place + -/
def dIAdd (x y : D) (st : Stor) (R : KD) : Prop := match x, y with
  | .int i, .int j => R (.int (i + j)) st
  | .str a, .str b => a.length + b.length ≤ sizeLine ∧ R (.str (a ++ b)) st
  | _, _ => False
theorem iod_iadd {J : Hid} {X : Cx} : OpD J X (inplaceOp .Add) dIAdd := iod_add

/-! ### hidden cells -/
/-- cells as, whose contents keep the law P -/
def hidJ (K : PySem.W.Frag) (as : List Addr) (P : (Addr → Cell) → Prop) : Hid where
  ok H := ∃ f, P f ∧ ∀ a ∈ as, CellOk K H a (f a)
  at_ a := a ∈ as
  live H a := by
    rintro ⟨f, _, h⟩ ha
    exact (h a ha).some
  keep H H' := by
    rintro ⟨f, p, h⟩ x k
    exact ⟨f, p, fun a ha => (h a ha).ext x (k a ha)⟩
def over (as : List Addr) (f : Addr → Cell) (st : Stor) : Stor := fun a => if a ∈ as then some (f a) else st a
def cutS (as : List Addr) (st : Stor) : Stor := fun a => if a ∈ as then none else st a
section
variable {K : PySem.W.Frag} {as : List Addr} {P : (Addr → Cell) → Prop} {st : Stor} {H : Hp}
theorem SimS.open_ (S : SimS K (hidJ K as P) st H) : ∃ f, P f ∧ (∀ a ∈ as, st a = none) ∧ SimS K Hid.none (over as f st) H := by
  obtain ⟨f, p, h⟩ := S.hid
  refine ⟨f, p, S.sep, ⟨fun a c e => ?_, trivial, fun a z => z.elim⟩⟩
  unfold over at e
  split at e
  · rename_i ha
    cases e
    exact h a ha
  · exact S.cell a c e
theorem SimS.close {f : Addr → Cell} {s2 : Stor} (S : SimS K Hid.none st H) (p : P f) (hs : ∀ a ∈ as, st a = some (f a)) (h2 : ∀ a c, s2 a = some c → a ∉ as ∧ st a = some c) : SimS K (hidJ K as P) s2 H := by
  refine ⟨fun a c e => S.cell a c (h2 a c e).2, ⟨f, p, fun a ha => S.cell a _ (hs a ha)⟩, fun a ha => ?_⟩
  cases e : s2 a with
  | none => rfl
  | some c => exact absurd ha (h2 a c e).1
theorem SimS.bare {J : Hid} (S : SimS K J st H) : SimS K Hid.none st H := ⟨S.cell, trivial, fun a z => z.elim⟩
end
/-- a promise over the open cells, told over the hidden ones -/
theorem DefD.hide {P : Program} {w : World} {K : PySem.W.Frag} {mg : Str → Option Value} {base : Heap} {x : Str} {k : Nat} {ps : List Str} {sp sp0 : SpD} {as : List Addr} {Φ : (Addr → Cell) → Prop} (F : DefD P w K mg base Hid.none x k ps sp0)
    (h : ∀ f ds st R, Φ f → (∀ a ∈ as, st a = none) → sp ds st R →
      sp0 ds (over as f st) fun d st' => ∃ f' s2, Φ f' ∧ (∀ a ∈ as, st' a = some (f' a)) ∧ (∀ a c, s2 a = some c → a ∉ as ∧ st' a = some c) ∧ R d s2) :
    DefD P w K mg base (hidJ K as Φ) x k ps sp := by
  refine F.imp fun vs H Q E hq => ?_
  obtain ⟨ds, st, R, rs, S, hs, q⟩ := hq
  obtain ⟨f, p, hn, S0⟩ := S.open_
  refine ⟨ds, _, _, rs, S0, h f ds st R p hn hs, ?_⟩
  rintro d st' v H' ⟨f', s2, p', hs', h2, hr⟩ e S' rd
  exact q d s2 v H' hr e (S'.close p' hs' h2) rd
/-- from here on the cells are hidden -/
def sHideD {ι : Type} (as : ι → List Addr) (Φ : ι → (Addr → Cell) → Prop) (t1 : TSD) (tr : ι → TSD) : TSD := fun E ρ st =>
  t1 { E with nx := fun ρ' st' => ∃ i f, Φ i f ∧ (∀ a ∈ as i, st' a = some (f a)) ∧ tr i E ρ' (cutS (as i) st') } ρ st
theorem ssd_hide {X : Cx} {s : Stmt} {rest : List Stmt} {ι : Type} {as : ι → List Addr} {Φ : ι → (Addr → Cell) → Prop} {t1 : TSD} {tr : ι → TSD} (h1 : PSD Hid.none X s t1) (h2 : ∀ i, PSsD (hidJ X.K (as i) (Φ i)) X rest (tr i)) : PSsD Hid.none X (s :: rest) (sHideD as Φ t1 tr) := by
  have h3 : PSs X rest fun D σ H => ∃ i, upS X.K (hidJ X.K (as i) (Φ i)) (tr i) D σ H := ⟨fun pins s σ H D I ⟨i, h⟩ => (h2 i).run pins s σ H D I h⟩
  refine PSs.imp (pss_cons h1 h3) fun D σ H h => ?_
  obtain ⟨ρ, st, E, re, S, h, q⟩ := h
  refine ⟨ρ, st, _, re, S, h, ⟨fun ρ1 s1 σ1 H1 hu e1 S1 re1 => ?_, q.rt, q.bk, q.ct⟩⟩
  obtain ⟨i, f, p, hf, ht⟩ := hu
  refine ⟨i, ρ1, _, E, re1, S1.close p hf (fun a c e => ?_), ht, ?_⟩
  · unfold cutS at e
    split at e
    · cases e
    · exact ⟨by assumption, e⟩
  · have q' := q.ext e1
    exact ⟨fun ρ' st' σ' H' a b c d => q'.nx ρ' st' σ' H' a b c.bare d, fun d st' v H' a b c r => q'.rt d st' v H' a b c.bare r, fun ρ' st' σ' H' a b c d => q'.bk ρ' st' σ' H' a b c.bare d, fun ρ' st' σ' H' a b c d => q'.ct ρ' st' σ' H' a b c.bare d⟩
end DL
-- text DLM
set_option Elab.async false
set_option linter.all false
set_option maxRecDepth 100000
set_option maxHeartbeats 2000000
/-! DLM: values of the top, zip of two, bit_length, sum, index of tuples -/
namespace DL
open PySem PySem.Spec PyProof.Rows L2
/-! ### a value that the top has bound -/
/-- whatever is tracked, d stands for v -/
structure Top (K : PySem.W.Frag) (mg : Str → Option Value) (x : Str) (d : D) : Prop where
  ex : ∃ (u : Value) (v : V), mg x = some u ∧ RelV v u ∧ ∀ H : Hp, Rep K H d v
section
variable {J : Hid} {X : Cx} {e a b : Expr} {es : List Expr} {te ta tb : TED} {t : TAD} {p pos : Pos}
theorem ed_top {x : Str} {d : D} (h : Top X.K X.mg x d) (hg : Gl X x := by rfl) (hd : (x == ("__debug__" : Str)) = false := by decide) : PED J X (.Name x pos) (tCD d) := by
  obtain ⟨u, v, h1, h2, h3⟩ := h.ex
  refine PE.imp (pe_glob hg h1 h2 hd) fun σ H Q hq => ?_
  obtain ⟨ρ, st, R, re, S, h, q⟩ := hq
  exact q d st v H h (Ext.refl H) S (h3 H)
theorem top_int {K : PySem.W.Frag} {h : Heap} {mg : Str → Option Value} {x : Str} {i : Int} {t : Tok} (KX : K.In h) (G : h.Ns mainGlobals mg) (a : PySem.W.nsIn K mainGlobals x = some (some (.int i t))) : Top K mg x (.int i) :=
  ⟨_, .int i, PySem.W.mg_of KX G a, ⟨t, rfl⟩, fun H => rep_int⟩
/-- a tuple that stands among the top's own objects -/
theorem top_tup {K : PySem.W.Frag} {h : Heap} {mg : Str → Option Value} {x : Str} {l : Addr} {o : Obj} {its : Array Value} {n : Nat} {vs : List V} {ds : List D} (KX : K.In h) (G : h.Ns mainGlobals mg) (a : PySem.W.nsIn K mainGlobals x = some (some (.ref l)))
    (hl : K.lookup l = some o) (hc : o.cls = .type "tuple") (hd : o.dict = none) (hda : o.data = .seq its n) (hz : its.size ≤ sizeLine) (hv : Vals vs its.toList) (hr : ∀ H, Reps K H ds vs) : Top K mg x (.tup ds) :=
  ⟨_, .ref l, PySem.W.mg_of KX G a, rfl, fun H => by unfold Rep; exact ⟨l, vs, rfl, .inr ⟨o, its, n, hl, hc, hd, hda, hz, hv⟩, hr H⟩⟩

/-! ### zip of two lists, of two tuples -/
def zipD : List D → List D → List (List D)
  | x :: xs, y :: ys => [x, y] :: zipD xs ys
  | _, _ => []
theorem zipD_len : ∀ xs ys : List D, (zipD xs ys).length = min xs.length ys.length
  | [], _ => by simp [zipD]
  | _ :: _, [] => by simp [zipD]
  | x :: xs, y :: ys => by simp only [zipD, List.length_cons, zipD_len xs ys]; omega
theorem zipD_get : ∀ (xs ys : List D) (i : Nat) (x y : D), xs[i]? = some x → ys[i]? = some y → (zipD xs ys)[i]? = some [x, y]
  | [], _, _, _, _, h, _ => by simp at h
  | _ :: _, [], _, _, _, _, h => by simp at h
  | x :: xs, y :: ys, 0, u, v, h, k => by simp at h k; simp [zipD, h, k]
  | x :: xs, y :: ys, i + 1, u, v, h, k => by simp at h k; simp only [zipD, List.getElem?_cons_succ]; exact zipD_get xs ys i u v h k
theorem zipD_inv : ∀ (xs ys : List D) (i : Nat) (z : List D), (zipD xs ys)[i]? = some z → ∃ x y, xs[i]? = some x ∧ ys[i]? = some y ∧ z = [x, y]
  | [], _, _, _, h => by simp [zipD] at h
  | _ :: _, [], _, _, h => by simp [zipD] at h
  | x :: xs, y :: ys, 0, z, h => by simp [zipD] at h; exact ⟨x, y, rfl, rfl, h.symm⟩
  | x :: xs, y :: ys, i + 1, z, h => by
    simp only [zipD, List.getElem?_cons_succ] at h
    obtain ⟨u, v, h1, h2, h3⟩ := zipD_inv xs ys i z h
    exact ⟨u, v, by simpa using h1, by simpa using h2, h3⟩
def zp2D (ds : List D) (s1 : Stor) (R : List (List D) → (Stor → Prop) → Stor → Prop) : Prop := match ds with
  | [.tup xs, .tup ys] => R (zipD xs ys) (fun _ => True) s1
  | [.ref a, .ref b] => ∃ xs ys, getL s1 a = some xs ∧ getL s1 b = some ys ∧ R (zipD xs ys) (fun s => getL s a = some xs ∧ getL s b = some ys) s1
  | _ => False
def iZip2D (ta : TAD) : TID (List D) := fun ρ st R => ta ρ st fun ds s1 => zp2D ds s1 R
theorem wd_zipT {K : PySem.W.Frag} {H0 : Hp} {a b : Addr} {xs ys : List D} {vs ws : List V} (h : TupOk K H0 a vs) (hr : Reps K H0 xs vs) (k : TupOk K H0 b ws) (kr : Reps K H0 ys ws) : WalkD K J YTup H0 (RZ.ItzT K a b) (zipD xs ys) fun _ => True := by
  refine ⟨fun i H st hi e0 S hg => ?_, fun H st e0 S hg => ?_, fun i H st v H' hi e0 S hg hy => ?_⟩
  · rw [zipD_len] at hi
    have l1 : i < vs.length := by rw [← hr.len]; omega
    have l2 : i < ws.length := by rw [← kr.len]; omega
    exact ⟨vs, ws, vs[i], ws[i], (e0.tupOk h).sqT, (e0.tupOk k).sqT, by simp, by simp⟩
  · refine ⟨vs, ws, (e0.tupOk h).sqT, (e0.tupOk k).sqT, ?_⟩
    rw [zipD_len, hr.len, kr.len]
    omega
  · obtain ⟨T, x, y, rfl, n, e, h1, h2⟩ := hy
    obtain ⟨d, k1, r1⟩ := hr.getV (h1 vs (e0.tupOk h).sqT)
    obtain ⟨f, k2, r2⟩ := kr.getV (h2 ws (e0.tupOk k).sqT)
    obtain ⟨e1, S1, y1⟩ := pairY S n e (Rep.ext e0 _ _ r1) (Rep.ext e0 _ _ r2)
    exact ⟨[d, f], zipD_get xs ys i d f k1 k2, e1, S1, y1⟩
theorem wd_zipL {K : PySem.W.Frag} {H0 : Hp} {a b : Addr} {xs ys : List D} : WalkD K J YTup H0 (Itz K a b) (zipD xs ys) fun s => getL s a = some xs ∧ getL s b = some ys := by
  refine ⟨fun i H st hi e0 S hg => ?_, fun H st e0 S hg => ?_, fun i H st v H' hi e0 S hg hy => ?_⟩
  · obtain ⟨vs, hs, r⟩ := S.getL hg.1
    obtain ⟨ws, ks, r2⟩ := S.getL hg.2
    rw [zipD_len] at hi
    have l1 : i < vs.length := by rw [← r.len]; omega
    have l2 : i < ws.length := by rw [← r2.len]; omega
    exact ⟨vs, ws, vs[i], ws[i], hs, ks, by simp, by simp⟩
  · obtain ⟨vs, hs, r⟩ := S.getL hg.1
    obtain ⟨ws, ks, r2⟩ := S.getL hg.2
    refine ⟨vs, ws, hs, ks, ?_⟩
    rw [zipD_len, r.len, r2.len]
    omega
  · obtain ⟨vs, hs, r⟩ := S.getL hg.1
    obtain ⟨ws, ks, r2⟩ := S.getL hg.2
    obtain ⟨T, x, y, rfl, n, e, h1, h2⟩ := hy
    obtain ⟨d, k1, q1⟩ := r.getV (h1 vs hs)
    obtain ⟨f, k2, q2⟩ := r2.getV (h2 ws ks)
    obtain ⟨e1, S1, y1⟩ := pairY S n e q1 q2
    exact ⟨[d, f], zipD_get xs ys i d f k1 k2, e1, S1, y1⟩
theorem id_zip2 {tpos : Pos} {elts : List Expr} {kk : Nat} (hm : X.mg "zip" = none) (ha : PAD J X [a, b] t) (hg : Gl X "zip" := by rfl) (hs : starEach [a, b] X.env = (false, eval a X.env) :: starEach [b] X.env := by rfl) (hpl : (backTo pos (starEach [b] X.env)).any (·.1) = false := by rfl) :
    PID J X YTup (.Tuple elts kk tpos) (.Call (.Name "zip" p) [a, b] [] pos) (iZip2D t) := by
  refine PI.imp (RZ.pi_zipA hg hm ha hs hpl) fun σ H Rv h => ?_
  obtain ⟨ρ, st, R, re, S, h, q⟩ := h
  refine ⟨ρ, st, _, re, S, h, fun ds s1 vs H1 hd e1 S1 rs => ?_⟩
  match ds, hd, rs with
  | [.tup xs, .tup ys], hd, rs =>
    obtain ⟨v, w, rfl, r1, r2⟩ := reps2 rs
    unfold Rep at r1 r2
    obtain ⟨c, us, rfl, t1, q1⟩ := r1
    obtain ⟨f, ws, rfl, t2, q2⟩ := r2
    exact ⟨c, f, us, ws, rfl, .inr ⟨t1.sqT, t2.sqT, q _ _ s1 _ H1 hd e1 S1 (wd_zipT t1 q1 t2 q2)⟩⟩
  | [.ref c, .ref f], hd, rs =>
    obtain ⟨v, w, rfl, r1, r2⟩ := reps2 rs
    unfold Rep at r1 r2
    subst r1 r2
    obtain ⟨xs, ys, g1, g2, hd⟩ := hd
    obtain ⟨us, t1, _⟩ := S1.getL g1
    obtain ⟨ws, t2, _⟩ := S1.getL g2
    exact ⟨c, f, us, ws, rfl, .inl ⟨t1, t2, q _ _ s1 _ H1 hd e1 S1 wd_zipL⟩⟩

/-! ### bit_length, sum -/
def dBits (x : D) (st : Stor) (R : KD) : Prop := match x with
  | .int i => R (.int (Builtin.Int.intBits i : Nat)) st
  | _ => False
theorem ed_bits {o : Expr} {to : TED} {apos : Pos} (ho : PED J X o to) (hbase : attributeBase o "bit_length" X.env (eval o X.env) = eval o X.env := by rfl) (hline : (apos.endLine == pos.line) = true := by rfl) : PED J X (.Call (.Attribute o "bit_length" apos) [] [] pos) (tUnD dBits to) := by
  refine PE.imp (pe_bits ho hbase hline) fun σ H Q h => ?_
  obtain ⟨ρ, st, R, re, S, h, q⟩ := h
  refine ⟨ρ, st, _, re, S, h, fun x s1 vx H1 hx e1 S1 rx => ?_⟩
  cases x <;> try exact (show False from hx).elim
  unfold Rep at rx
  exact ⟨_, rx, q _ s1 _ H1 hx e1 S1 rep_int⟩
def dSum (ds : List D) (st : Stor) (R : KD) : Prop := match ds with
  | [.ref a] => ∃ ns : List Int, getL st a = some (ns.map D.int) ∧ R (.int ns.sum) st
  | _ => False
theorem cd_sum (hc : X.calm = true) : CallD J X (.builtin "sum") dSum := by
  refine CallR.imp (cr_sum hc) fun vs H Q h => ?_
  obtain ⟨ds, st, R, rs, S, h, q⟩ := h
  match ds, h, rs with
  | [.ref a], h, rs =>
    obtain ⟨v, rfl, r⟩ := reps1 rs
    unfold Rep at r
    subst r
    obtain ⟨ns, hg, h⟩ := h
    obtain ⟨ws, t, r⟩ := S.getL hg
    rw [Reps.ints_inv r] at t
    exact ⟨_, ns, rfl, t, q _ st _ H h (Ext.refl H) S rep_int⟩
theorem bt_sum : bootBuiltins "sum" = some (.builtin "sum") := by decide +kernel
theorem ed_sumD (m : NoG X.mg) (hc : X.calm = true) (ha : PAD J X (e :: es) t) (hg : Gl X "sum" := by rfl) (he : starEach (e :: es) X.env = (false, eval e X.env) :: starEach es X.env := by rfl) (hpl : (backTo pos (starEach es X.env)).any (·.1) = false := by rfl) : PED J X (.Call (.Name "sum" p) (e :: es) [] pos) (tCallD dSum t) :=
  ed_bltn (cd_sum hc) m.sum bt_sum ha hg (by decide) (by decide) he hpl

/-! ### t.index(x) of a tuple, xs.index(x) of a list -/
def dTIndex (xs : List D) (ds : List D) (st : Stor) (R : KD) : Prop := match ds with
  | [x] => ∃ j, Okd x ∧ pureDs xs = true ∧ (xs.findIdx? fun y => deq y x) = some j ∧ R (.int (j : Nat)) st
  | _ => False
theorem tupOk_type {pins : List (Addr × Obj)} {σ : L2.St} {H : Hp} {s : Shared} (I : Inv X pins σ H s) {a : Addr} {vs : List V} (h : TupOk X.K H a vs) : s.TypeIs (.ref a) "tuple" ∧ ∃ ob, s.heap.get? a = some ob ∧ ob.dict = none := by
  rcases h with ⟨ob, hd, h⟩ | ⟨o, its, n, h1, h2, h3, _⟩
  · obtain ⟨e, _, us, _, o2, e2, hc, _⟩ := I.hok a _ h
    rw [e] at e2
    cases e2
    exact ⟨⟨ob, e, hc⟩, ob, e, hd⟩
  · exact ⟨⟨o, I.kIn a o h1, h2⟩, o, I.kIn a o h1, h3⟩
theorem index_tup (hu : X.A.units + 61 < cLine) {pins : List (Addr × Obj)} {s : Shared} {σ : L2.St} {H : Hp} {a : Addr} {xs ds : List D} {vs us' : List V} {us : List Value} {st : Stor} {R : KD} {Q : VK} (I : Inv X pins σ H s) (ht : TupOk X.K H a vs) (rx : Reps X.K H xs vs) (rd : Reps X.K H ds us') (ru : Vals us' us)
    (S : SimS X.K J st H) (h : dTIndex xs ds st R) (q : After X.K J H R Q) : wpAny (model X.prog X.w) X.A (call (.builtin "tuple.index") (.ref a :: us)) (EP X pins σ Q) X.xe s := by
  match ds, h, rd with
  | [y], h, rd =>
    obtain ⟨vy, rfl, ry⟩ := reps1 rd
    obtain ⟨j, hk, hp, hj, h⟩ := h
    obtain ⟨uy, rfl, ruy⟩ := ru.one
    obtain ⟨its, rv, ⟨⟨cls, dd, data, sls⟩, ho, hc, n, hdt⟩, hlen⟩ := I.tuple ht.sqT
    simp only at hc hdt
    subst hc hdt
    obtain ⟨d1, l1⟩ := dp_of y vy ry hk.p
    obtain ⟨d2, l2⟩ := dps_of xs vs rx hp
    obtain ⟨bs, r1⟩ := Dp.reads I _ vy uy d1 ruy
    obtain ⟨as, h4⟩ := Dp.readsAll I _ _ its d2 rv
    have hmap : its.map (SeqAt.readOf s.heap) = toPys xs := SeqAt.readsAll_map (toPys xs) its as l2 h4
    have hroom : X.A.units + 1 + min (PyData.depthAll (toPys xs)) (toPy y).depth < cLine := by
      have e : (toPy y).depth = depD y := rfl
      have := hk.n
      have := Nat.min_le_right (PyData.depthAll (toPys xs)) (toPy y).depth
      omega
    have hf : its.findIdx? (fun u => PyData.eqv (SeqAt.readOf s.heap u) (toPy y)) = some j := by
      have e1 := findIdx_map (SeqAt.readOf s.heap) (fun p => PyData.eqv p (toPy y)) its
      rw [hmap, toPys_map, findIdx_map] at e1
      exact e1.symm.trans hj
    rw [List.findIdx?_eq_some_iff_getElem] at hf
    obtain ⟨hjl, hj1, hj2⟩ := hf
    refine call_meets PySem.F.slot_tuple_index ⟨_, ho, rfl⟩ PySem.F.entry_tuple_index (PySem.F.args_tuple_index_2 _ _)
      (TI.tuple_indexAt a its.toArray n dd sls uy (fun u => PyData.eqv (SeqAt.readOf s.heap u) (toPy y)) j (by simpa using hjl) ?_ ?_) ⟨ho, SeqAt.items_eqAt (vs := its.toArray) (show ReadsAll s.heap its.toArray.toList (toPys xs) as from h4) r1 l2 l1 hroom, ?_⟩
    · simpa using hj1
    · intro m hm hmj
      simpa using hj2 m hmj
    · exact ⟨.int _, H, I.tok _, ⟨_, rfl⟩, q _ st _ H h (Ext.refl H) S rep_int⟩
def tTIndD (to : TED) (t : TAD) : TED := fun ρ st R => to ρ st fun x s1 => match x with
  | .tup xs => t ρ s1 fun ds s2 => dTIndex xs ds s2 R
  | _ => False
theorem ed_tindex {o : Expr} {to : TED} {apos cpos : Pos} (hu : X.A.units + 61 < cLine) (ho : PED J X o to) (ha : PAD J X (e :: es) t)
    (hbase : attributeBase o "index" X.env (eval o X.env) = eval o X.env := by rfl)
    (hfew : ((backTo cpos (starEach (e :: es) X.env)).all (fun x => !x.1) && (backToKw cpos (keywordEach [] X.env)).all (fun x => x.1.isSome)
      && decide ((e :: es).length + ([] : List Keyword).length + (if ([] : List Keyword).isEmpty then 0 else 1) < 30)) = true := by rfl)
    (hline : (apos.endLine == cpos.line) = true := by rfl) (hs : starEach (e :: es) X.env = (false, eval e X.env) :: starEach es X.env := by rfl) (hplain : (backTo cpos (starEach es X.env)).any (·.1) = false := by rfl) :
    PED J X (.Call (.Attribute o "index" apos) (e :: es) [] cpos) (tTIndD to t) := by
  refine ⟨fun pins s σ H Q I h => ?_⟩
  obtain ⟨ρ, st, R, re, S, h, q⟩ := h
  refine wpAny_Call_method_late hbase hfew hline rfl (thn (ho.run pins s σ H (fun vx H1 => ∃ xs s1 a vs, vx = .ref a ∧ TupOk X.K H1 a vs ∧ Reps X.K H1 xs vs ∧ Ext H H1 ∧ SimS X.K J s1 H1 ∧ t ρ s1 fun ds s2 => dTIndex xs ds s2 R) I
    ⟨ρ, st, _, re, S, h, fun x s1 vx H1 hx e1 S1 rx => ?_⟩) fun v t1 ⟨vx, H1, I1, r1, xs, s1, a, vs, ex, ht, rx, e1, S1, h1⟩ => ?_)
  · cases x <;> try exact (show False from hx).elim
    unfold Rep at rx
    obtain ⟨a, vs, rfl, h1, h2⟩ := rx
    exact ⟨_, s1, a, vs, rfl, h1, h2, e1, S1, hx⟩
  · subst ex
    cases r1
    obtain ⟨ty, ob, hob, hdn⟩ := tupOk_type I1 ht
    refine ⟨"tuple", "tuple.index", PySem.F.plainAttrs_tuple, PySem.F.slot_tuple_index, PySem.F.type_tuple_index, ty, fun b e => (by cases e; exact ⟨ob, hob, hdn⟩), ?_⟩
    have hA := ha.run cpos pins t1 σ H1 (fun ws H2 => ∃ ds s2, Reps X.K H2 ds ws ∧ Ext H1 H2 ∧ SimS X.K J s2 H2 ∧ dTIndex xs ds s2 R) I1 ⟨ρ, s1, _, re.ext e1, S1, h1, fun ds s2 ws H2 hd e2 S2 rs => ⟨ds, s2, rs, e2, S2, hd⟩⟩
    rw [hs] at hA ⊢
    refine Calls.callWith_builtin (show (false || (backTo cpos (starEach es X.env)).any (·.1)) = false by rw [hplain]; rfl) (Calls.evalArgs_plain (thn hA fun us t2 ⟨ws, H2, I2, r2, ds, s2, rs, e2, S2, hd⟩ => ?_))
    exact index_tup hu I2 (e2.tupOk ht) (Reps.ext e2 _ _ rx) rs r2 S2 hd (q.ext (e1.trans e2))
theorem PE.alt {t u : TE} (h : PE X e t) (k : PE X e u) : PE X e (fun σ H Q => t σ H Q ∨ u σ H Q) := ⟨fun p s σ H Q I q => q.elim (h.run p s σ H Q I) (k.run p s σ H Q I)⟩
def tIndexD (to : TED) (t : TAD) : TED := fun ρ st R => tTIndD to t ρ st R ∨ tMethD dIndex to t ρ st R
theorem ed_index {o : Expr} {to : TED} {apos cpos : Pos} (hu : X.A.units + 61 < cLine) (ho : PED J X o to) (ha : PAD J X (e :: es) t)
    (hbase : attributeBase o "index" X.env (eval o X.env) = eval o X.env := by rfl)
    (hfew : ((backTo cpos (starEach (e :: es) X.env)).all (fun x => !x.1) && (backToKw cpos (keywordEach [] X.env)).all (fun x => x.1.isSome)
      && decide ((e :: es).length + ([] : List Keyword).length + (if ([] : List Keyword).isEmpty then 0 else 1) < 30)) = true := by rfl)
    (hline : (apos.endLine == cpos.line) = true := by rfl) (hs : starEach (e :: es) X.env = (false, eval e X.env) :: starEach es X.env := by rfl) (hplain : (backTo cpos (starEach es X.env)).any (·.1) = false := by rfl) :
    PED J X (.Call (.Attribute o "index" apos) (e :: es) [] cpos) (tIndexD to t) := by
  refine PE.imp (PE.alt (ed_tindex hu ho ha hbase hfew hline hs hplain) (ed_meth PySem.F.slot_list_index PySem.F.type_list_index (md_index hu) ho ha hbase hfew hline hs hplain)) fun σ H Q h => ?_
  obtain ⟨ρ, st, R, re, S, h, q⟩ := h
  rcases h with h | h
  · exact .inl ⟨ρ, st, R, re, S, h, q⟩
  · exact .inr ⟨ρ, st, R, re, S, h, q⟩
end
end DL
-- text DLK
set_option Elab.async false
set_option linter.all false
set_option maxRecDepth 100000
set_option maxHeartbeats 2000000
/-! DLK: to work with readings: unfolding, promises by arity, loops and comprehensions by invariant -/
set_option exponentiation.threshold 600
namespace DL
open PySem PySem.Spec PyProof.Rows L2
/-! ### promises by arity -/
def sp1 (f : D → Stor → KD → Prop) : SpD := fun ds st R => match ds with
  | [a] => f a st R
  | _ => False
def sp2 (f : D → D → Stor → KD → Prop) : SpD := fun ds st R => match ds with
  | [a, b] => f a b st R
  | _ => False
def sp3 (f : D → D → D → Stor → KD → Prop) : SpD := fun ds st R => match ds with
  | [a, b, c] => f a b c st R
  | _ => False
def sp4 (f : D → D → D → D → Stor → KD → Prop) : SpD := fun ds st R => match ds with
  | [a, b, c, d] => f a b c d st R
  | _ => False
def sp5 (f : D → D → D → D → D → Stor → KD → Prop) : SpD := fun ds st R => match ds with
  | [a, b, c, d, e] => f a b c d e st R
  | _ => False
def sp6 (f : D → D → D → D → D → D → Stor → KD → Prop) : SpD := fun ds st R => match ds with
  | [a, b, c, d, e, g] => f a b c d e g st R
  | _ => False
def sp7 (f : D → D → D → D → D → D → D → Stor → KD → Prop) : SpD := fun ds st R => match ds with
  | [a, b, c, d, e, g, h] => f a b c d e g h st R
  | _ => False
theorem sp1.to {f : D → Stor → KD → Prop} {G : List D → Stor → KD → Prop} (h : ∀ a st R, f a st R → G [a] st R) : ∀ ds st R, sp1 f ds st R → G ds st R
  | [a], st, R, q => h a st R q
theorem sp2.to {f : D → D → Stor → KD → Prop} {G : List D → Stor → KD → Prop} (h : ∀ a b st R, f a b st R → G [a, b] st R) : ∀ ds st R, sp2 f ds st R → G ds st R
  | [a, b], st, R, q => h a b st R q
theorem sp3.to {f : D → D → D → Stor → KD → Prop} {G : List D → Stor → KD → Prop} (h : ∀ a b c st R, f a b c st R → G [a, b, c] st R) : ∀ ds st R, sp3 f ds st R → G ds st R
  | [a, b, c], st, R, q => h a b c st R q
theorem sp4.to {f : D → D → D → D → Stor → KD → Prop} {G : List D → Stor → KD → Prop} (h : ∀ a b c d st R, f a b c d st R → G [a, b, c, d] st R) : ∀ ds st R, sp4 f ds st R → G ds st R
  | [a, b, c, d], st, R, q => h a b c d st R q
theorem sp5.to {f : D → D → D → D → D → Stor → KD → Prop} {G : List D → Stor → KD → Prop} (h : ∀ a b c d e st R, f a b c d e st R → G [a, b, c, d, e] st R) : ∀ ds st R, sp5 f ds st R → G ds st R
  | [a, b, c, d, e], st, R, q => h a b c d e st R q
theorem sp6.to {f : D → D → D → D → D → D → Stor → KD → Prop} {G : List D → Stor → KD → Prop} (h : ∀ a b c d e g st R, f a b c d e g st R → G [a, b, c, d, e, g] st R) : ∀ ds st R, sp6 f ds st R → G ds st R
  | [a, b, c, d, e, g], st, R, q => h a b c d e g st R q
theorem sp7.to {f : D → D → D → D → D → D → D → Stor → KD → Prop} {G : List D → Stor → KD → Prop} (h : ∀ a b c d e g i st R, f a b c d e g i st R → G [a, b, c, d, e, g, i] st R) : ∀ ds st R, sp7 f ds st R → G ds st R
  | [a, b, c, d, e, g, i], st, R, q => h a b c d e g i st R q

theorem sp1.len {f : D → Stor → KD → Prop} : ∀ {ds : List D} {st : Stor} {R : KD}, sp1 f ds st R → ds.length = 1
  | [_], _, _, _ => rfl
theorem sp2.len {f : D → D → Stor → KD → Prop} : ∀ {ds : List D} {st : Stor} {R : KD}, sp2 f ds st R → ds.length = 2
  | [_, _], _, _, _ => rfl
theorem sp3.len {f : D → D → D → Stor → KD → Prop} : ∀ {ds : List D} {st : Stor} {R : KD}, sp3 f ds st R → ds.length = 3
  | [_, _, _], _, _, _ => rfl
theorem sp4.len {f : D → D → D → D → Stor → KD → Prop} : ∀ {ds : List D} {st : Stor} {R : KD}, sp4 f ds st R → ds.length = 4
  | [_, _, _, _], _, _, _ => rfl
theorem sp5.len {f : D → D → D → D → D → Stor → KD → Prop} : ∀ {ds : List D} {st : Stor} {R : KD}, sp5 f ds st R → ds.length = 5
  | [_, _, _, _, _], _, _, _ => rfl
theorem sp6.len {f : D → D → D → D → D → D → Stor → KD → Prop} : ∀ {ds : List D} {st : Stor} {R : KD}, sp6 f ds st R → ds.length = 6
  | [_, _, _, _, _, _], _, _, _ => rfl
theorem sp7.len {f : D → D → D → D → D → D → D → Stor → KD → Prop} : ∀ {ds : List D} {st : Stor} {R : KD}, sp7 f ds st R → ds.length = 7
  | [_, _, _, _, _, _, _], _, _, _ => rfl

/-! ### unfolding -/
def EndsD.onNx (E : EndsD) (n : Rho → Stor → Prop) : EndsD := { E with nx := n }
def EndsD.turn (E : EndsD) (n : Rho → Stor → Prop) : EndsD := { E with nx := n, ct := n, bk := E.nx }
def seqD (d : D) (s1 : Stor) (RI : List D → (Stor → Prop) → Stor → Prop) : Prop := match d with
  | .tup xs => RI xs (fun _ => True) s1
  | .ref a => ∃ xs, getL s1 a = some xs ∧ RI xs (fun s => getL s a = some xs) s1
  | .str z => RI (z.cps.toList.map fun c => .str ⟨#[c]⟩) (fun _ => True) s1
  | .ro xs => RI xs (fun _ => True) s1
  | _ => False
def enuD (d : D) (s1 : Stor) (RI : List (List D) → (Stor → Prop) → Stor → Prop) : Prop := match d with
  | .tup xs => RI (enumD 0 xs) (fun _ => True) s1
  | .ref a => ∃ xs, getL s1 a = some xs ∧ RI (enumD 0 xs) (fun s => getL s a = some xs) s1
  | _ => False
section
variable {s1 : Stor} {RI : List D → (Stor → Prop) → Stor → Prop} {RJ : List (List D) → (Stor → Prop) → Stor → Prop} {xs : List D} {z : Str} {a : Addr}
@[simp ↓] theorem x_seqT : seqD (.tup xs) s1 RI = RI xs (fun _ => True) s1 := rfl
@[simp ↓] theorem x_seqR : seqD (.ro xs) s1 RI = RI xs (fun _ => True) s1 := rfl
@[simp ↓] theorem x_seqS : seqD (.str z) s1 RI = RI (z.cps.toList.map fun c => .str ⟨#[c]⟩) (fun _ => True) s1 := rfl
theorem z_seq (g : getL s1 a = some xs) : seqD (.ref a) s1 RI = RI xs (fun s => getL s a = some xs) s1 := by
  show (∃ ys, _) = _
  exact propext ⟨fun ⟨ys, h1, h2⟩ => by rw [g] at h1; cases h1; exact h2, fun h => ⟨xs, g, h⟩⟩
@[simp ↓] theorem x_enuT : enuD (.tup xs) s1 RJ = RJ (enumD 0 xs) (fun _ => True) s1 := rfl
theorem z_enu (g : getL s1 a = some xs) : enuD (.ref a) s1 RJ = RJ (enumD 0 xs) (fun s => getL s a = some xs) s1 := by
  show (∃ ys, _) = _
  exact propext ⟨fun ⟨ys, h1, h2⟩ => by rw [g] at h1; cases h1; exact h2, fun h => ⟨xs, g, h⟩⟩
end
section
variable {E : EndsD} {n : Rho → Stor → Prop}
@[simp ↓] theorem x_on_nx : (E.onNx n).nx = n := rfl
@[simp ↓] theorem x_on_rt : (E.onNx n).rt = E.rt := rfl
@[simp ↓] theorem x_on_bk : (E.onNx n).bk = E.bk := rfl
@[simp ↓] theorem x_on_ct : (E.onNx n).ct = E.ct := rfl
@[simp ↓] theorem x_tu_nx : (E.turn n).nx = n := rfl
@[simp ↓] theorem x_tu_rt : (E.turn n).rt = E.rt := rfl
@[simp ↓] theorem x_tu_bk : (E.turn n).bk = E.nx := rfl
@[simp ↓] theorem x_tu_ct : (E.turn n).ct = n := rfl
end
section
variable {ρ : Rho} {st : Stor} {R : KD} {RT : Bool → Stor → Prop} {RA : List D → Stor → Prop} {E : EndsD}
@[simp ↓] theorem x_var0 (d : D) : tVarD 0 (some d :: ρ) st R = R d st := rfl
@[simp ↓] theorem x_varS (i : Nat) (o : Option D) : tVarD (i + 1) (o :: ρ) st R = tVarD i ρ st R := rfl
@[simp ↓] theorem x_c (d : D) : tCD d ρ st R = R d st := rfl
@[simp ↓] theorem x_op (r : RD2) (ta tb : TED) : tOpD r ta tb ρ st R = ta ρ st fun x s1 => tb ρ s1 fun y s2 => r x y s2 R := rfl
@[simp ↓] theorem x_un (r : RD1) (ta : TED) : tUnD r ta ρ st R = ta ρ st fun x s1 => r x s1 R := rfl
@[simp ↓] theorem x_call (r : RDL) (ta : TAD) : tCallD r ta ρ st R = ta ρ st fun ds s1 => r ds s1 R := rfl
@[simp ↓] theorem x_nil : tNilD ρ st RA = RA [] st := rfl
@[simp ↓] theorem x_cons (t : TED) (u : TAD) : tConsD t u ρ st RA = t ρ st fun d s1 => u ρ s1 fun ds s2 => RA (d :: ds) s2 := rfl
@[simp ↓] theorem x_test (t : TED) : tTestD t ρ st RT = t ρ st fun d s1 => (match d with
  | .bl b => RT b s1
  | _ => False) := rfl
@[simp ↓] theorem x_and (t u : TTD) : tAndD t u ρ st RT = t ρ st fun b s1 => if b = true then u ρ s1 RT else RT false s1 := rfl
@[simp ↓] theorem x_or (t u : TTD) : tOrD t u ρ st RT = t ρ st fun b s1 => if b = true then RT true s1 else u ρ s1 RT := rfl
@[simp ↓] theorem x_not (t : TTD) : tNotD t ρ st RT = t ρ st fun b s1 => RT (!b) s1 := rfl
@[simp ↓] theorem x_if (c : TTD) (ta tb : TED) : tIfD c ta tb ρ st R = c ρ st fun b s1 => if b = true then ta ρ s1 R else tb ρ s1 R := rfl
@[simp ↓] theorem x_andV (ta tb : TED) : tAndVD ta tb ρ st R = ta ρ st fun d s1 => (match d with
  | .bl b => if b = true then tb ρ s1 R else R (.bl false) s1
  | _ => False) := rfl
@[simp ↓] theorem x_orV (ta tb : TED) : tOrVD ta tb ρ st R = ta ρ st fun d s1 => (match d with
  | .bl b => if b = true then R (.bl true) s1 else tb ρ s1 R
  | _ => False) := rfl
@[simp ↓] theorem x_notV (ta : TED) : tNotVD ta ρ st R = ta ρ st fun d s1 => (match d with
  | .bl b => R (.bl (!b)) s1
  | _ => False) := rfl
@[simp ↓] theorem x_chain (r r' : RD2) (ta tb tc : TED) : tChainD r r' ta tb tc ρ st R = ta ρ st fun x s1 => tb ρ s1 fun y s2 => r x y s2 fun z s3 => (match z with
  | .bl k => if k = true then tc ρ s3 fun u s4 => r' y u s4 R else R (.bl false) s3
  | _ => False) := rfl
@[simp ↓] theorem x_tru (t : TED) : tTruD t ρ st RT = t ρ st fun d s1 => truD d s1 RT := rfl
@[simp ↓] theorem x_tup (t : TAD) : tTupD t ρ st R = t ρ st fun ds s1 => ds.length ≤ sizeLine ∧ R (.tup ds) s1 := rfl
@[simp ↓] theorem x_lst (t : TAD) : tLstD t ρ st R = t ρ st fun ds s1 => ds.length ≤ sizeLine ∧ ∀ p, s1 p = none → R (.ref p) (put s1 p (.lst ds)) := rfl
@[simp ↓] theorem x_meth (r : RDA) (to : TED) (t : TAD) : tMethD r to t ρ st R = to ρ st fun x s1 => (match x with
  | .ref a => (∃ xs, getL s1 a = some xs) ∧ t ρ s1 fun ds s2 => r a ds s2 R
  | _ => False) := rfl
@[simp ↓] theorem x_no {RO : Option Int → Stor → Prop} : tNoD ρ st RO = RO none st := rfl
@[simp ↓] theorem x_part {RO : Option Int → Stor → Prop} (t : TED) : tPartD t ρ st RO = t ρ st fun d s1 => (match d with
  | .int i => RO (some i) s1
  | _ => False) := rfl
@[simp ↓] theorem x_sl (r : RDS) (te : TED) (tl th : TOD) : tSlD r te tl th ρ st R = te ρ st fun x s1 => tl ρ s1 fun l s2 => th ρ s2 fun u s3 => r x l u s3 R := rfl
@[simp ↓] theorem x_gname0 {RE : Rho → Stor → Prop} (d : D) (o : Option D) : gNameD 0 d (o :: ρ) st RE = RE (some d :: ρ) st := rfl
@[simp ↓] theorem x_gnameS {RE : Rho → Stor → Prop} (i : Nat) (d : D) (o : Option D) : gNameD (i + 1) d (o :: ρ) st RE = gNameD i d ρ st fun ρ' s => RE (o :: ρ') s := rfl
@[simp ↓] theorem x_gnil {RE : Rho → Stor → Prop} : gNilD [] ρ st RE = RE ρ st := rfl
@[simp ↓] theorem x_gcons {RE : Rho → Stor → Prop} (t : TGD) (u : TGsD) (d : D) (ds : List D) : gConsD t u (d :: ds) ρ st RE = t d ρ st fun ρ1 s1 => u ds ρ1 s1 RE := rfl
@[simp ↓] theorem x_gtup {RE : Rho → Stor → Prop} (n : Nat) (t : TGsD) (ds : List D) : gTupD n t (.tup ds) ρ st RE = (ds.length = n ∧ t ds ρ st RE) := rfl
@[simp ↓] theorem x_gtup' {RE : Rho → Stor → Prop} (n : Nat) (t : TGsD) (ds : List D) : gTup' n t ds ρ st RE = (ds.length = n ∧ t ds ρ st RE) := rfl
@[simp ↓] theorem x_gsub {RE : Rho → Stor → Prop} (to ti : TED) (r : RSet) (d : D) : gSubD to ti r d ρ st RE = to ρ st fun o s1 => ti ρ s1 fun i s2 => (match o with
  | .ref a => r a i d s2 fun s3 => RE ρ s3
  | _ => False) := rfl
@[simp ↓] theorem x_next : sNextD E ρ st = E.nx ρ st := rfl
@[simp ↓] theorem x_seq (t u : TSD) : sSeqD t u E ρ st = t (E.onNx (u E)) ρ st := rfl
@[simp ↓] theorem x_break : sBreakD E ρ st = E.bk ρ st := rfl
@[simp ↓] theorem x_cont : sContD E ρ st = E.ct ρ st := rfl
@[simp ↓] theorem x_drop (te : TED) : sDropD te E ρ st = te ρ st fun _ s1 => E.nx ρ s1 := rfl
@[simp ↓] theorem x_ret (te : TED) : sRetD te E ρ st = te ρ st E.rt := rfl
@[simp ↓] theorem x_retN : sRetND E ρ st = E.rt .non st := rfl
@[simp ↓] theorem x_sif (c : TTD) (t u : TSD) : sIfD c t u E ρ st = c ρ st fun b s1 => if b = true then t E ρ s1 else u E ρ s1 := rfl
@[simp ↓] theorem x_asg (te : TED) (g : TGD) : sAsgD te g E ρ st = te ρ st fun d s1 => g d ρ s1 E.nx := rfl
@[simp ↓] theorem x_aug (i : Nat) (r : RD2) (te : TED) : sAugD i r te E ρ st = tVarD i ρ st fun d s => te ρ s fun y s1 => r d y s1 fun z s2 => gNameD i z ρ s2 E.nx := rfl
@[simp ↓] theorem x_for {α : Type} (it : TID α) (g : α → Rho → Stor → (Rho → Stor → Prop) → Prop) (tb : TSD) : sForD it g tb E ρ st = it ρ st fun items grd s1 => loopD grd g tb E items ρ s1 := rfl
@[simp ↓] theorem x_forget (t : TED) : tForget t ρ st R = t ρ st fun d s1 => ∃ s2, Sub s2 s1 ∧ R d s2 := rfl
@[simp ↓] theorem x_seqI (t : TED) {RI : List D → (Stor → Prop) → Stor → Prop} : iSeqD t ρ st RI = t ρ st fun d s1 => seqD d s1 RI := rfl
@[simp ↓] theorem x_rng1 (ta : TAD) {RI : List D → (Stor → Prop) → Stor → Prop} : iRng1D ta ρ st RI = ta ρ st fun ds s1 => (match ds with
  | [.int j] => (-(2 ^ 62) ≤ j ∧ j < 2 ^ 62) ∧ RI (rangeD 0 j.toNat) (fun _ => True) s1
  | _ => False) := rfl
@[simp ↓] theorem x_rng2 (ta : TAD) {RI : List D → (Stor → Prop) → Stor → Prop} : iRng2D ta ρ st RI = ta ρ st fun ds s1 => (match ds with
  | [.int i, .int j] => (-(2 ^ 62) ≤ i ∧ i < 2 ^ 62 ∧ -(2 ^ 62) ≤ j ∧ j < 2 ^ 62) ∧ RI (rangeD i (j - i).toNat) (fun _ => True) s1
  | _ => False) := rfl
@[simp ↓] theorem x_enum (t : TED) {RI : List (List D) → (Stor → Prop) → Stor → Prop} : iEnumD t ρ st RI = t ρ st fun d s1 => enuD d s1 RI := rfl
@[simp ↓] theorem x_lc {α : Type} (it : TID α) (g : α → Rho → Stor → (Rho → Stor → Prop) → Prop) (c : TTD) (e : TED) (vs : List Nat) : tLcD it g c e vs ρ st R =
  it ρ st fun items grd s1 => ∀ p, s1 p = none → compD grd g c e (wipeD ρ vs) p (fun s2 => R (.ref p) s2) items [] (put s1 p (.lst [])) := rfl
@[simp ↓] theorem x_yes : tYesD ρ st RT = RT true st := rfl
@[simp ↓] theorem x_ends_nx : (endsD R).nx ρ st = ∃ s2, Sub s2 st ∧ R .non s2 := rfl
@[simp ↓] theorem x_ends_rt (d : D) : (endsD R).rt d st = ∃ s2, Sub s2 st ∧ R d s2 := rfl
end
@[simp ↓] theorem x_wipe0 (ρ : Rho) : wipeD ρ [] = ρ := rfl
@[simp ↓] theorem x_wipe1 (ρ : Rho) (v : Nat) (vs : List Nat) : wipeD ρ (v :: vs) = (wipeD ρ vs).set v none := rfl
@[simp] theorem atI_0 {α : Type} (xs : List α) : atI xs 0 = xs[0]? := by
  unfold atI ixN; cases xs <;> simp
theorem atI_of {α : Type} {xs : List α} {j : Nat} {d : α} (h : xs[j]? = some d) : atI xs (j : Int) = some d := atI_nat h
theorem atI_nat' {α : Type} (xs : List α) (j : Nat) : atI xs (j : Int) = xs[j]? := by
  cases h : xs[j]? with
  | some d => exact atI_nat h
  | none =>
    rw [List.getElem?_eq_none_iff] at h
    unfold atI ixN
    rw [if_pos (Int.natCast_nonneg j), if_neg (by omega)]
    rfl
theorem atI_toNat {α : Type} {xs : List α} {i : Int} (h0 : 0 ≤ i) : atI xs i = xs[i.toNat]? := by
  obtain ⟨n, rfl⟩ := Int.eq_ofNat_of_zero_le h0
  exact atI_nat' xs n
@[simp] theorem atI_1 {α : Type} (xs : List α) : atI xs 1 = xs[1]? := atI_nat' xs 1
@[simp] theorem atI_2 {α : Type} (xs : List α) : atI xs 2 = xs[2]? := atI_nat' xs 2
@[simp] theorem atI_3 {α : Type} (xs : List α) : atI xs 3 = xs[3]? := atI_nat' xs 3
@[simp] theorem atI_4 {α : Type} (xs : List α) : atI xs 4 = xs[4]? := atI_nat' xs 4
@[simp] theorem atI_5 {α : Type} (xs : List α) : atI xs 5 = xs[5]? := atI_nat' xs 5
@[simp] theorem atI_6 {α : Type} (xs : List α) : atI xs 6 = xs[6]? := atI_nat' xs 6
@[simp] theorem put_self {st : Stor} {a : Addr} {c : Cell} : put st a c a = some c := put_same
theorem put_is_none {st : Stor} {a b : Addr} {c : Cell} : put st a c b = none ↔ b ≠ a ∧ st b = none := by
  by_cases h : b = a
  · subst h; simp [put]
  · simp [put, h]
@[simp] theorem getL_self {st : Stor} {a : Addr} {xs : List D} : getL (put st a (.lst xs)) a = some xs := getL_put
theorem Sub.put2 {s t : Stor} {a : Addr} {c : Cell} (h : Sub s t) (n : t a = none) : Sub s (DL.put t a c) := h.trans (Sub.put n)
theorem Sub.putN {s t : Stor} {a : Addr} {c : Cell} (h : Sub s t) (n : s a = none) : Sub s (DL.put t a c) := fun b d e => by
  by_cases hb : b = a
  · subst hb; rw [n] at e; cases e
  · rw [put_ne hb]; exact h b d e
theorem ne_put {s : Stor} {a b : Addr} {c : Cell} (h : s a = some c) (n : s b = none) : a ≠ b := fun e => by subst e; rw [h] at n; cases n
theorem getL_sub {s t : Stor} {a : Addr} {xs : List D} (h : Sub s t) (g : getL s a = some xs) : getL t a = some xs := by
  unfold getL at g ⊢
  cases e : s a with
  | none => rw [e] at g; cases g
  | some c => rw [h a c e]; rw [e] at g; exact g
theorem map_erase {α β : Type} (f : α → β) : ∀ (l : List α) (i : Nat), (l.map f).eraseIdx i = (l.eraseIdx i).map f
  | [], _ => by simp
  | x :: l, 0 => by simp
  | x :: l, i + 1 => by simp [map_erase f l i]
theorem sub_none {s t : Stor} {a : Addr} (h : Sub s t) (n : t a = none) : s a = none := by
  cases e : s a with
  | none => rfl
  | some c => rw [h _ _ e] at n; cases n
theorem size_small {n : Nat} (h : n ≤ 1000000) : n ≤ sizeLine := by rw [sizeLine_eq]; omega
theorem rangeD_len (lo : Int) (n : Nat) : (rangeD lo n).length = n := by simp [rangeD]
theorem rangeD_get {lo : Int} {n i : Nat} {x : D} (h : (rangeD lo n)[i]? = some x) : i < n ∧ x = .int (lo + (i : Nat)) := by
  unfold rangeD at h
  rw [List.getElem?_map] at h
  by_cases hi : i < n
  · rw [List.getElem?_range hi] at h
    exact ⟨hi, (Option.some.inj h).symm⟩
  · rw [List.getElem?_eq_none (by simpa using hi)] at h; cases h

/-! ### operations on known data -/
section
variable {st : Stor} {R : KD} {i j : Int} {a b : Str} {xs ys : List D} {p q : Addr} {n k l : Bool}
@[simp ↓] theorem y_add : dAdd (.int i) (.int j) st R = R (.int (i + j)) st := rfl
@[simp ↓] theorem y_addS : dAdd (.str a) (.str b) st R = (a.length + b.length ≤ sizeLine ∧ R (.str (a ++ b)) st) := rfl
@[simp ↓] theorem y_addT : dAdd (.tup xs) (.tup ys) st R = (xs.length + ys.length ≤ sizeLine ∧ R (.tup (xs ++ ys)) st) := rfl
theorem y_addL : dAdd (.ref p) (.ref q) st R = (∃ xs ys, st p = some (.lst xs) ∧ st q = some (.lst ys) ∧ xs.length + ys.length ≤ sizeLine ∧ ∀ r, st r = none → R (.ref r) (put st r (.lst (xs ++ ys)))) := rfl
@[simp ↓] theorem y_iadd : dIAdd (.int i) (.int j) st R = R (.int (i + j)) st := rfl
@[simp ↓] theorem y_iaddS : dIAdd (.str a) (.str b) st R = (a.length + b.length ≤ sizeLine ∧ R (.str (a ++ b)) st) := rfl
@[simp ↓] theorem y_sub : dSub (.int i) (.int j) st R = R (.int (i - j)) st := rfl
@[simp ↓] theorem y_mul : dMul (.int i) (.int j) st R = (IntMulOk i j ∧ R (.int (i * j)) st) := rfl
theorem y_fdiv : dFdiv (.int i) (.int j) st R = (j ≠ 0 ∧ j.natAbs.log2 < 9000 ∧ if 0 < j then R (.int (i / j)) st else R (.int (i.fdiv j)) st) := rfl
theorem y_mod : dMod (.int i) (.int j) st R = (j ≠ 0 ∧ if 0 < j then R (.int (i % j)) st else R (.int (i.fmod j)) st) := rfl
@[simp ↓] theorem y_pow : dPow (.int i) (.int j) st R = (CPow i j ∧ R (.int (i ^ j.toNat)) st) := rfl
@[simp ↓] theorem y_neg : dNeg (.int i) st R = R (.int (-i)) st := rfl
@[simp ↓] theorem y_intB {f : Int → Int → Bool} : dIntB f (.int i) (.int j) st R = R (.bl (f i j)) st := rfl
@[simp ↓] theorem y_eqI : dEqB n (.int i) (.int j) st R = R (.bl (n ^^ decide (i = j))) st := rfl
@[simp ↓] theorem y_eqS : dEqB n (.str a) (.str b) st R = R (.bl (n ^^ decide (a = b))) st := rfl
theorem y_eqL : dEqB n (.ref p) (.ref q) st R = (∃ xs ys, getL st p = some xs ∧ getL st q = some ys ∧ Okds xs ∧ pureDs ys = true ∧ R (.bl (n ^^ deqs xs ys)) st) := rfl
@[simp ↓] theorem y_eqT : dEqB n (.tup xs) (.tup ys) st R = (Okd (.tup xs) ∧ pureD (.tup ys) = true ∧ R (.bl (n ^^ deq (.tup xs) (.tup ys))) st) := rfl
@[simp ↓] theorem y_eqN : dEqB n .non .non st R = (Okd .non ∧ pureD .non = true ∧ R (.bl (n ^^ deq .non .non)) st) := rfl
@[simp ↓] theorem y_eqB : dEqB n (.bl k) (.bl l) st R = R (.bl (n ^^ decide (k = l))) st := by
  show (Okd (.bl k) ∧ pureD (.bl l) = true ∧ R (.bl (n ^^ deq (.bl k) (.bl l))) st) = _
  rw [deq_bl]
  exact propext ⟨fun h => h.2.2, fun h => ⟨.bl, rfl, h⟩⟩
@[simp ↓] theorem y_isN {x : D} : dIsN n x .non st R = R (.bl (n ^^ (match x with | .non => true | _ => false))) st := rfl
@[simp ↓] theorem y_inT {x : D} : dInB n x (.tup ys) st R = (Okd x ∧ pureDs ys = true ∧ R (.bl (n ^^ ys.any fun z => deq z x)) st) := rfl
theorem y_inL {x : D} : dInB n x (.ref p) st R = (∃ ys, getL st p = some ys ∧ Okd x ∧ pureDs ys = true ∧ R (.bl (n ^^ ys.any fun z => deq z x)) st) := rfl
theorem y_ixT : dIx (.tup xs) (.int i) st R = (∃ v, atI xs i = some v ∧ R v st) := rfl
theorem y_ixS : dIx (.str a) (.int i) st R = (∃ c, atI a.cps.toList i = some c ∧ R (.str ⟨#[c]⟩) st) := rfl
theorem y_ixL : dIx (.ref p) (.int i) st R = (∃ xs v, getL st p = some xs ∧ atI xs i = some v ∧ R v st) := rfl
theorem y_ixR : dIx (.ro xs) (.int i) st R = (∃ v, atI xs i = some v ∧ R v st) := rfl
@[simp ↓] theorem y_lenS : dLen [.str a] st R = R (.int (a.length : Nat)) st := rfl
@[simp ↓] theorem y_lenT : dLen [.tup xs] st R = R (.int (xs.length : Nat)) st := rfl
theorem y_lenL : dLen [.ref p] st R = (∃ xs, getL st p = some xs ∧ R (.int (xs.length : Nat)) st) := rfl
@[simp ↓] theorem y_lenR : dLen [.ro xs] st R = R (.int (xs.length : Nat)) st := rfl
@[simp ↓] theorem y_abs : dAbs [.int i] st R = R (.int (if i < 0 then -i else i)) st := rfl
@[simp ↓] theorem y_int : dInt [.int i] st R = R (.int i) st := rfl
@[simp ↓] theorem y_listT : dList [.tup xs] st R = ∀ p, st p = none → R (.ref p) (put st p (.lst xs)) := rfl
theorem y_listL : dList [.ref q] st R = ∃ xs, getL st q = some xs ∧ ∀ p, st p = none → R (.ref p) (put st p (.lst xs)) := rfl
@[simp ↓] theorem y_tupleT : dTuple [.tup xs] st R = R (.tup xs) st := rfl
theorem y_tupleL : dTuple [.ref q] st R = ∃ xs, getL st q = some xs ∧ R (.tup xs) st := rfl
@[simp ↓] theorem y_slT {lo hi : Option Int} : dSl (.tup xs) lo hi st R = R (.tup (cutD xs lo hi)) st := rfl
theorem y_slL {lo hi : Option Int} : dSl (.ref q) lo hi st R = ∃ xs, getL st q = some xs ∧ ∀ p, st p = none → R (.ref p) (put st p (.lst (cutD xs lo hi))) := rfl
@[simp ↓] theorem y_sl3 {te : TED} {tl th ts : TOD} {ρ : Rho} : tSl3D te tl th ts ρ st R = te ρ st fun x s1 => tl ρ s1 fun l s2 => th ρ s2 fun u s3 => ts ρ s3 fun c s4 => (match x with
  | .ref a => c ≠ some 0 ∧ ∃ xs, getL s4 a = some xs ∧ ∀ p, s4 p = none → R (.ref p) (put s4 p (.lst (pickD xs l u c)))
  | _ => False) := rfl
end
@[simp] theorem ixN_0 (n : Nat) : ixN n 0 = if 0 < n then some 0 else none := by
  unfold ixN; by_cases h : 0 < n <;> simp [h]
theorem ixN_nat (n j : Nat) : ixN n (j : Int) = if j < n then some j else none := by
  unfold ixN; by_cases h : j < n <;> simp [h]
@[simp] theorem ixN_1 (n : Nat) : ixN n 1 = if 1 < n then some 1 else none := ixN_nat n 1
@[simp] theorem ixN_2 (n : Nat) : ixN n 2 = if 2 < n then some 2 else none := ixN_nat n 2
@[simp] theorem ixN_3 (n : Nat) : ixN n 3 = if 3 < n then some 3 else none := ixN_nat n 3
theorem log_62 {m : Int} (h0 : 0 ≤ m) (h : m < 2 ^ 62) : m.natAbs.log2 < 9000 := by
  by_cases h0 : m.natAbs = 0
  · rw [h0]; decide
  · rw [Nat.log2_lt h0]
    have : m.natAbs < 2 ^ 62 := by omega
    exact Nat.lt_trans this (by decide +kernel)
theorem mul_l {i j : Int} (h1 : -(2 ^ 64) < i) (h2 : i < 2 ^ 64) : IntMulOk i j := .of_left (intBits_le_64 h1 h2)
theorem mul_r {i j : Int} (h1 : -(2 ^ 64) < j) (h2 : j < 2 ^ 64) : IntMulOk i j := .of_right (intBits_le_64 h1 h2)
theorem getL_some {st : Stor} {a : Addr} {xs : List D} (h : st a = some (.lst xs)) : getL st a = some xs := by unfold getL; rw [h]
/-! ### zip, bits, sum, index -/
section
variable {st : Stor} {R : KD} {ρ : Rho} {ta : TAD} {to : TED} {xs ys : List D} {i k : Int} {p q : Addr} {RJ : List (List D) → (Stor → Prop) → Stor → Prop}
@[simp ↓] theorem x_zip2 : iZip2D ta ρ st RJ = ta ρ st fun ds s1 => zp2D ds s1 RJ := rfl
@[simp ↓] theorem x_zp2T : zp2D [.tup xs, .tup ys] st RJ = RJ (zipD xs ys) (fun _ => True) st := rfl
theorem z_zp2 (g : getL st p = some xs) (h : getL st q = some ys) : zp2D [.ref p, .ref q] st RJ = RJ (zipD xs ys) (fun s => getL s p = some xs ∧ getL s q = some ys) st := by
  show (∃ us vs, _) = _
  exact propext ⟨fun ⟨us, vs, h1, h2, h3⟩ => by rw [g] at h1; rw [h] at h2; cases h1; cases h2; exact h3, fun z => ⟨xs, ys, g, h, z⟩⟩
theorem z_tindex (h : to ρ st fun x s1 => (match x with
  | .tup xs => ta ρ s1 fun ds s2 => dTIndex xs ds s2 R
  | _ => False)) : tIndexD to ta ρ st R := .inl h
theorem z_lindex (h : tMethD dIndex to ta ρ st R) : tIndexD to ta ρ st R := .inr h
@[simp ↓] theorem y_bits : dBits (.int i) st R = R (.int (Builtin.Int.intBits i : Nat)) st := rfl
theorem z_sum {ns : List Int} (g : getL st p = some (ns.map D.int)) : dSum [.ref p] st R = R (.int ns.sum) st := by
  show (∃ ms : List Int, _) = _
  refine propext ⟨fun ⟨ms, h1, h2⟩ => ?_, fun z => ⟨ns, g, z⟩⟩
  rw [g] at h1
  have e : ns = ms := by
    have e1 : ns.map D.int = ms.map D.int := Option.some.inj h1
    have inj : ∀ (a b : List Int), a.map D.int = b.map D.int → a = b := fun a => by
      induction a with
      | nil => intro b hb; cases b with
        | nil => rfl
        | cons y b => cases hb
      | cons x a ih => intro b hb; cases b with
        | nil => cases hb
        | cons y b => simp at hb; rw [hb.1, ih b (by simpa using hb.2)]
    exact inj _ _ e1
  rw [e]; exact h2
theorem y_mulT : dMul (.tup xs) (.int k) st R = (xs ≠ [] ∧ 2 ≤ k ∧ k ≤ 1000 ∧ xs.length ≤ 1000 ∧ R (.tup (List.replicate k.toNat xs).flatten) st) := rfl
theorem y_mulL : dMul (.ref p) (.int k) st R = (∃ xs, st p = some (.lst xs) ∧ -(2 ^ 63) ≤ k ∧ k < 2 ^ 63 ∧ xs.length * k.toNat ≤ sizeLine ∧ ∀ r, st r = none → R (.ref r) (put st r (.lst (List.replicate k.toNat xs).flatten))) := rfl
theorem z_mulL (h : st p = some (.lst xs)) (h0 : 0 ≤ k) (h1 : k < 2 ^ 62) (hl : xs.length * k.toNat ≤ sizeLine) : dMul (.ref p) (.int k) st R = ∀ r, st r = none → R (.ref r) (put st r (.lst (List.replicate k.toNat xs).flatten)) := by
  rw [y_mulL]
  exact propext ⟨fun ⟨ys, h1, _, _, _, h2⟩ => by rw [h] at h1; cases h1; exact h2, fun z => ⟨xs, h, by omega, by omega, hl, z⟩⟩
end
/-! ### kinds -/
section
variable {T : Tn} {st : Stor} {R : KD} {RT : Bool → Stor → Prop} {b : Bool} {i : Int} {x : Str} {xs : List D} {a : Addr} {c : Cell}
@[simp ↓] theorem w_isN : dIsi T .non st R = R (.bl false) st := rfl
@[simp ↓] theorem w_isB : dIsi T (.bl b) st R = R (.bl T.isBl) st := rfl
@[simp ↓] theorem w_isI : dIsi T (.int i) st R = R (.bl T.isInt) st := rfl
@[simp ↓] theorem w_isS : dIsi T (.str x) st R = R (.bl T.isStr) st := rfl
@[simp ↓] theorem w_isT : dIsi T (.tup xs) st R = R (.bl T.isTup) st := rfl
theorem w_isR (h : st a = some c) (hf : Cell.free c) : dIsi T (.ref a) st R = R (.bl (cellT T c)) st := by
  show (∃ d, _) = _
  exact propext ⟨fun ⟨d, h1, _, h2⟩ => by rw [h] at h1; cases h1; exact h2, fun z => ⟨c, h, hf, z⟩⟩
@[simp ↓] theorem w_truN : truD .non st RT = RT false st := rfl
@[simp ↓] theorem w_truB : truD (.bl b) st RT = RT b st := rfl
@[simp ↓] theorem w_truI : truD (.int i) st RT = RT (i != 0) st := rfl
@[simp ↓] theorem w_truS : truD (.str x) st RT = RT ((x.length : Int) != 0) st := rfl
@[simp ↓] theorem w_truT : truD (.tup xs) st RT = RT (!xs.isEmpty) st := rfl
theorem w_truL (g : getL st a = some xs) : truD (.ref a) st RT = RT (!xs.isEmpty) st := by
  show (∃ d, _) = _
  exact propext ⟨fun ⟨d, h1, h2⟩ => by rw [g] at h1; cases h1; exact h2, fun z => ⟨xs, g, z⟩⟩
end
@[simp] theorem w_isBl_int : Tn.isBl .int = true := rfl
@[simp] theorem w_isBl_bool : Tn.isBl .bool = true := rfl
@[simp] theorem w_isBl_str : Tn.isBl .str = false := rfl
@[simp] theorem w_isBl_tuple : Tn.isBl .tuple = false := rfl
@[simp] theorem w_isBl_list : Tn.isBl .list = false := rfl
@[simp] theorem w_isBl_dict : Tn.isBl .dict = false := rfl
@[simp] theorem w_isInt_int : Tn.isInt .int = true := rfl
@[simp] theorem w_isInt_bool : Tn.isInt .bool = false := rfl
@[simp] theorem w_isInt_str : Tn.isInt .str = false := rfl
@[simp] theorem w_isInt_tuple : Tn.isInt .tuple = false := rfl
@[simp] theorem w_isInt_list : Tn.isInt .list = false := rfl
@[simp] theorem w_isInt_dict : Tn.isInt .dict = false := rfl
@[simp] theorem w_isStr_int : Tn.isStr .int = false := rfl
@[simp] theorem w_isStr_bool : Tn.isStr .bool = false := rfl
@[simp] theorem w_isStr_str : Tn.isStr .str = true := rfl
@[simp] theorem w_isStr_tuple : Tn.isStr .tuple = false := rfl
@[simp] theorem w_isStr_list : Tn.isStr .list = false := rfl
@[simp] theorem w_isStr_dict : Tn.isStr .dict = false := rfl
@[simp] theorem w_isTup_int : Tn.isTup .int = false := rfl
@[simp] theorem w_isTup_bool : Tn.isTup .bool = false := rfl
@[simp] theorem w_isTup_str : Tn.isTup .str = false := rfl
@[simp] theorem w_isTup_tuple : Tn.isTup .tuple = true := rfl
@[simp] theorem w_isTup_list : Tn.isTup .list = false := rfl
@[simp] theorem w_isTup_dict : Tn.isTup .dict = false := rfl
@[simp] theorem w_isLst_int : Tn.isLst .int = false := rfl
@[simp] theorem w_isLst_bool : Tn.isLst .bool = false := rfl
@[simp] theorem w_isLst_str : Tn.isLst .str = false := rfl
@[simp] theorem w_isLst_tuple : Tn.isLst .tuple = false := rfl
@[simp] theorem w_isLst_list : Tn.isLst .list = true := rfl
@[simp] theorem w_isLst_dict : Tn.isLst .dict = false := rfl
@[simp] theorem w_isDic_int : Tn.isDic .int = false := rfl
@[simp] theorem w_isDic_bool : Tn.isDic .bool = false := rfl
@[simp] theorem w_isDic_str : Tn.isDic .str = false := rfl
@[simp] theorem w_isDic_tuple : Tn.isDic .tuple = false := rfl
@[simp] theorem w_isDic_list : Tn.isDic .list = false := rfl
@[simp] theorem w_isDic_dict : Tn.isDic .dict = true := rfl

/-! ### steps, head first -/
section
variable {st : Stor} {R : KD} {i j : Int} {n : Nat} {a b c d e f : D} {xs ys : List D} {p q : Addr} {k : Bool} {RT : Bool → Stor → Prop}
@[simp ↓] theorem z_ix0 : dIx (.tup (a :: xs)) (.int 0) st R = R a st := by rw [y_ixT]; simp
@[simp ↓] theorem z_ix1 : dIx (.tup (a :: b :: xs)) (.int 1) st R = R b st := by rw [y_ixT]; simp
@[simp ↓] theorem z_ix2 : dIx (.tup (a :: b :: c :: xs)) (.int 2) st R = R c st := by rw [y_ixT]; simp
@[simp ↓] theorem z_ix3 : dIx (.tup (a :: b :: c :: d :: xs)) (.int 3) st R = R d st := by rw [y_ixT]; simp
@[simp ↓] theorem z_ix4 : dIx (.tup (a :: b :: c :: d :: e :: xs)) (.int 4) st R = R e st := by rw [y_ixT]; simp
@[simp ↓] theorem z_ix5 : dIx (.tup (a :: b :: c :: d :: e :: f :: xs)) (.int 5) st R = R f st := by rw [y_ixT]; simp
/-- t[j] -/
theorem z_ixT (h : xs[n]? = some a) : dIx (.tup xs) (.int (n : Nat)) st R = R a st := by rw [y_ixT, atI_nat', h]; simp
theorem z_ixTi (h0 : 0 ≤ i) (h : xs[i.toNat]? = some a) : dIx (.tup xs) (.int i) st R = R a st := by rw [y_ixT, atI_toNat h0, h]; simp
/-- xs[j] of a list -/
theorem z_ixL (g : getL st p = some xs) (h : xs[n]? = some a) : dIx (.ref p) (.int (n : Nat)) st R = R a st := by rw [y_ixL, g]; simp [atI_nat', h]
theorem z_ixLi (g : getL st p = some xs) (h0 : 0 ≤ i) (h : xs[i.toNat]? = some a) : dIx (.ref p) (.int i) st R = R a st := by rw [y_ixL, g]; simp [atI_toNat h0, h]
theorem z_ixL0 (g : getL st p = some (a :: xs)) : dIx (.ref p) (.int 0) st R = R a st := by rw [y_ixL, g]; simp
theorem z_ixL1 (g : getL st p = some (a :: b :: xs)) : dIx (.ref p) (.int 1) st R = R b st := by rw [y_ixL, g]; simp
theorem z_ixL2 (g : getL st p = some (a :: b :: c :: xs)) : dIx (.ref p) (.int 2) st R = R c st := by rw [y_ixL, g]; simp
theorem z_ixL3 (g : getL st p = some (a :: b :: c :: d :: xs)) : dIx (.ref p) (.int 3) st R = R d st := by rw [y_ixL, g]; simp
theorem z_ixL4 (g : getL st p = some (a :: b :: c :: d :: e :: xs)) : dIx (.ref p) (.int 4) st R = R e st := by rw [y_ixL, g]; simp
theorem z_len (g : getL st p = some xs) : dLen [.ref p] st R = R (.int (xs.length : Nat)) st := by rw [y_lenL, g]; simp
theorem z_list (g : getL st q = some xs) : dList [.ref q] st R = ∀ p, st p = none → R (.ref p) (put st p (.lst xs)) := by rw [y_listL, g]; simp
theorem z_tuple (g : getL st q = some xs) : dTuple [.ref q] st R = R (.tup xs) st := by rw [y_tupleL, g]; simp
theorem z_sl {lo hi : Option Int} (g : getL st q = some xs) : dSl (.ref q) lo hi st R = ∀ p, st p = none → R (.ref p) (put st p (.lst (cutD xs lo hi))) := by rw [y_slL, g]; simp
theorem z_in {x : D} (g : getL st p = some ys) : dInB k x (.ref p) st R = (Okd x ∧ pureDs ys = true ∧ R (.bl (k ^^ ys.any fun z => deq z x)) st) := by rw [y_inL, g]; simp
/-- //, % by something above 0 -/
theorem z_fdiv (h : 0 < j) (h2 : j < 2 ^ 62) : dFdiv (.int i) (.int j) st R = R (.int (i / j)) st := by
  rw [y_fdiv, if_pos h]
  exact propext ⟨fun z => z.2.2, fun z => ⟨by omega, log_62 (by omega) h2, z⟩⟩
theorem z_mod (h : 0 < j) : dMod (.int i) (.int j) st R = R (.int (i % j)) st := by
  rw [y_mod, if_pos h]
  exact propext ⟨fun z => z.2, fun z => ⟨by omega, z⟩⟩
theorem ixL_all (g : getL st p = some xs) (h0 : 0 ≤ i) (h1 : i < (xs.length : Int)) (h : ∀ x ∈ xs, R x st) : dIx (.ref p) (.int i) st R := by
  have hl : i.toNat < xs.length := by omega
  rw [z_ixLi g h0 (List.getElem?_eq_getElem hl)]
  exact h _ (List.getElem_mem hl)
theorem ixT_all (h0 : 0 ≤ i) (h1 : i < (xs.length : Int)) (h : ∀ x ∈ xs, R x st) : dIx (.tup xs) (.int i) st R := by
  have hl : i.toNat < xs.length := by omega
  rw [z_ixTi h0 (List.getElem?_eq_getElem hl)]
  exact h _ (List.getElem_mem hl)
theorem ixS_all {z : Str} (h0 : 0 ≤ i) (h1 : i < (z.cps.toList.length : Int)) (h : ∀ c, R (.str ⟨#[c]⟩) st) : dIx (.str z) (.int i) st R := by
  have hl : i.toNat < z.cps.toList.length := by omega
  rw [y_ixS]
  exact ⟨_, by rw [atI_toNat h0]; exact List.getElem?_eq_getElem hl, h _⟩
theorem ixS_lit {z : Str} {m : Nat} (h0 : 0 ≤ i) (h1 : i < (m : Int)) (hz : z.cps.toList.length = m) (h : ∀ c, R (.str ⟨#[c]⟩) st) : dIx (.str z) (.int i) st R := ixS_all h0 (by rw [hz]; exact h1) h
/-- methods -/
theorem z_meth {r : RDA} {t : TAD} {to : TED} {ρ : Rho} (g : getL st p = some xs) (h : to ρ st = fun R' => R' (.ref p) st) : tMethD r to t ρ st R = t ρ st fun ds s2 => r p ds s2 R := by
  rw [x_meth, h]
  exact propext ⟨fun z => z.2, fun z => ⟨⟨_, g⟩, z⟩⟩
theorem z_append (h : st p = some (.lst xs)) (hl : xs.length < sizeLine) : dAppend p [a] st R = R .non (put st p (.lst (xs ++ [a]))) := by
  show (∃ ys, _) = _
  exact propext ⟨fun ⟨ys, h1, _, h3⟩ => by rw [h] at h1; cases h1; exact h3, fun z => ⟨xs, h, hl, z⟩⟩
end
theorem z_pop {st : Stor} {R : KD} {p : Addr} {xs : List D} {y : D} (h : st p = some (.lst (xs ++ [y]))) : dPop p [] st R = R y (put st p (.lst xs)) := by
  show (∃ zs z, _) = _
  refine propext ⟨fun ⟨zs, z, h1, h2, h3⟩ => ?_, fun z => ⟨_, y, h, by simp, by simpa using z⟩⟩
  rw [h] at h1
  cases h1
  simp at h2 h3
  subst h2
  exact h3
theorem z_extend {st : Stor} {R : KD} {p q : Addr} {xs ys : List D} (h : st p = some (.lst xs)) (k : st q = some (.lst ys)) (hl : xs.length + ys.length ≤ sizeLine) : dExtend p [.ref q] st R = R .non (put st p (.lst (xs ++ ys))) := by
  show (∃ us vs, _) = _
  refine propext ⟨fun ⟨us, vs, h1, h2, _, h3⟩ => ?_, fun z => ⟨xs, ys, h, k, hl, z⟩⟩
  rw [h] at h1; rw [k] at h2
  cases h1; cases h2
  exact h3
theorem getL_puts {st : Stor} {a b : Addr} {c : Cell} (h : b ≠ a) : getL (put st a c) b = getL st b := getL_ne h

theorem rangeD_int {lo : Int} {n i : Nat} {x : D} (h : (rangeD lo n)[i]? = some x) : ∃ k : Int, x = .int k ∧ k = lo + i ∧ i < n := by
  obtain ⟨h1, h2⟩ := rangeD_get h
  exact ⟨_, h2, rfl, h1⟩
theorem cutD_to {α : Type} (xs : List α) (k : Nat) : cutD xs none (some (k : Int)) = xs.take k := by
  unfold cutD
  rw [HT.sIx_nat, HT.sIx_none]
  simp
theorem cutD_from {α : Type} (xs : List α) (k : Nat) : cutD xs (some (k : Int)) none = xs.drop k := by
  unfold cutD
  rw [HT.sIx_nat, HT.sIx_none]
  by_cases h : k ≤ xs.length
  · rw [Nat.min_eq_left h, List.take_of_length_le (by simp)]
  · rw [Nat.min_eq_right (by omega), List.drop_eq_nil_of_le (Nat.le_refl _), List.drop_eq_nil_of_le (by omega)]
    simp
theorem pickD_mem {α : Type} {xs : List α} {lo hi c : Option Int} {x : α} (h : x ∈ pickD xs lo hi c) : x ∈ xs := by
  unfold pickD at h
  obtain ⟨i, _, h2⟩ := List.mem_filterMap.mp h
  exact List.mem_of_getElem? h2
/-! ### comprehensions and loops by invariant: N is what a turn has to reach -/
section
variable {α : Type} {grd : Stor → Prop} {g : α → Rho → Stor → (Rho → Stor → Prop) → Prop} {c : TTD} {e : TED} {ρ : Rho} {p : Addr} {R : Stor → Prop} {items : List α}
theorem comp_inv {st : Stor} (P : Nat → List D → Stor → Prop) (hz : items.length ≤ sizeLine) (h0 : P 0 [] st) (hg : ∀ i acc st, P i acc st → grd st ∧ st p = some (.lst acc) ∧ acc.length ≤ i)
    (hs : ∀ i x acc st, items[i]? = some x → P i acc st → ∀ (Y : D → Stor → Prop) (Z : Stor → Prop), (∀ v s4 s3, Sub s4 s3 → s4 p = some (.lst acc) → P (i + 1) (acc ++ [v]) (put s4 p (.lst (acc ++ [v]))) → Y v s3) → (∀ s4 s3, Sub s4 s3 → P (i + 1) acc s4 → Z s3) →
      g x ρ st fun ρ1 s1 => c ρ1 s1 fun b s2 => if b = true then e ρ1 s2 Y else Z s2)
    (hd : ∀ acc st, P items.length acc st → R st) : compD grd g c e ρ p R items [] st := by
  have main : ∀ (n i : Nat) (acc : List D) (st : Stor), n = items.length - i → i ≤ items.length → P i acc st → compD grd g c e ρ p R (items.drop i) acc st := by
    intro n
    induction n with
    | zero =>
      intro i acc st hn hi q
      have ei : i = items.length := by omega
      subst ei
      rw [List.drop_length]
      exact ⟨(hg _ _ _ q).1, hd _ _ q⟩
    | succ n ih =>
      intro i acc st hn hi q
      have hlt : i < items.length := by omega
      rw [← List.getElem_cons_drop hlt]
      obtain ⟨g1, g2, g3⟩ := hg _ _ _ q
      refine ⟨g1, fun o s3 => match o with
        | some v => ∃ s4, Sub s4 s3 ∧ s4 p = some (.lst acc) ∧ P (i + 1) (acc ++ [v]) (put s4 p (.lst (acc ++ [v])))
        | none => ∃ s4, Sub s4 s3 ∧ P (i + 1) acc s4, hs i _ acc st (List.getElem?_eq_getElem hlt) q _ _ (fun v s4 s3 a b d => ⟨s4, a, b, d⟩) (fun s4 s3 a d => ⟨s4, a, d⟩), fun v s3 ⟨s4, a, b, d⟩ => ⟨s4, a, b, by omega, ih _ _ _ (by omega) hlt d⟩, fun s3 ⟨s4, a, d⟩ => ⟨s4, a, ih _ _ _ (by omega) hlt d⟩⟩
  have := main items.length 0 [] st (by simp) (Nat.zero_le _) h0
  simpa using this
/-- the rest of the store stays -/
theorem comp_keep {s : Stor} (Q : Nat → List D → Prop) (hz : items.length ≤ sizeLine) (h0 : Q 0 []) (hg : ∀ acc, grd (put s p (.lst acc))) (hl : ∀ i acc, Q i acc → acc.length ≤ i)
    (hs : ∀ i x acc, items[i]? = some x → Q i acc → ∀ (Y : D → Stor → Prop) (Z : Stor → Prop), (∀ v s3, Sub (put s p (.lst acc)) s3 → Q (i + 1) (acc ++ [v]) → Y v s3) → (∀ s3, Sub (put s p (.lst acc)) s3 → Q (i + 1) acc → Z s3) →
      g x ρ (put s p (.lst acc)) fun ρ1 s1 => c ρ1 s1 fun b s2 => if b = true then e ρ1 s2 Y else Z s2)
    (hd : ∀ acc, Q items.length acc → R (put s p (.lst acc))) : compD grd g c e ρ p R items [] (put s p (.lst [])) := by
  have main : ∀ (n i : Nat) (acc : List D), n = items.length - i → i ≤ items.length → Q i acc → compD grd g c e ρ p R (items.drop i) acc (put s p (.lst acc)) := by
    intro n
    induction n with
    | zero =>
      intro i acc hn hi q
      have ei : i = items.length := by omega
      subst ei
      rw [List.drop_length]
      exact ⟨hg _, hd _ q⟩
    | succ n ih =>
      intro i acc hn hi q
      have hlt : i < items.length := by omega
      rw [← List.getElem_cons_drop hlt]
      have := hl _ _ q
      refine ⟨hg _, fun o s3 => match o with
        | some v => Sub (put s p (.lst acc)) s3 ∧ Q (i + 1) (acc ++ [v])
        | none => Sub (put s p (.lst acc)) s3 ∧ Q (i + 1) acc, hs i _ acc (List.getElem?_eq_getElem hlt) q _ _ (fun v s3 a b => ⟨a, b⟩) (fun s3 a b => ⟨a, b⟩), fun v s3 ⟨a, d⟩ => ⟨_, a, put_same, by omega, by rw [put_put]; exact ih _ _ (by omega) hlt d⟩, fun s3 ⟨a, d⟩ => ⟨_, a, ih _ _ (by omega) hlt d⟩⟩
  have := main items.length 0 [] (by simp) (Nat.zero_le _) h0
  simpa using this
end
section
variable {α : Type} {grd : Stor → Prop} {g : α → Rho → Stor → (Rho → Stor → Prop) → Prop} {tb : TSD} {E : EndsD} {items : List α} {ρ : Rho}
/-- a loop by its invariant, over any store -/
theorem loop_any {st : Stor} (P : Nat → Rho → Stor → Prop) (h0 : P 0 ρ st) (hg : ∀ i ρ st, P i ρ st → grd st)
    (hs : ∀ i x ρ st, items[i]? = some x → P i ρ st → ∀ N : Rho → Stor → Prop, (∀ ρ' s2 st', Sub s2 st' → P (i + 1) ρ' s2 → N ρ' st') → g x ρ st fun ρ1 s1 => tb (E.turn N) ρ1 s1)
    (hd : ∀ ρ st, P items.length ρ st → E.nx ρ st) : loopD grd g tb E items ρ st := by
  have main : ∀ (n i : Nat) (ρ : Rho) (st : Stor), n = items.length - i → i ≤ items.length → P i ρ st → loopD grd g tb E (items.drop i) ρ st := by
    intro n
    induction n with
    | zero =>
      intro i ρ st hn hi p
      have ei : i = items.length := by omega
      subst ei
      rw [List.drop_length]
      exact ⟨hg _ _ _ p, hd _ _ p⟩
    | succ n ih =>
      intro i ρ st hn hi p
      have hlt : i < items.length := by omega
      rw [← List.getElem_cons_drop hlt]
      exact ⟨hg _ _ _ p, fun ρ' st' => ∃ s2, Sub s2 st' ∧ P (i + 1) ρ' s2, hs i _ ρ st (List.getElem?_eq_getElem hlt) p _ (fun ρ' s2 st' a b => ⟨s2, a, b⟩), fun ρ' st' ⟨s2, sub, p'⟩ => ⟨s2, sub, ih (i + 1) ρ' s2 (by omega) hlt p'⟩⟩
  have := main items.length 0 ρ st (by simp) (Nat.zero_le _) h0
  simpa using this
/-- a loop that keeps the store (but for what it forgets) -/
theorem loop_keep {s : Stor} (Q : Nat → Rho → Prop) (h0 : Q 0 ρ) (hg : grd s)
    (hs : ∀ i x ρ, items[i]? = some x → Q i ρ → ∀ N : Rho → Stor → Prop, (∀ ρ' st', Sub s st' → Q (i + 1) ρ' → N ρ' st') → g x ρ s fun ρ1 s1 => tb (E.turn N) ρ1 s1)
    (hd : ∀ ρ, Q items.length ρ → E.nx ρ s) : loopD grd g tb E items ρ s :=
  loop_any (fun i ρ st => st = s ∧ Q i ρ) ⟨rfl, h0⟩ (fun i ρ st h => h.1 ▸ hg) (fun i x ρ st hx ⟨e, q⟩ N hN => by subst e; exact hs i x ρ hx q N fun ρ' st' a b => hN ρ' st st' a ⟨rfl, b⟩) fun ρ st ⟨e, q⟩ => by subst e; exact hd ρ q
/-- a loop that builds one list at p -/
theorem loop_list {s : Stor} {p : Addr} {acc0 : List D} (Q : Nat → List D → Rho → Prop) (h0 : Q 0 acc0 ρ) (hg : ∀ acc, grd (put s p (.lst acc)))
    (hs : ∀ i x acc ρ, items[i]? = some x → Q i acc ρ → ∀ N : Rho → Stor → Prop, (∀ acc' ρ' st', Sub (put s p (.lst acc')) st' → Q (i + 1) acc' ρ' → N ρ' st') → g x ρ (put s p (.lst acc)) fun ρ1 s1 => tb (E.turn N) ρ1 s1)
    (hd : ∀ acc ρ, Q items.length acc ρ → E.nx ρ (put s p (.lst acc))) : loopD grd g tb E items ρ (put s p (.lst acc0)) :=
  loop_any (fun i ρ st => ∃ acc, st = put s p (.lst acc) ∧ Q i acc ρ) ⟨acc0, rfl, h0⟩ (fun i ρ st ⟨acc, e, _⟩ => e ▸ hg acc)
    (fun i x ρ st hx ⟨acc, e, q⟩ N hN => by subst e; exact hs i x acc ρ hx q N fun acc' ρ' st' a b => hN ρ' _ st' a ⟨acc', rfl, b⟩) fun ρ st ⟨acc, e, q⟩ => by subst e; exact hd acc ρ q
end
/-- one turn of a while -/
def turnW (W : Nat → Rho → Stor → Prop) (m : Nat) (tb : TSD) (E : EndsD) (ρ : Rho) (s1 : Stor) : Prop :=
  ∃ N : Rho → Stor → Prop, (∀ ρ' st', N ρ' st' → ∃ m' s2, m' < m ∧ Sub s2 st' ∧ W m' ρ' s2) ∧ tb { E with nx := N, ct := N, bk := E.nx } ρ s1
theorem turn_go {W : Nat → Rho → Stor → Prop} {m : Nat} {tb : TSD} {E : EndsD} {ρ : Rho} {s1 : Stor} (h : ∀ N : Rho → Stor → Prop, (∀ m' ρ' s2 st', m' < m → Sub s2 st' → W m' ρ' s2 → N ρ' st') → tb (E.turn N) ρ s1) : turnW W m tb E ρ s1 :=
  ⟨fun ρ' st' => ∃ m' s2, m' < m ∧ Sub s2 st' ∧ W m' ρ' s2, fun _ _ h => h, h _ fun m' ρ' s2 st' a b d => ⟨m', s2, a, b, d⟩⟩
/-- while, by what goes down -/
theorem while_any {c : TTD} {tb : TSD} {E : EndsD} {ρ : Rho} {st : Stor} (W : Nat → Rho → Stor → Prop) (m : Nat) (h0 : W m ρ st)
    (hs : ∀ m ρ st, W m ρ st → c ρ st fun b s1 => if b = true then turnW W m tb E ρ s1 else E.nx ρ s1) : sWhileD c tb E ρ st := ⟨W, ⟨m, h0⟩, hs⟩
theorem comp_range {v n : Nat} {ρ : Rho} {p : Addr} {R : Stor → Prop} {s : Stor} (hv : v < ρ.length) (hn : n ≤ sizeLine) (h : R (put s p (.lst (rangeD 0 n)))) : compD (fun _ => True) (gNameD v) tYesD (tVarD v) ρ p R (rangeD 0 n) [] (put s p (.lst [])) := by
  have hl := rangeD_len 0 n
  refine comp_keep (fun i acc => acc = (rangeD 0 n).take i) (by rw [hl]; exact hn) (by simp) (fun _ => trivial) (fun i acc q => by subst q; exact List.length_take_le _ _) (fun i x acc hx q Y Z hY hZ => ?_) fun acc q => ?_
  · subst q
    unfold gNameD tYesD
    simp only [if_true]
    have e : (ρ.set v (some x))[v]? = some (some x) := List.getElem?_set_self hv
    unfold tVarD
    rw [e]
    refine hY _ _ (Sub.refl _) ?_
    rw [List.take_add_one, hx]
    rfl
  · subst q
    rw [List.take_length]
    exact h
theorem Sub.at {s t : Stor} {a : Addr} {c : Cell} (h : Sub s t) (e : t a = some c) : Sub (DL.put s a c) t := fun b d k => by
  by_cases hb : b = a
  · subst hb; rw [put_same] at k; rw [e]; exact k
  · rw [put_ne hb] at k; exact h b d k
theorem rangeD_ints (n : Nat) : rangeD 0 n = (List.range n).map fun (i : Nat) => D.int (i : Int) := by
  unfold rangeD; simp
theorem rangeD_map (n : Nat) : rangeD 0 n = ((List.range n).map fun (i : Nat) => (i : Int)).map D.int := by
  rw [rangeD_ints, List.map_map]; rfl
theorem ixN_i {n : Nat} {i : Int} (h0 : 0 ≤ i) (h1 : i < n) : ixN n i = some i.toNat := by
  unfold ixN; rw [if_pos h0, if_pos h1]
@[simp] theorem okd_int {i : Int} : Okd (.int i) ↔ True := ⟨fun _ => trivial, fun _ => .int⟩
@[simp] theorem okd_str {i : Str} : Okd (.str i) ↔ True := ⟨fun _ => trivial, fun _ => .str⟩
@[simp] theorem okd_bl {i : Bool} : Okd (.bl i) ↔ True := ⟨fun _ => trivial, fun _ => .bl⟩
@[simp] theorem okd_non : Okd .non ↔ True := ⟨fun _ => trivial, fun _ => .non⟩
@[simp] theorem pureDs_ints (is : List Int) : pureDs (is.map D.int) = true := by
  rw [pureDs_all, List.all_eq_true]; intro x hx; obtain ⟨i, _, rfl⟩ := List.mem_map.mp hx; rfl
theorem z_count {st : Stor} {R : KD} {p : Addr} {xs : List D} {x : D} (g : getL st p = some xs) (h : Okd x) (h2 : pureDs xs = true) : dCount p [x] st R = R (.int ((xs.countP fun y => deq y x : Nat) : Int)) st := by
  show (∃ ys, _) = _
  refine propext ⟨fun ⟨ys, h1, _, _, h3⟩ => ?_, fun z => ⟨xs, g, h, h2, z⟩⟩
  rw [g] at h1; cases h1; exact h3
theorem z_str {st : Stor} {R : KD} {n : Nat} (h : n < 10 ^ 500) : dStrI [.int (n : Int)] st R = R (.str (natS n)) st := by
  show (∃ m : Nat, _) = _
  refine propext ⟨fun ⟨m, h1, _, h3⟩ => ?_, fun z => ⟨n, rfl, h, z⟩⟩
  have : n = m := by omega
  rw [this]; exact h3
end DL
-- text DTA
set_option Elab.async false
set_option linter.all false
set_option maxRecDepth 100000
set_option maxHeartbeats 2000000
/-! DTA: the tape [great numbers, a mixed number] -/
namespace DL
open PySem PySem.Spec PyProof.Rows L2
abbrev tAIdx := Addr × Addr
def tAM : Int := 2305843009213693951
def tAAs (i : tAIdx) : List Addr := [i.1, i.2]
def tAOk (i : tAIdx) (f : Addr → Cell) : Prop := i.1 ≠ i.2 ∧ ∃ (ns : List Int) (z : Int), f i.1 = .lst [.ref i.2, .int z] ∧ f i.2 = .lst (ns.map .int) ∧ 0 ≤ z ∧ z < tAM
/-- what a draw promises -/
abbrev spDraw (t : Addr) : SpD := sp2 fun x y st R => ∃ m, x = .ref t ∧ y = .int m ∧ 1 ≤ m ∧ m < 2 ^ 62 ∧ ∀ r, 0 ≤ r → r < m → R (.int r) st
/-- the same over the open cells -/
abbrev spDraw0 (t g : Addr) : SpD := sp2 fun x y st R => ∃ (m : Int) (ns : List Int) (z : Int), x = .ref t ∧ y = .int m ∧ 1 ≤ m ∧ m < 2 ^ 62 ∧ t ≠ g ∧ st t = some (.lst [.ref g, .int z]) ∧ st g = some (.lst (ns.map D.int)) ∧ 0 ≤ z ∧ z < tAM ∧
  ∀ (r : Int) (st' : Stor) (ns' : List Int) (z' : Int), 0 ≤ r → r < m → 0 ≤ z' → z' < tAM → st' t = some (.lst [.ref g, .int z']) → st' g = some (.lst (List.map D.int ns')) → (∀ a, a ≠ t → a ≠ g → st' a = st a) → R (.int r) st'
abbrev spTape : SpD := sp1 fun x st R => ∃ ns : List Int, x = .ro (ns.map .int) ∧ ns.length ≤ 63 ∧ (∀ z ∈ ns, Builtin.Int.intBits z ≤ 1048576) ∧
  ∀ (t g : Addr) (ms : List Int) (z : Int) (st' : Stor), t ≠ g → 0 ≤ z → z < tAM → st' t = some (.lst [.ref g, .int z]) → st' g = some (.lst (List.map D.int ms)) → R (.ref t) st'
@[simp ↓] theorem z_draw {t : Addr} {m : Int} {st : Stor} {R : KD} : spDraw t [.ref t, .int m] st R = (1 ≤ m ∧ m < 2 ^ 62 ∧ ∀ r, 0 ≤ r → r < m → R (.int r) st) := by
  refine propext ⟨fun ⟨m', _, e, h⟩ => ?_, fun h => ⟨m, rfl, rfl, h⟩⟩
  cases e
  exact h
theorem tA_hide {P : Program} {w : World} {K : PySem.W.Frag} {mg : Str → Option Value} {base : Heap} {x : Str} {k : Nat} {ps : List Str} (i : tAIdx) (F : DefD P w K mg base Hid.none x k ps (spDraw0 i.1 i.2)) : DefD P w K mg base (hidJ K (tAAs i) (tAOk i)) x k ps (spDraw i.1) := by
  refine F.hide fun f ds st R p hn h => ?_
  rcases ds with _ | ⟨x, _ | ⟨y, _ | ⟨z, w⟩⟩⟩
  · exact h.elim
  · exact h.elim
  · obtain ⟨m, rfl, rfl, h1, h2, hr⟩ := h
    obtain ⟨hne, ns, z, e1, e2, z0, z1⟩ := p
    have m1 : i.1 ∈ tAAs i := List.mem_cons_self
    have m2 : i.2 ∈ tAAs i := List.mem_cons_of_mem _ List.mem_cons_self
    refine ⟨m, ns, z, rfl, rfl, h1, h2, hne, ?_, ?_, z0, z1, fun r st' ns' z' r0 r1 a0 a1 s1 s2 s3 => ?_⟩
    · unfold over; rw [if_pos m1, e1]
    · unfold over; rw [if_pos m2, e2]
    · refine ⟨fun a => if a = i.1 then .lst [.ref i.2, .int z'] else .lst (List.map D.int ns'), st, ⟨hne, ns', z', if_pos rfl, if_neg (fun q => hne q.symm), a0, a1⟩, fun a ha => ?_, fun a c e => ?_, hr r r0 r1⟩
      · rcases List.mem_cons.mp ha with rfl | ha
        · rw [s1]; simp
        · rcases List.mem_cons.mp ha with rfl | ha
          · rw [s2]; simp [Ne.symm hne]
          · cases ha
      · have na : a ∉ tAAs i := fun q => by rw [hn a q] at e; cases e
        have n1 : a ≠ i.1 := fun q => na (q ▸ m1)
        have n2 : a ≠ i.2 := fun q => na (q ▸ m2)
        refine ⟨na, ?_⟩
        rw [s3 a n1 n2]
        unfold over
        rw [if_neg na]
        exact e
  · exact h.elim
/-- the script, as the law's def gets it -/
theorem script_up {K : PySem.W.Frag} {H : Hp} {a : Addr} {ns : List Int} {sp : SpD} {R : KD} {Q : VK} {E : XK} (hO : Only H) (hS : SqL K H a (ns.map V.int)) (h : sp [.ro (ns.map .int)] (fun _ => none) R) (q : After K Hid.none H R Q) : spUp K Hid.none sp [.ref a] H Q E := by
  refine ⟨[.ro (ns.map .int)], fun _ => none, R, .cons ?_ .nil, ⟨fun a c e => (by cases e), trivial, fun a z => rfl⟩, h, q⟩
  unfold Rep
  refine ⟨a, _, rfl, ?_, Reps.ints ns⟩
  rcases hS with (h | ⟨o, h⟩) | h
  · rcases hO a with z | ⟨o, xs, z⟩
    · rw [h] at z; cases z
    · rw [h] at z; cases z
  · exact .inl ⟨o, h⟩
  · exact .inr h
/-- the tape made, and hidden -/
theorem tA_start {ns : List Int} {E : EndsD} {ρ : Rho} {st : Stor} {tr : tAIdx → TSD} {o : Option D} (hl : ns.length ≤ 63) (hb : ∀ z ∈ ns, Builtin.Int.intBits z ≤ 1048576) (h : ∀ t s0 i, i.1 = t → tr i E (some (.ro (ns.map .int)) :: some (.ref t) :: ρ) s0) :
    sHideD tAAs tAOk (sAsgD (tCallD spTape (tConsD (tVarD 0) tNilD)) (gNameD 1)) tr E (some (.ro (ns.map .int)) :: o :: ρ) st := by
  unfold sHideD
  refine ⟨ns, rfl, hl, hb, fun t g ms z st' hne z0 z1 e1 e2 => ?_⟩
  refine ⟨(t, g), fun a => if a = t then .lst [.ref g, .int z] else .lst (ms.map .int), ⟨hne, ms, z, if_pos rfl, if_neg fun q => hne q.symm, z0, z1⟩, fun a ha => ?_, h t _ (t, g) rfl⟩
  rcases List.mem_cons.mp ha with rfl | ha
  · rw [e1]; simp
  · rcases List.mem_cons.mp ha with rfl | ha
    · rw [e2]; simp [Ne.symm hne]
    · cases ha
end DL
-- text DTB
set_option Elab.async false
set_option linter.all false
set_option maxRecDepth 100000
set_option maxHeartbeats 2000000
/-! DTB: the pot [great numbers, plain numbers, a mixed number, a count] -/
namespace DL
open PySem PySem.Spec PyProof.Rows L2
abbrev tBIdx := Addr × Addr × Addr
def tBAs (i : tBIdx) : List Addr := [i.1, i.2.1, i.2.2]
def tBOk (i : tBIdx) (f : Addr → Cell) : Prop := (i.1 ≠ i.2.1 ∧ i.1 ≠ i.2.2 ∧ i.2.1 ≠ i.2.2) ∧ ∃ (ns ps : List Int) (z c : Int), f i.1 = .lst [.ref i.2.1, .ref i.2.2, .int z, .int c] ∧ f i.2.1 = .lst (ns.map .int) ∧ f i.2.2 = .lst (ps.map .int) ∧ ps ≠ [] ∧ 0 ≤ c
/-- what a draw promises -/
abbrev spDrawB (t : Addr) : SpD := sp2 fun x y st R => ∃ m, x = .ref t ∧ y = .int m ∧ m < 2 ^ 62 ∧ ∀ r, 0 ≤ r → (r < m ∨ r = 0) → R (.int r) st
/-- the same over the open cells -/
abbrev spDrawB0 (t g p : Addr) : SpD := sp2 fun x y st R => ∃ (m : Int) (ns ps : List Int) (z c : Int), x = .ref t ∧ y = .int m ∧ m < 2 ^ 62 ∧ (t ≠ g ∧ t ≠ p ∧ g ≠ p) ∧
  st t = some (.lst [.ref g, .ref p, .int z, .int c]) ∧ st g = some (.lst (ns.map D.int)) ∧ st p = some (.lst (ps.map D.int)) ∧ ps ≠ [] ∧ 0 ≤ c ∧
  ∀ (r : Int) (st' : Stor) (ns' : List Int) (z' c' : Int), 0 ≤ r → (r < m ∨ r = 0) → 0 ≤ c' → st' t = some (.lst [.ref g, .ref p, .int z', .int c']) → st' g = some (.lst (List.map D.int ns')) → (∀ a, a ≠ t → a ≠ g → st' a = st a) → R (.int r) st'
abbrev spTapeB : SpD := sp1 fun x st R => ∃ ns : List Int, x = .ro (ns.map .int) ∧ ns.length ≤ 63 ∧ (∀ z ∈ ns, Builtin.Int.intBits z ≤ 1048576) ∧
  ∀ (t g p : Addr) (ms ps : List Int) (z : Int) (st' : Stor), (t ≠ g ∧ t ≠ p ∧ g ≠ p) → ps ≠ [] → st' t = some (.lst [.ref g, .ref p, .int z, .int 0]) → st' g = some (.lst (List.map D.int ms)) → st' p = some (.lst (List.map D.int ps)) → R (.ref t) st'
@[simp ↓] theorem z_drawB {t : Addr} {m : Int} {st : Stor} {R : KD} : spDrawB t [.ref t, .int m] st R = (m < 2 ^ 62 ∧ ∀ r, 0 ≤ r → (r < m ∨ r = 0) → R (.int r) st) := by
  refine propext ⟨fun ⟨m', _, e, h⟩ => ?_, fun h => ⟨m, rfl, rfl, h⟩⟩
  cases e
  exact h
theorem tB_hide {P : Program} {w : World} {K : PySem.W.Frag} {mg : Str → Option Value} {base : Heap} {x : Str} {k : Nat} {ps : List Str} (i : tBIdx) (F : DefD P w K mg base Hid.none x k ps (spDrawB0 i.1 i.2.1 i.2.2)) : DefD P w K mg base (hidJ K (tBAs i) (tBOk i)) x k ps (spDrawB i.1) := by
  refine F.hide fun f ds st R p hn h => ?_
  rcases ds with _ | ⟨x, _ | ⟨y, _ | ⟨z, w⟩⟩⟩
  · exact h.elim
  · exact h.elim
  · obtain ⟨m, rfl, rfl, h1, hr⟩ := h
    obtain ⟨hne, ns, ps, z, c, e1, e2, e3, ne, c0⟩ := p
    have m1 : i.1 ∈ tBAs i := List.mem_cons_self
    have m2 : i.2.1 ∈ tBAs i := List.mem_cons_of_mem _ List.mem_cons_self
    have m3 : i.2.2 ∈ tBAs i := List.mem_cons_of_mem _ (List.mem_cons_of_mem _ List.mem_cons_self)
    refine ⟨m, ns, ps, z, c, rfl, rfl, h1, hne, ?_, ?_, ?_, ne, c0, fun r st' ns' z' c' r0 r1 a0 s1 s2 s3 => ?_⟩
    · unfold over; rw [if_pos m1, e1]
    · unfold over; rw [if_pos m2, e2]
    · unfold over; rw [if_pos m3, e3]
    · have s4 : st' i.2.2 = some (.lst (ps.map D.int)) := by
        rw [s3 _ hne.2.1.symm hne.2.2.symm]; unfold over; rw [if_pos m3, e3]
      refine ⟨fun a => if a = i.1 then .lst [.ref i.2.1, .ref i.2.2, .int z', .int c'] else if a = i.2.1 then .lst (List.map D.int ns') else .lst (ps.map D.int), st, ⟨hne, ns', ps, z', c', if_pos rfl, (if_neg hne.1.symm).trans (if_pos rfl), (if_neg hne.2.1.symm).trans (if_neg hne.2.2.symm), ne, a0⟩, fun a ha => ?_, fun a c e => ?_, hr r r0 r1⟩
      · rcases List.mem_cons.mp ha with rfl | ha
        · rw [s1]; simp
        · rcases List.mem_cons.mp ha with rfl | ha
          · rw [s2]; simp [Ne.symm hne.1]
          · rcases List.mem_cons.mp ha with rfl | ha
            · rw [s4]; simp [Ne.symm hne.2.1, Ne.symm hne.2.2]
            · cases ha
      · have na : a ∉ tBAs i := fun q => by rw [hn a q] at e; cases e
        have n1 : a ≠ i.1 := fun q => na (q ▸ m1)
        have n2 : a ≠ i.2.1 := fun q => na (q ▸ m2)
        refine ⟨na, ?_⟩
        rw [s3 a n1 n2]
        unfold over
        rw [if_neg na]
        exact e
  · exact h.elim
/-- the pot made, and hidden -/
theorem tB_start {ns : List Int} {E : EndsD} {ρ : Rho} {st : Stor} {tr : tBIdx → TSD} {o : Option D} (hl : ns.length ≤ 63) (hb : ∀ z ∈ ns, Builtin.Int.intBits z ≤ 1048576) (h : ∀ t s0 i, i.1 = t → tr i E (some (.ro (ns.map .int)) :: some (.ref t) :: ρ) s0) :
    sHideD tBAs tBOk (sAsgD (tCallD spTapeB (tConsD (tVarD 0) tNilD)) (gNameD 1)) tr E (some (.ro (ns.map .int)) :: o :: ρ) st := by
  unfold sHideD
  refine ⟨ns, rfl, hl, hb, fun t g p ms ps z st' hne np e1 e2 e3 => ?_⟩
  refine ⟨(t, g, p), fun a => if a = t then .lst [.ref g, .ref p, .int z, .int 0] else if a = g then .lst (ms.map .int) else .lst (ps.map .int), ⟨hne, ms, ps, z, 0, if_pos rfl, (if_neg hne.1.symm).trans (if_pos rfl), (if_neg hne.2.1.symm).trans (if_neg hne.2.2.symm), np, by decide⟩, fun a ha => ?_, h t _ (t, g, p) rfl⟩
  rcases List.mem_cons.mp ha with rfl | ha
  · rw [e1]; simp
  · rcases List.mem_cons.mp ha with rfl | ha
    · rw [e2]; simp [Ne.symm hne.1]
    · rcases List.mem_cons.mp ha with rfl | ha
      · rw [e3]; simp [Ne.symm hne.2.1, Ne.symm hne.2.2]
      · cases ha
end DL
-- text DSA
set_option Elab.async false
set_option linter.all false
set_option maxRecDepth 100000
set_option maxHeartbeats 2000000
/-! DSA: defs that many laws share: the tape made, a draw, two things told alike -/
namespace DL
open PySem PySem.Spec PyProof.Rows L2
def kDraw0 : TSD := (sRetD (tOpD dMod (tCallD dInt (tConsD (tVarD 2) tNilD)) (tVarD 1)))
theorem uDraw0 {E : EndsD} {ρ : Rho} {st : Stor} : kDraw0 E ρ st = (sRetD (tOpD dMod (tCallD dInt (tConsD (tVarD 2) tNilD)) (tVarD 1))) E ρ st := rfl
def kDraw1 (a b c : Int) : TSD := (sSeqD (sAsgD (tOpD dMod (tCallD dInt (tConsD (tOpD dAdd (tOpD dMul (tOpD dIx (tVarD 0) (tCD (.int 1))) (tCD (.int a))) (tCD (.int b))) tNilD)) (tCD (.int 2305843009213693951))) (gNameD 4))
    (sSeqD (sAsgD (tVarD 4) (gSubD (tVarD 0) (tCD (.int 1)) dSetL))
    (sRetD (tOpD dMod (tCallD dInt (tConsD (tOpD dFdiv (tVarD 4) (tCD (.int c))) tNilD)) (tVarD 1)))))
theorem uDraw1 {a b c : Int} {E : EndsD} {ρ : Rho} {st : Stor} : kDraw1 a b c E ρ st = (sSeqD (sAsgD (tOpD dMod (tCallD dInt (tConsD (tOpD dAdd (tOpD dMul (tOpD dIx (tVarD 0) (tCD (.int 1))) (tCD (.int a))) (tCD (.int b))) tNilD)) (tCD (.int 2305843009213693951))) (gNameD 4))
    (sSeqD (sAsgD (tVarD 4) (gSubD (tVarD 0) (tCD (.int 1)) dSetL))
    (sRetD (tOpD dMod (tCallD dInt (tConsD (tOpD dFdiv (tVarD 4) (tCD (.int c))) tNilD)) (tVarD 1))))) E ρ st := rfl
def rdDraw (a b c : Int) : TSD := (sSeqD (sIfD (tTestD (tOpD dGt (tCallD dLen (tConsD (tOpD dIx (tVarD 0) (tCD (.int 0))) tNilD)) (tCD (.int 0)))) (sSeqD (sAsgD (tOpD dIx (tOpD dIx (tVarD 0) (tCD (.int 0))) (tCD (.int 0))) (gNameD 2))
    (sSeqD (sAsgD (tOpD dFdiv (tVarD 2) (tVarD 1)) (gNameD 3))
    (sSeqD (sAsgD (tVarD 3) (gSubD (tOpD dIx (tVarD 0) (tCD (.int 0))) (tCD (.int 0)) dSetL))
    (sSeqD (sIfD (tTestD (tOpD dEq (tVarD 3) (tCD (.int 0)))) (sDropD (tMethD dPopAt (tOpD dIx (tVarD 0) (tCD (.int 0))) (tConsD (tCD (.int 0)) tNilD))) sNextD)
    kDraw0)))) sNextD)
    (kDraw1 a b c))
def rdTape (a0 a b : Int) : TSD := (sSeqD (sAsgD (tLcD (iSeqD (tVarD 0)) (gNameD 2) (tTestD (tOpD dGe (tCallD dAbs (tConsD (tVarD 2) tNilD)) (tCD (.int 1000000000000000000)))) (tOpD dAdd (tOpD dMul (tCD (.int 2)) (tCallD dAbs (tConsD (tVarD 2) tNilD))) (tCallD dInt (tConsD (tOpD dLt (tVarD 2) (tCD (.int 0))) tNilD))) [2]) (gNameD 1))
    (sSeqD (sAsgD (tCD (.int a0)) (gNameD 3))
    (sSeqD (sForD (iSeqD (tVarD 0)) (gNameD 2) (sAsgD (tOpD dMod (tCallD dInt (tConsD (tOpD dAdd (tOpD dAdd (tOpD dMul (tVarD 3) (tCD (.int a))) (tVarD 2)) (tCD (.int b))) tNilD)) (tCD (.int 2305843009213693951))) (gNameD 3)))
    (sRetD (tLstD (tConsD (tVarD 1) (tConsD (tVarD 3) tNilD)))))))
def rdSame : TSD := (sSeqD (sAsgD (tLstD (tConsD (tTupD (tConsD (tVarD 0) (tConsD (tVarD 1) tNilD))) tNilD)) (gNameD 2))
    (sSeqD (sWhileD (tTestD (tOpD dGt (tCallD dLen (tConsD (tVarD 2) tNilD)) (tCD (.int 0)))) (sSeqD (sAsgD (tMethD dPop (tVarD 2) tNilD) (gNameD 3))
    (sSeqD (sAsgD (tOpD dIx (tVarD 3) (tCD (.int 0))) (gNameD 4))
    (sSeqD (sAsgD (tOpD dIx (tVarD 3) (tCD (.int 1))) (gNameD 5))
    (sIfD (tTestD (tOpD (dIsN false) (tVarD 4) (tCD .non))) (sIfD (tTestD (tOpD (dIsN true) (tVarD 5) (tCD .non))) (sRetD (tCD (.bl false))) sNextD) (sIfD (tTruD (tUnD (dIsi .bool) (tVarD 4))) (sIfD (tOrD (tNotD (tTruD (tUnD (dIsi .bool) (tVarD 5)))) (tTestD (tOpD dNe (tVarD 4) (tVarD 5)))) (sRetD (tCD (.bl false))) sNextD) (sIfD (tTruD (tUnD (dIsi .int) (tVarD 4))) (sIfD (tOrD (tTruD (tUnD (dIsi .bool) (tVarD 5))) (tOrD (tNotD (tTruD (tUnD (dIsi .int) (tVarD 5)))) (tTestD (tOpD dNe (tVarD 4) (tVarD 5))))) (sRetD (tCD (.bl false))) sNextD) (sIfD (tTruD (tUnD (dIsi .str) (tVarD 4))) (sIfD (tOrD (tNotD (tTruD (tUnD (dIsi .str) (tVarD 5)))) (tTestD (tOpD dNe (tVarD 4) (tVarD 5)))) (sRetD (tCD (.bl false))) sNextD) (sIfD (tTruD (tUnD (dIsi .tuple) (tVarD 4))) (sSeqD (sIfD (tOrD (tNotD (tTruD (tUnD (dIsi .tuple) (tVarD 5)))) (tTestD (tOpD dNe (tCallD dLen (tConsD (tVarD 4) tNilD)) (tCallD dLen (tConsD (tVarD 5) tNilD))))) (sRetD (tCD (.bl false))) sNextD)
    (sDropD (tMethD dExtend (tVarD 2) (tConsD (tLcD (iRng1D (tConsD (tCallD dLen (tConsD (tVarD 4) tNilD)) tNilD)) (gNameD 6) tYesD (tTupD (tConsD (tOpD dIx (tVarD 4) (tVarD 6)) (tConsD (tOpD dIx (tVarD 5) (tVarD 6)) tNilD))) [6]) tNilD)))) (sSeqD (sIfD (tOrD (tNotD (tTruD (tUnD (dIsi .list) (tVarD 5)))) (tTestD (tOpD dNe (tCallD dLen (tConsD (tVarD 4) tNilD)) (tCallD dLen (tConsD (tVarD 5) tNilD))))) (sRetD (tCD (.bl false))) sNextD)
    (sDropD (tMethD dExtend (tVarD 2) (tConsD (tLcD (iRng1D (tConsD (tCallD dLen (tConsD (tVarD 4) tNilD)) tNilD)) (gNameD 6) tYesD (tTupD (tConsD (tOpD dIx (tVarD 4) (tVarD 6)) (tConsD (tOpD dIx (tVarD 5) (tVarD 6)) tNilD))) [6]) tNilD)))))))))))))
    (sRetD (tCD (.bl true)))))
theorem hsDraw {a b c : Int} (ha0 : -(2 ^ 64) < a) (ha1 : a < 2 ^ 64) (hc0 : 0 < c) (hc1 : c < 2 ^ 62) (i : tAIdx) : ∀ ds s R, spDraw0 i.1 i.2 ds s R → rdDraw a b c (endsD R) (startD 5 ds) s := by
  refine sp2.to fun x y st R h => ?_
  obtain ⟨t, g⟩ := i
  obtain ⟨m, ns, z, rfl, rfl, m1, m2, hne, ht, hg, z0, z1, h⟩ := h
  simp only at hne ht hg h
  have gt := getL_some ht
  have gg := getL_some hg
  have mpos : 0 < m := by omega
  have hm0 : m ≠ 0 := by omega
  show rdDraw a b c (endsD R) [some (.ref t), some (.int m), none, none, none] st
  unfold rdDraw
  cases ns with
  | nil =>
    simp [z_ixL0 gt, z_ixL1 gt, z_len gg, ↓uDraw1]
    refine ⟨mul_r ha0 ha1, ?_⟩
    rw [z_mod (by decide)]
    refine ⟨_, 1, ht, by simp, ?_⟩
    simp [z_fdiv hc0 hc1, z_mod mpos]
    refine ⟨_, Sub.refl _, h _ _ [] _ (Int.emod_nonneg _ hm0) (Int.emod_lt_of_pos _ mpos) (Int.emod_nonneg _ (by decide)) (Int.emod_lt_of_pos _ (by decide)) put_same ?_ fun a h1 h2 => put_ne h1⟩
    rw [put_ne hne.symm]
    exact hg
  | cons n ns =>
    simp at gg
    simp [z_ixL0 gt, z_ixL0 gg, z_len gg, z_fdiv mpos m2]
    refine ⟨_, 0, hg, by simp, ?_⟩
    have gt2 : getL (put st g (.lst (.int (n / m) :: ns.map .int))) t = some [.ref g, .int z] := by rw [getL_ne hne]; exact gt
    simp
    by_cases h0 : n / m = 0
    · rw [h0] at gt2
      simp [h0, z_ixL0 gt2, z_mod mpos, dPopAt, put_put, ↓uDraw0]
      refine ⟨_, Sub.refl _, h _ _ ns z (Int.emod_nonneg _ hm0) (Int.emod_lt_of_pos _ mpos) z0 z1 ?_ put_same fun a h1 h2 => put_ne h2⟩
      rw [put_ne hne, ht]
    · simp [h0, z_mod mpos, ↓uDraw0]
      refine ⟨_, Sub.refl _, h _ _ (n / m :: ns) z (Int.emod_nonneg _ hm0) (Int.emod_lt_of_pos _ mpos) z0 z1 ?_ put_same fun a h1 h2 => put_ne h2⟩
      rw [put_ne hne, ht]
theorem hsTape {a0 a b : Int} (h0 : 0 ≤ a0) (h1' : a0 < tAM) (ha0 : -(2 ^ 64) < a) (ha1 : a < 2 ^ 64) : ∀ ds s R, spTape ds s R → rdTape a0 a b (endsD R) (startD 4 ds) s := by
  refine sp1.to fun x st R h => ?_
  obtain ⟨ns, rfl, hl, hb, h⟩ := h
  show rdTape a0 a b (endsD R) [some (.ro (ns.map .int)), none, none, none] st
  unfold rdTape
  simp
  intro g hg
  refine comp_keep (fun i acc => acc.length ≤ i ∧ ∃ ms : List Int, acc = ms.map .int) (by rw [List.length_map, sizeLine_eq]; omega) ⟨Nat.le_refl _, [], rfl⟩ (fun _ => trivial) (fun i acc q => q.1) (fun i x acc hx ⟨q1, ms, q2⟩ Y Z hY hZ => ?_) fun acc ⟨q1, ms, q2⟩ => ?_
  · obtain ⟨n, hn, rfl⟩ : ∃ n, ns[i]? = some n ∧ .int n = x := by simpa using hx
    have yes : ∀ m : Int, Y (.int m) (put st g (.lst acc)) := fun m => hY _ _ (Sub.refl _) ⟨by simp; omega, ms ++ [m], by simp [q2]⟩
    have no : Z (put st g (.lst acc)) := hZ _ (Sub.refl _) ⟨by omega, ms, q2⟩
    by_cases hn0 : n < 0
    · by_cases h1 : (1000000000000000000 : Int) ≤ -n
      · simp [hn0, h1, dInt]
        exact ⟨mul_l (by decide) (by decide), yes _⟩
      · simp [hn0, h1]
        exact no
    · by_cases h1 : (1000000000000000000 : Int) ≤ n
      · simp [hn0, h1, dInt]
        exact ⟨mul_l (by decide) (by decide), yes _⟩
      · simp [hn0, h1]
        exact no
  · refine loop_keep (fun i ρ => ∃ (z : Int) (o : Option D), ρ = [some (.ro (ns.map .int)), some (.ref g), o, some (.int z)] ∧ 0 ≤ z ∧ z < tAM) ⟨a0, none, rfl, h0, h1'⟩ trivial (fun i x ρ hx hq N hN => ?_) fun ρ hq => ?_
    · obtain ⟨z, o, rfl, z0, z1⟩ := hq
      obtain ⟨n, hn, rfl⟩ : ∃ n, ns[i]? = some n ∧ .int n = x := by simpa using hx
      simp [z_mod]
      exact ⟨mul_r ha0 ha1, hN _ _ (Sub.refl _) ⟨_, _, rfl, Int.emod_nonneg _ (by decide), Int.emod_lt_of_pos _ (by decide)⟩⟩
    · obtain ⟨z, o, rfl, z0, z1⟩ := hq
      simp [sizeLine_eq]
      intro t ht
      rw [put_is_none] at ht
      refine ⟨_, Sub.refl _, h t g ms z _ ht.1 z0 z1 put_same ?_⟩
      rw [put_ne ht.1.symm, put_same, q2]
mutual
def sizeD : D → Nat
  | .tup xs => sizeDs xs + 1
  | _ => 1
def sizeDs : List D → Nat
  | [] => 0
  | x :: xs => sizeD x + sizeDs xs
end
/-- equal data are told alike -/
abbrev spSame : SpD := sp2 fun x y st R => x = y ∧ pureD x = true ∧ depD x ≤ 20 ∧ sizeD x ≤ 1000000 ∧ R (.bl true) st
theorem sizeDs_app : ∀ xs ys : List D, sizeDs (xs ++ ys) = sizeDs xs + sizeDs ys
  | [], ys => by simp [sizeDs]
  | x :: xs, ys => by simp [sizeDs, sizeDs_app xs ys, Nat.add_assoc]
theorem sizeDs_snoc (xs : List D) (y : D) : sizeDs (xs ++ [y]) = sizeDs xs + sizeD y := by rw [sizeDs_app]; simp [sizeDs]
theorem sizeD_pos : ∀ d : D, 1 ≤ sizeD d
  | .tup xs => by simp [sizeD]
  | .non => by simp [sizeD]
  | .bl _ => by simp [sizeD]
  | .int _ => by simp [sizeD]
  | .str _ => by simp [sizeD]
  | .ref _ => by simp [sizeD]
  | .ro _ => by simp [sizeD]
theorem sizeDs_len : ∀ xs : List D, xs.length ≤ sizeDs xs
  | [] => by simp
  | x :: xs => by have := sizeD_pos x; have := sizeDs_len xs; simp [sizeDs]; omega
theorem depDs_app : ∀ xs ys : List D, depDs (xs ++ ys) = max (depDs xs) (depDs ys)
  | [], ys => by simp
  | x :: xs, ys => by simp [depDs_app xs ys, Nat.max_assoc]
theorem depDs_snoc (xs : List D) (y : D) : depDs (xs ++ [y]) = max (depDs xs) (depD y) := by rw [depDs_app]; simp
theorem hsSame : ∀ ds s R, spSame ds s R → rdSame (endsD R) (startD 7 ds) s := by
  refine sp2.to fun x y st R h => ?_
  obtain ⟨rfl, h1, h2, h3, h⟩ := h
  show rdSame (endsD R) [some x, some x, none, none, none, none, none] st
  unfold rdSame
  simp [sizeLine_eq]
  intro p hp
  obtain ⟨W, eW⟩ : ∃ W : Nat → Rho → Stor → Prop, W = fun m ρ s' => ∃ (ws : List D) (o3 o4 o5 o6 : Option D), ρ = [some x, some x, some (.ref p), o3, o4, o5, o6] ∧ DL.Sub st s' ∧ s' p = some (.lst (ws.map fun d => .tup [d, d])) ∧ pureDs ws = true ∧ depDs ws ≤ 20 ∧ sizeDs ws = m ∧ m ≤ 1000000 := ⟨_, rfl⟩
  refine while_any W (sizeD x) (by rw [eW]; exact ⟨[x], none, none, none, none, rfl, Sub.put hp, put_same, by simp [pureDs, h1], by simpa using h2, by simp [sizeDs], h3⟩) fun m ρ s' hW => ?_
  rw [eW] at hW
  obtain ⟨ws, o3, o4, o5, o6, rfl, sub, sp, pw, dw, rfl, zw⟩ := hW
  simp [z_len (getL_some sp)]
  rcases List.eq_nil_or_concat ws with rfl | ⟨ws, d, rfl⟩
  · simp
    exact ⟨_, sub, h⟩
  · simp
    refine turn_go fun N hN => ?_
    simp at pw dw zw sp hN
    rw [pureDs_all, List.all_append, Bool.and_eq_true, ← pureDs_all] at pw
    have sp' : s' p = some (.lst ((ws.map fun d => D.tup [d, d]) ++ [D.tup [d, d]])) := sp
    have zs : sizeDs (ws ++ [d]) = sizeDs ws + sizeD d := sizeDs_snoc ws d
    have ds := depDs_snoc ws d
    have go : ∀ (o3 o4 o5 o6 : Option D), N [some x, some x, some (.ref p), o3, o4, o5, o6] (put s' p (.lst (ws.map fun d => D.tup [d, d]))) := fun o3 o4 o5 o6 => by
      have := sizeD_pos d
      refine hN (sizeDs ws) _ _ _ (by omega) (Sub.refl _) ?_
      rw [eW]
      exact ⟨ws, o3, o4, o5, o6, rfl, sub.putN hp, put_same, pw.1, by omega, rfl, by omega⟩
    simp [getL_some sp, z_pop sp']
    cases d with
    | non => simp; exact go _ _ _ _
    | bl b => simp; exact go _ _ _ _
    | int i => simp; exact go _ _ _ _
    | str z => simp; exact go _ _ _ _
    | tup xs =>
      simp [sizeD] at zs
      have hx := sizeDs_len xs
      have hw := sizeDs_len ws
      simp at ds
      simp
      refine ⟨by omega, fun q hq => comp_keep (fun i acc => acc = (xs.map fun d => D.tup [d, d]).take i) (by rw [rangeD_len, sizeLine_eq]; omega) (by simp) (fun _ => trivial) (fun i acc e => by subst e; simp; omega) (fun i x acc hx e Y Z hY hZ => ?_) fun acc e => ?_⟩
      · subst e
        obtain ⟨k, rfl, hk, hi⟩ := rangeD_int hx
        have ek : k.toNat = i := by omega
        have e : xs[k.toNat]? = some xs[i] := by rw [ek]; exact List.getElem?_eq_getElem hi
        simp [z_ixTi (show 0 ≤ k by omega) e, sizeLine_eq]
        refine hY _ _ (Sub.refl _) ?_
        rw [List.take_add_one, List.getElem?_map, List.getElem?_eq_getElem hi]
        rfl
      · subst e
        rw [rangeD_len, show xs.length = (xs.map fun d => D.tup [d, d]).length by simp, List.take_length]
        rw [put_is_none] at hq
        rw [z_extend (xs := ws.map fun d => D.tup [d, d]) (ys := xs.map fun d => D.tup [d, d]) (by rw [put_ne hq.1.symm]; exact put_same) put_same (by simp [sizeLine_eq]; omega)]
        refine hN (sizeDs (ws ++ xs)) _ _ _ (by rw [sizeDs_app]; omega) (Sub.refl _) ?_
        rw [eW]
        have nq : st q = none := sub_none sub hq.2
        refine ⟨ws ++ xs, _, _, _, _, rfl, ((sub.putN hp).putN nq).putN hp, ?_, ?_, ?_, rfl, by rw [sizeDs_app]; omega⟩
        · rw [put_same]; simp
        · rw [pureDs_all, List.all_append, ← pureDs_all, ← pureDs_all, pw.1]
          have := pw.2
          simp [pureD] at this
          simp [this]
        · rw [depDs_app]; omega
    | ref a => simp [pureD] at pw
    | ro xs => simp [pureD] at pw
end DL
-- text DSB
set_option Elab.async false
set_option linter.all false
set_option maxRecDepth 100000
set_option maxHeartbeats 2000000
/-! DSB: defs that many laws share, style B: the pot made, a draw -/
namespace DL
open PySem PySem.Spec PyProof.Rows L2
def kDrawB0 : TSD := (sRetD (tVarD 3))
theorem uDrawB0 {E : EndsD} {ρ : Rho} {st : Stor} : kDrawB0 E ρ st = (sRetD (tVarD 3)) E ρ st := rfl
def kDrawB1 (a b c d m a2 d2 m2 q : Int) : TSD := (sSeqD (sAsgD (tOpD dIx (tVarD 0) (tCD (.int 1))) (gNameD 4))
    (sSeqD (sAsgD (tOpD dAdd (tOpD dIx (tVarD 0) (tCD (.int 3))) (tCD (.int 1))) (gSubD (tVarD 0) (tCD (.int 3)) dSetL))
    (sSeqD (sAsgD (tOpD dMod (tCallD dInt (tConsD (tOpD dAdd (tOpD dAdd (tOpD dAdd (tOpD dMul (tOpD dIx (tVarD 0) (tCD (.int 2))) (tCD (.int a))) (tOpD dMul (tOpD dIx (tVarD 4) (tOpD dMod (tCallD dInt (tConsD (tOpD dIx (tVarD 0) (tCD (.int 3))) tNilD)) (tCallD dLen (tConsD (tVarD 4) tNilD)))) (tCD (.int b)))) (tOpD dMul (tOpD dIx (tVarD 0) (tCD (.int 3))) (tCD (.int c)))) (tCD (.int d))) tNilD)) (tCD (.int m))) (gSubD (tVarD 0) (tCD (.int 2)) dSetL))
    (sSeqD (sAsgD (tOpD dMod (tCallD dInt (tConsD (tOpD dAdd (tOpD dMul (tOpD dIx (tVarD 0) (tCD (.int 2))) (tCD (.int a2))) (tCD (.int d2))) tNilD)) (tCD (.int m2))) (gNameD 5))
    (sRetD (tOpD dMod (tOpD dFdiv (tVarD 5) (tCD (.int q))) (tVarD 1)))))))
theorem uDrawB1 {a b c d m a2 d2 m2 q : Int} {E : EndsD} {ρ : Rho} {st : Stor} : kDrawB1 a b c d m a2 d2 m2 q E ρ st = (sSeqD (sAsgD (tOpD dIx (tVarD 0) (tCD (.int 1))) (gNameD 4))
    (sSeqD (sAsgD (tOpD dAdd (tOpD dIx (tVarD 0) (tCD (.int 3))) (tCD (.int 1))) (gSubD (tVarD 0) (tCD (.int 3)) dSetL))
    (sSeqD (sAsgD (tOpD dMod (tCallD dInt (tConsD (tOpD dAdd (tOpD dAdd (tOpD dAdd (tOpD dMul (tOpD dIx (tVarD 0) (tCD (.int 2))) (tCD (.int a))) (tOpD dMul (tOpD dIx (tVarD 4) (tOpD dMod (tCallD dInt (tConsD (tOpD dIx (tVarD 0) (tCD (.int 3))) tNilD)) (tCallD dLen (tConsD (tVarD 4) tNilD)))) (tCD (.int b)))) (tOpD dMul (tOpD dIx (tVarD 0) (tCD (.int 3))) (tCD (.int c)))) (tCD (.int d))) tNilD)) (tCD (.int m))) (gSubD (tVarD 0) (tCD (.int 2)) dSetL))
    (sSeqD (sAsgD (tOpD dMod (tCallD dInt (tConsD (tOpD dAdd (tOpD dMul (tOpD dIx (tVarD 0) (tCD (.int 2))) (tCD (.int a2))) (tCD (.int d2))) tNilD)) (tCD (.int m2))) (gNameD 5))
    (sRetD (tOpD dMod (tOpD dFdiv (tVarD 5) (tCD (.int q))) (tVarD 1))))))) E ρ st := rfl
def rdDrawB (a b c d m a2 d2 m2 q : Int) : TSD := (sSeqD (sIfD (tTestD (tOpD dLt (tVarD 1) (tCD (.int 2)))) (sRetD (tCD (.int 0))) sNextD)
    (sSeqD (sAsgD (tOpD dIx (tVarD 0) (tCD (.int 0))) (gNameD 2))
    (sSeqD (sIfD (tTruD (tVarD 2)) (sSeqD (sAsgD (tOpD dMod (tCallD dInt (tConsD (tOpD dIx (tVarD 2) (tCD (.int 0))) tNilD)) (tVarD 1)) (gNameD 3))
    (sSeqD (sAsgD (tOpD dFdiv (tCallD dInt (tConsD (tOpD dIx (tVarD 2) (tCD (.int 0))) tNilD)) (tVarD 1)) (gSubD (tVarD 2) (tCD (.int 0)) dSetL))
    (sSeqD (sIfD (tTestD (tOpD dEq (tOpD dIx (tVarD 2) (tCD (.int 0))) (tCD (.int 0)))) (sDropD (tMethD dPopAt (tVarD 2) (tConsD (tCD (.int 0)) tNilD))) sNextD)
    kDrawB0))) sNextD)
    (kDrawB1 a b c d m a2 d2 m2 q))))
theorem hsDrawB {a b c d m a2 d2 m2 q : Int} (ha : -(2 ^ 64) < a ∧ a < 2 ^ 64) (hb : -(2 ^ 64) < b ∧ b < 2 ^ 64) (hc : -(2 ^ 64) < c ∧ c < 2 ^ 64) (hm : 0 < m) (ha2 : -(2 ^ 64) < a2 ∧ a2 < 2 ^ 64) (hm2 : 0 < m2) (hq : 0 < q ∧ q < 2 ^ 62) (i : tBIdx) :
    ∀ ds s R, spDrawB0 i.1 i.2.1 i.2.2 ds s R → rdDrawB a b c d m a2 d2 m2 q (endsD R) (startD 6 ds) s := by
  refine sp2.to fun x y st R h => ?_
  obtain ⟨t, g, p⟩ := i
  obtain ⟨k, ns, ps, z, cc, rfl, rfl, k1, hne, ht, hg, hp, np, c0, h⟩ := h
  simp only at hne ht hg hp h
  have gt := getL_some ht
  have gg := getL_some hg
  have gp := getL_some hp
  show rdDrawB a b c d m a2 d2 m2 q (endsD R) [some (.ref t), some (.int k), none, none, none, none] st
  unfold rdDrawB
  by_cases hk : k < 2
  · simp [hk]
    exact ⟨st, Sub.refl _, h 0 st ns z cc (by decide) (.inr rfl) c0 ht hg fun _ _ _ => rfl⟩
  have kpos : 0 < k := by omega
  cases ns with
  | nil =>
    simp [hk, z_ixL0 gt, w_truL gg, ↓uDrawB1, z_ixL1 gt, z_ixL3 gt]
    refine ⟨_, 3, ht, by simp, ?_⟩
    have pl : 0 < ps.length := List.length_pos_iff.mpr np
    have gt2 : getL (put st t (.lst [.ref g, .ref p, .int z, .int (cc + 1)])) t = some [.ref g, .ref p, .int z, .int (cc + 1)] := getL_put
    have gp2 : getL (put st t (.lst [.ref g, .ref p, .int z, .int (cc + 1)])) p = some (ps.map D.int) := by rw [getL_ne hne.2.1.symm]; exact gp
    simp
    refine Eq.mpr (z_ixL2 gt2) ?_
    simp
    refine ⟨mul_r ha.1 ha.2, Eq.mpr (z_ixL3 gt2) ?_⟩
    simp
    refine Eq.mpr (z_len gp2) ?_
    have pos : (0 : Int) < ((ps.map D.int).length : Nat) := by rw [List.length_map]; omega
    rw [z_mod pos]
    have e0 := Int.emod_nonneg (cc + 1) (show ((ps.map D.int).length : Int) ≠ 0 by omega)
    have e1 := Int.emod_lt_of_pos (cc + 1) pos
    refine ixL_all gp2 e0 e1 fun x hx => ?_
    obtain ⟨w, _, rfl⟩ := List.mem_map.mp hx
    simp
    refine ⟨mul_r hb.1 hb.2, Eq.mpr (z_ixL3 gt2) ?_⟩
    simp
    refine ⟨mul_r hc.1 hc.2, ?_⟩
    rw [z_mod hm]
    refine ⟨_, 2, put_same, by simp, ?_⟩
    rw [put_put]
    simp
    refine Eq.mpr (z_ixL2 getL_put) ?_
    simp
    refine ⟨mul_r ha2.1 ha2.2, ?_⟩
    rw [z_mod hm2]
    simp [z_fdiv hq.1 hq.2, z_mod kpos]
    refine ⟨_, Sub.refl _, h _ _ [] _ (cc + 1) (Int.emod_nonneg _ (by omega)) (.inl (Int.emod_lt_of_pos _ kpos)) (by omega) put_same ?_ fun a h1 h2 => put_ne h1⟩
    rw [put_ne hne.1.symm]
    exact hg
  | cons n ns =>
    simp at gg
    have ng : ((D.int n :: ns.map D.int).isEmpty) = false := rfl
    simp [hk, z_ixL0 gt, w_truL gg, z_ixL0 gg, z_mod kpos, z_fdiv kpos k1]
    refine ⟨_, 0, hg, by simp, ?_⟩
    simp
    refine Eq.mpr (z_ixL0 getL_put) ?_
    simp
    by_cases h0 : n / k = 0
    · simp [h0, dPopAt, put_put, ↓uDrawB0]
      refine ⟨_, Sub.refl _, h _ _ ns z cc (Int.emod_nonneg _ (by omega)) (.inl (Int.emod_lt_of_pos _ kpos)) c0 ?_ put_same fun a h1 h2 => put_ne h2⟩
      rw [put_ne hne.1, ht]
    · simp [h0, ↓uDrawB0]
      refine ⟨_, Sub.refl _, h _ _ (n / k :: ns) z cc (Int.emod_nonneg _ (by omega)) (.inl (Int.emod_lt_of_pos _ kpos)) c0 ?_ put_same fun a h1 h2 => put_ne h2⟩
      rw [put_ne hne.1, ht]
def rdTapeB (e s0 a b : Int) : TSD := (sSeqD (sAsgD (tLcD (iSeqD (tVarD 0)) (gNameD 2) tYesD (tOpD dAdd (tOpD dMul (tCD (.int 2)) (tCallD dAbs (tConsD (tCallD dInt (tConsD (tVarD 2) tNilD)) tNilD))) (tCallD dInt (tConsD (tOpD dLt (tVarD 2) (tCD (.int 0))) tNilD))) [2]) (gNameD 1))
    (sSeqD (sAsgD (tLcD (iSeqD (tVarD 1)) (gNameD 2) (tTestD (tOpD dGe (tVarD 2) (tOpD dPow (tCD (.int 10)) (tCD (.int 18))))) (tVarD 2) [2]) (gNameD 3))
    (sSeqD (sAsgD (tOpD dAdd (tLcD (iSeqD (tVarD 1)) (gNameD 2) (tTestD (tOpD dLt (tVarD 2) (tOpD dPow (tCD (.int 10)) (tCD (.int 18))))) (tVarD 2) [2]) (tLstD (tConsD (tCD (.int e)) tNilD))) (gNameD 4))
    (sSeqD (sAsgD (tOpD dAdd (tCD (.int s0)) (tCallD dLen (tConsD (tVarD 1) tNilD))) (gNameD 5))
    (sSeqD (sForD (iSeqD (tVarD 4)) (gNameD 2) (sAsgD (tOpD dMod (tCallD dInt (tConsD (tOpD dAdd (tOpD dAdd (tOpD dMul (tVarD 5) (tCD (.int a))) (tOpD dMul (tVarD 2) (tCD (.int 7)))) (tCD (.int 1))) tNilD)) (tCD (.int b))) (gNameD 5)))
    (sRetD (tLstD (tConsD (tVarD 3) (tConsD (tVarD 4) (tConsD (tVarD 5) (tConsD (tCD (.int 0)) tNilD)))))))))))
theorem filt_snoc {ns : List Int} {i : Nat} {n : Int} (h : ns[i]? = some n) (P : Int → Bool) : (ns.take (i + 1)).filter P = (ns.take i).filter P ++ if P n = true then [n] else [] := by
  rw [List.take_add_one, h, List.filter_append]
  congr 1
  cases hp : P n <;> simp [hp]
theorem hsTapeB {e s0 a b : Int} (ha : -(2 ^ 64) < a ∧ a < 2 ^ 64) (hb : 0 < b) : ∀ ds s R, spTapeB ds s R → rdTapeB e s0 a b (endsD R) (startD 6 ds) s := by
  refine sp1.to fun x st R h => ?_
  obtain ⟨ns, rfl, hl, hbb, h⟩ := h
  show rdTapeB e s0 a b (endsD R) [some (.ro (ns.map .int)), none, none, none, none, none] st
  unfold rdTapeB
  have pw : CPow 10 18 := ⟨by decide, by decide, by decide⟩
  simp
  intro q hq
  refine comp_keep (fun i acc => ∃ ms : List Int, acc = ms.map .int ∧ ms.length = i) (by rw [List.length_map, sizeLine_eq]; omega) ⟨[], rfl, rfl⟩ (fun _ => trivial) (fun i acc ⟨ms, e, l⟩ => by subst e; simp; omega) (fun i x acc hx ⟨ms, e, l⟩ Y Z hY hZ => ?_) fun acc ⟨ms, e, l⟩ => ?_
  · subst e
    obtain ⟨n, hn, rfl⟩ : ∃ n, ns[i]? = some n ∧ .int n = x := by simpa using hx
    simp [dInt]
    exact ⟨mul_l (by decide) (by decide), hY _ _ (Sub.refl _) ⟨ms ++ [_], by simp; rfl, by simp [l]⟩⟩
  subst e
  rw [List.length_map] at l
  have gq : getL (put st q (.lst (ms.map D.int))) q = some (ms.map D.int) := getL_put
  refine Eq.mpr (z_seq gq) ?_
  intro g hg
  have hg' := put_is_none.mp hg
  have gq2 : ∀ c, getL (put (put st q (.lst (ms.map D.int))) g c) q = some (ms.map D.int) := fun c => by rw [getL_ne hg'.1.symm]; exact gq
  refine comp_keep (fun i acc => ∃ gs : List Int, acc = gs.map .int ∧ gs.length ≤ i) (by rw [List.length_map, sizeLine_eq]; omega) ⟨[], rfl, Nat.le_refl _⟩ (fun acc => gq2 _) (fun i acc ⟨ms, e, l⟩ => by subst e; simpa using l) (fun i x acc hx ⟨gs, e, lg⟩ Y Z hY hZ => ?_) fun acc ⟨gs, e, lg⟩ => ?_
  · subst e
    obtain ⟨n, hn, rfl⟩ : ∃ n, ms[i]? = some n ∧ .int n = x := by simpa using hx
    simp
    refine ⟨pw, ?_⟩
    split
    · exact hY _ _ (Sub.refl _) ⟨gs ++ [n], by simp, by simp; omega⟩
    · exact hZ _ (Sub.refl _) ⟨gs, rfl, by omega⟩
  subst e
  rw [List.length_map] at lg
  refine Eq.mpr (z_seq (gq2 _)) ?_
  intro p hp
  have hp' := put_is_none.mp hp
  have gq3 : ∀ c, getL (put (put (put st q (.lst (ms.map D.int))) g (.lst (gs.map D.int))) p c) q = some (ms.map D.int) := fun c => by
    have n := (put_is_none.mp hp'.2).1
    rw [getL_ne n.symm]; exact gq2 _
  have hs3 : ∀ c, put (put (put st q (.lst (ms.map D.int))) g (.lst (gs.map D.int))) p c g = some (.lst (gs.map D.int)) := fun c => by rw [put_ne hp'.1.symm, put_same]
  generalize put (put st q (.lst (ms.map D.int))) g (.lst (gs.map D.int)) = s2 at *
  refine comp_keep (fun i acc => ∃ gs : List Int, acc = gs.map .int ∧ gs.length ≤ i) (by rw [List.length_map, sizeLine_eq]; omega) ⟨[], rfl, Nat.le_refl _⟩ (fun acc => gq3 _) (fun i acc ⟨ms, e, l⟩ => by subst e; simpa using l) (fun i x acc hx ⟨gs, e, lg⟩ Y Z hY hZ => ?_) fun acc ⟨ps, e, lp⟩ => ?_
  · subst e
    obtain ⟨n, hn, rfl⟩ : ∃ n, ms[i]? = some n ∧ .int n = x := by simpa using hx
    simp
    refine ⟨pw, ?_⟩
    split
    · exact hY _ _ (Sub.refl _) ⟨gs ++ [n], by simp, by simp; omega⟩
    · exact hZ _ (Sub.refl _) ⟨gs, rfl, by omega⟩
  subst e
  rw [List.length_map] at lp
  simp [sizeLine_eq]
  intro o ho
  have ho' := put_is_none.mp ho
  refine ⟨ps.map D.int, [.int e], by rw [put_ne ho'.1.symm, put_same], put_same, by simp [sizeLine_eq]; omega, fun r hr => ?_⟩
  have hr1 := put_is_none.mp hr
  have hr2 := put_is_none.mp hr1.2
  have gr : ps.map D.int ++ [D.int e] = (ps ++ [e]).map D.int := by simp
  rw [gr]
  have nq : ps ++ [e] ≠ [] := by simp
  clear gr
  generalize ps ++ [e] = qs at *
  have hgo : g ≠ o := fun z => by subst z; rw [hs3] at ho; cases ho
  have hgr : g ≠ r := fun z => by subst z; rw [hs3] at hr1; cases hr1.2
  have hgp := hp'.1
  have gq4 : getL (put (put (put s2 p (.lst (ps.map D.int))) o (.lst [.int e])) r (.lst (qs.map D.int))) q = some (ms.map D.int) := by
    have n1 : q ≠ o := fun z => by subst z; have := gq3 (.lst (ps.map D.int)); unfold getL at this; rw [ho] at this; cases this
    have n2 : q ≠ r := fun z => by subst z; have := gq3 (.lst (ps.map D.int)); unfold getL at this; rw [hr1.2] at this; cases this
    rw [getL_ne n2, getL_ne n1]; exact gq3 _
  have hs4 : put (put (put s2 p (.lst (ps.map D.int))) o (.lst [.int e])) r (.lst (qs.map D.int)) g = some (.lst (gs.map D.int)) := by rw [put_ne hgr, put_ne hgo]; exact hs3 _
  generalize put (put s2 p (.lst (ps.map D.int))) o (.lst [.int e]) = s3 at *
  refine Eq.mpr (z_len gq4) ?_
  simp
  refine Eq.mpr (z_seq getL_self) ?_
  refine loop_keep (fun i ρ => ∃ (z : Int) (w : Option D), ρ = [some (.ro (ns.map .int)), some (.ref q), w, some (.ref g), some (.ref r), some (.int z)]) ⟨_, _, rfl⟩ getL_self (fun i x ρ hx hq N hN => ?_) fun ρ hq => ?_
  · obtain ⟨z, w, rfl⟩ := hq
    obtain ⟨n, hn, rfl⟩ : ∃ n, qs[i]? = some n ∧ .int n = x := by simpa using hx
    simp
    refine ⟨mul_r ha.1 ha.2, mul_r (by decide) (by decide), ?_⟩
    rw [z_mod hb]
    exact hN _ _ (Sub.refl _) ⟨_, _, rfl⟩
  · obtain ⟨z, w, rfl⟩ := hq
    simp [sizeLine_eq]
    intro t ht
    have ht' := put_is_none.mp ht
    have n1 : t ≠ g := fun z => by subst z; rw [hs4] at ht; cases ht
    exact ⟨_, Sub.refl _, h t g r gs qs z _ ⟨n1, ht'.1, hgr⟩ nq put_same (by rw [put_ne n1.symm]; exact hs4) (by rw [put_ne ht'.1.symm, put_same])⟩
end DL
-- text DSQ
set_option Elab.async false
set_option linter.all false
set_option maxRecDepth 100000
set_option maxHeartbeats 2000000
set_option exponentiation.threshold 10000
/-! DSQ: quotients: the program's defs and the laws' own, as many laws have them -/
namespace DQ
open PySem PySem.Spec PyProof.Rows L2 DL
def qD (q : Rat) : D := .tup [.int q.num, .int (q.den : Int)]
/-- small: above and below within 2 ^ k -/
structure Sz (k : Nat) (q : Rat) : Prop where
  n : q.num.natAbs < 2 ^ k
  d : q.den < 2 ^ k
def sp_quotient_of : SpD := sp2 fun x y st R => ∃ a b : Int, x = .int a ∧ y = .int b ∧ 0 < b ∧ b < 2 ^ 8000 ∧ R (qD (Rat.divInt a b)) st
abbrev spQ2 (f : Rat → Rat → Rat) : SpD := sp2 fun x y st R => ∃ a b : Rat, x = qD a ∧ y = qD b ∧ Sz 3000 a ∧ Sz 3000 b ∧ R (qD (f a b)) st
abbrev sp_quotient_plus : SpD := spQ2 (· + ·)
abbrev sp_quotient_minus : SpD := spQ2 (· - ·)
abbrev sp_quotient_times : SpD := spQ2 (· * ·)
def sp_is_below : SpD := sp2 fun x y st R => ∃ a b : Rat, x = qD a ∧ y = qD b ∧ Sz 3000 a ∧ Sz 3000 b ∧ R (.bl (decide (a < b))) st
def sp_sum_of : SpD := sp1 fun x st R => ∃ (k : Nat) (qs : List Rat), (x = .tup (qs.map qD) ∨ ∃ p, x = .ref p ∧ getL st p = some (qs.map qD)) ∧ (k + 1) * qs.length ≤ 7900 ∧ (∀ q ∈ qs, Sz k q) ∧ R (qD qs.sum) st
def sp_negative_of : SpD := sp1 fun x st R => ∃ a : Rat, x = qD a ∧ R (qD (-a)) st
def sp__law_divisor : SpD := sp2 fun x y st R => ∃ a b : Int, x = .int a ∧ y = .int b ∧ a.natAbs < 2 ^ 8000 ∧ b.natAbs < 2 ^ 8000 ∧ R (.int ((Nat.gcd a.natAbs b.natAbs : Nat) : Int)) st
def sp__law_lowest : SpD := sp2 fun x y st R => ∃ a b : Int, x = .int a ∧ y = .int b ∧ a.natAbs < 2 ^ 8000 ∧ 0 < b ∧ b < 2 ^ 8000 ∧ R (qD (Rat.divInt a b)) st
abbrev sp__law_plus : SpD := spQ2 (· + ·)
abbrev sp__law_times : SpD := spQ2 (· * ·)
abbrev N_quotient_of : List Str := ["over", "under", "common"]
theorem st_quotient_of (a0 a1 : D) : startD N_quotient_of.length [a0, a1] = [some a0, some a1, none] := rfl
def rk_quotient_of_0 : TSD := (sRetD (tTupD (tConsD (tOpD dFdiv (tVarD 0) (tVarD 2)) (tConsD (tOpD dFdiv (tVarD 1) (tVarD 2)) tNilD))))
theorem ru_quotient_of_0 {E : EndsD} {ρ : Rho} {st : Stor} : rk_quotient_of_0 E ρ st = (sRetD (tTupD (tConsD (tOpD dFdiv (tVarD 0) (tVarD 2)) (tConsD (tOpD dFdiv (tVarD 1) (tVarD 2)) tNilD)))) E ρ st := rfl
def rd_quotient_of : TSD := (sSeqD (sIfD (tTestD (tOpD dEq (tVarD 1) (tCD (.int 0)))) sNeverD sNextD)
    (sSeqD (sAsgD (tCallD dGcd (tConsD (tVarD 0) (tConsD (tVarD 1) tNilD))) (gNameD 2))
    (sSeqD (sIfD (tTestD (tOpD dLt (tVarD 1) (tCD (.int 0)))) (sAsgD (tUnD dNeg (tVarD 2)) (gNameD 2)) sNextD)
    rk_quotient_of_0)))
abbrev N_quotient_plus : List Str := ["one", "other"]
theorem st_quotient_plus (a0 a1 : D) : startD N_quotient_plus.length [a0, a1] = [some a0, some a1] := rfl
def rd_quotient_plus : TSD := (sRetD (tCallD sp_quotient_of (tConsD (tOpD dAdd (tOpD dMul (tOpD dIx (tVarD 0) (tCD (.int 0))) (tOpD dIx (tVarD 1) (tCD (.int 1)))) (tOpD dMul (tOpD dIx (tVarD 1) (tCD (.int 0))) (tOpD dIx (tVarD 0) (tCD (.int 1))))) (tConsD (tOpD dMul (tOpD dIx (tVarD 0) (tCD (.int 1))) (tOpD dIx (tVarD 1) (tCD (.int 1)))) tNilD))))
abbrev N_quotient_minus : List Str := ["one", "other"]
theorem st_quotient_minus (a0 a1 : D) : startD N_quotient_minus.length [a0, a1] = [some a0, some a1] := rfl
def rd_quotient_minus : TSD := (sRetD (tCallD sp_quotient_of (tConsD (tOpD dSub (tOpD dMul (tOpD dIx (tVarD 0) (tCD (.int 0))) (tOpD dIx (tVarD 1) (tCD (.int 1)))) (tOpD dMul (tOpD dIx (tVarD 1) (tCD (.int 0))) (tOpD dIx (tVarD 0) (tCD (.int 1))))) (tConsD (tOpD dMul (tOpD dIx (tVarD 0) (tCD (.int 1))) (tOpD dIx (tVarD 1) (tCD (.int 1)))) tNilD))))
abbrev N_quotient_times : List Str := ["one", "other"]
theorem st_quotient_times (a0 a1 : D) : startD N_quotient_times.length [a0, a1] = [some a0, some a1] := rfl
def rd_quotient_times : TSD := (sRetD (tCallD sp_quotient_of (tConsD (tOpD dMul (tOpD dIx (tVarD 0) (tCD (.int 0))) (tOpD dIx (tVarD 1) (tCD (.int 0)))) (tConsD (tOpD dMul (tOpD dIx (tVarD 0) (tCD (.int 1))) (tOpD dIx (tVarD 1) (tCD (.int 1)))) tNilD))))
abbrev N_is_below : List Str := ["one", "other"]
theorem st_is_below (a0 a1 : D) : startD N_is_below.length [a0, a1] = [some a0, some a1] := rfl
def rd_is_below : TSD := (sRetD (tOpD dLt (tOpD dMul (tOpD dIx (tVarD 0) (tCD (.int 0))) (tOpD dIx (tVarD 1) (tCD (.int 1)))) (tOpD dMul (tOpD dIx (tVarD 1) (tCD (.int 0))) (tOpD dIx (tVarD 0) (tCD (.int 1))))))
abbrev N_sum_of : List Str := ["row", "over", "under", "part", "common"]
theorem st_sum_of (a0 : D) : startD N_sum_of.length [a0] = [some a0, none, none, none, none] := rfl
def rd_sum_of : TSD := (sSeqD (sAsgD (tCD (.int 0)) (gNameD 1))
    (sSeqD (sAsgD (tCD (.int 1)) (gNameD 2))
    (sSeqD (sForD (iSeqD (tVarD 0)) (gNameD 3) (sIfD (tTestD (tOpD dEq (tOpD dIx (tVarD 3) (tCD (.int 1))) (tVarD 2))) (sAugD 1 dIAdd (tOpD dIx (tVarD 3) (tCD (.int 0)))) (sSeqD (sAsgD (tOpD dAdd (tOpD dMul (tVarD 1) (tOpD dIx (tVarD 3) (tCD (.int 1)))) (tOpD dMul (tOpD dIx (tVarD 3) (tCD (.int 0))) (tVarD 2))) (gNameD 1))
    (sSeqD (sAsgD (tOpD dMul (tVarD 2) (tOpD dIx (tVarD 3) (tCD (.int 1)))) (gNameD 2))
    (sSeqD (sAsgD (tCallD dGcd (tConsD (tVarD 1) (tConsD (tVarD 2) tNilD))) (gNameD 4))
    (sSeqD (sAsgD (tOpD dFdiv (tVarD 1) (tVarD 4)) (gNameD 1))
    (sAsgD (tOpD dFdiv (tVarD 2) (tVarD 4)) (gNameD 2))))))))
    (sRetD (tCallD sp_quotient_of (tConsD (tVarD 1) (tConsD (tVarD 2) tNilD)))))))
abbrev N_negative_of : List Str := ["quotient"]
theorem st_negative_of (a0 : D) : startD N_negative_of.length [a0] = [some a0] := rfl
def rd_negative_of : TSD := (sRetD (tTupD (tConsD (tUnD dNeg (tOpD dIx (tVarD 0) (tCD (.int 0)))) (tConsD (tOpD dIx (tVarD 0) (tCD (.int 1))) tNilD))))
abbrev N__law_divisor : List Str := ["one", "other", "left", "right", "turn", "rest"]
theorem st__law_divisor (a0 a1 : D) : startD N__law_divisor.length [a0, a1] = [some a0, some a1, none, none, none, none] := rfl
def rk__law_divisor_0 : TSD := (sRetD (tVarD 2))
theorem ru__law_divisor_0 {E : EndsD} {ρ : Rho} {st : Stor} : rk__law_divisor_0 E ρ st = (sRetD (tVarD 2)) E ρ st := rfl
def rd__law_divisor : TSD := (sSeqD (sAsgD (tCallD dAbs (tConsD (tVarD 0) tNilD)) (gNameD 2))
    (sSeqD (sAsgD (tCallD dAbs (tConsD (tVarD 1) tNilD)) (gNameD 3))
    (sSeqD (sForD (iRng1D (tConsD (tOpD dAdd (tOpD dMul (tCD (.int 2)) (tUnD dBits (tCallD dMax2 (tConsD (tVarD 2) (tConsD (tVarD 3) tNilD))))) (tCD (.int 2))) tNilD)) (gNameD 4) (sSeqD (sIfD (tTestD (tOpD dEq (tVarD 3) (tCD (.int 0)))) sBreakD sNextD)
    (sSeqD (sAsgD (tOpD dMod (tCallD dInt (tConsD (tVarD 2) tNilD)) (tVarD 3)) (gNameD 5))
    (sSeqD (sAsgD (tVarD 3) (gNameD 2))
    (sAsgD (tVarD 5) (gNameD 3))))))
    rk__law_divisor_0)))
abbrev N__law_lowest : List Str := ["over", "under", "divisor"]
theorem st__law_lowest (a0 a1 : D) : startD N__law_lowest.length [a0, a1] = [some a0, some a1, none] := rfl
def rd__law_lowest : TSD := (sSeqD (sAsgD (tCallD sp__law_divisor (tConsD (tVarD 0) (tConsD (tVarD 1) tNilD))) (gNameD 2))
    (sRetD (tTupD (tConsD (tOpD dFdiv (tVarD 0) (tVarD 2)) (tConsD (tOpD dFdiv (tVarD 1) (tVarD 2)) tNilD)))))
abbrev N__law_plus : List Str := ["one", "other"]
theorem st__law_plus (a0 a1 : D) : startD N__law_plus.length [a0, a1] = [some a0, some a1] := rfl
def rd__law_plus : TSD := (sRetD (tCallD sp__law_lowest (tConsD (tOpD dAdd (tOpD dMul (tOpD dIx (tVarD 0) (tCD (.int 0))) (tOpD dIx (tVarD 1) (tCD (.int 1)))) (tOpD dMul (tOpD dIx (tVarD 1) (tCD (.int 0))) (tOpD dIx (tVarD 0) (tCD (.int 1))))) (tConsD (tOpD dMul (tOpD dIx (tVarD 0) (tCD (.int 1))) (tOpD dIx (tVarD 1) (tCD (.int 1)))) tNilD))))
abbrev N__law_times : List Str := ["one", "other"]
theorem st__law_times (a0 a1 : D) : startD N__law_times.length [a0, a1] = [some a0, some a1] := rfl
def rd__law_times : TSD := (sRetD (tCallD sp__law_lowest (tConsD (tOpD dMul (tOpD dIx (tVarD 0) (tCD (.int 0))) (tOpD dIx (tVarD 1) (tCD (.int 0)))) (tConsD (tOpD dMul (tOpD dIx (tVarD 0) (tCD (.int 1))) (tOpD dIx (tVarD 1) (tCD (.int 1)))) tNilD))))
/-! ### fractions -/
theorem num_of {a b : Int} (hb : 0 < b) : (Rat.divInt a b).num = a / ((Nat.gcd a.natAbs b.natAbs : Nat) : Int) := by
  rw [Rat.num_divInt, Int.sign_eq_one_of_pos hb, Int.one_mul, Int.gcd_comm]
  rfl
theorem den_of {a b : Int} (hb : 0 < b) : (((Rat.divInt a b).den : Nat) : Int) = b / ((Nat.gcd a.natAbs b.natAbs : Nat) : Int) := by
  rw [Rat.den_divInt, if_neg (by omega), Int.gcd_comm]
  have : b = ((b.natAbs : Nat) : Int) := by omega
  show ((b.natAbs / Nat.gcd a.natAbs b.natAbs : Nat) : Int) = _
  rw [Int.natCast_ediv]
  rw [← this]
theorem gcd_pos {a b : Int} (hb : 0 < b) : 0 < Nat.gcd a.natAbs b.natAbs := Nat.gcd_pos_of_pos_right _ (by omega)
theorem gcd_le {a b : Int} (hb : 0 < b) : ((Nat.gcd a.natAbs b.natAbs : Nat) : Int) ≤ b := by
  have := Nat.le_of_dvd (by omega) (Nat.gcd_dvd_right a.natAbs b.natAbs)
  omega
theorem log_big {j : Int} (h0 : 0 < j) (h : j < 2 ^ 8000) : j.natAbs.log2 < 9000 := by
  rw [Nat.log2_lt (by omega)]
  have e : ((2 : Int) ^ 8000) = ((2 ^ 8000 : Nat) : Int) := by rw [Int.natCast_pow]; rfl
  rw [e] at h
  have h2 : j.natAbs < 2 ^ 8000 := by omega
  exact Nat.lt_of_lt_of_le h2 (Nat.pow_le_pow_right (by decide) (by decide))
theorem z_fdivB {i j : Int} {st : Stor} {R : KD} (h : 0 < j) (h2 : j < 2 ^ 8000) : dFdiv (.int i) (.int j) st R = R (.int (i / j)) st := by
  rw [y_fdiv, if_pos h]
  exact propext ⟨fun z => z.2.2, fun z => ⟨by omega, log_big h h2, z⟩⟩
theorem hs_quotient_of : ∀ ds s R, sp_quotient_of ds s R → rd_quotient_of (endsD R) (startD N_quotient_of.length ds) s := by
  refine sp2.to fun x y st R h => ?_
  obtain ⟨a, b, rfl, rfl, h0, h1, h⟩ := h
  rw [st_quotient_of]; unfold rd_quotient_of
  have hg := gcd_pos (a := a) h0
  have hg2 := gcd_le (a := a) h0
  have n0 : b ≠ 0 := by omega
  have n1 : ¬ b < 0 := by omega
  simp [n0, n1, dGcd, ↓ru_quotient_of_0, z_fdivB (show (0 : Int) < ((Nat.gcd a.natAbs b.natAbs : Nat) : Int) by omega) (show ((Nat.gcd a.natAbs b.natAbs : Nat) : Int) < 2 ^ 8000 by omega), sizeLine_eq]
  refine ⟨st, Sub.refl _, ?_⟩
  have := h
  unfold qD at this
  rw [num_of h0, den_of h0] at this
  exact this
theorem okQ {a b : Int} {k l : Nat} (ha : a.natAbs < 2 ^ k) (hb : b.natAbs < 2 ^ l) (hk : k ≤ 1000000) (hl : l ≤ 1000000) : IntMulOk a b := by
  refine IntMulOk.of_bits (Nat.le_trans (intBits_le ha) ?_) (Nat.le_trans (intBits_le hb) ?_)
  · exact Nat.le_trans hk (by decide)
  · exact Nat.le_trans hl (by decide)
theorem den_pos (x : Rat) : (0 : Int) < (x.den : Int) := by have := x.den_pos; omega
theorem den_ne (x : Rat) : ((x.den : Nat) : Int) ≠ 0 := by have := x.den_pos; omega
theorem add_of (x y : Rat) : Rat.divInt (x.num * y.den + y.num * x.den) (x.den * y.den) = x + y := by
  rw [← Rat.divInt_add_divInt _ _ (den_ne x) (den_ne y), Rat.num_divInt_den, Rat.num_divInt_den]
theorem sub_of (x y : Rat) : Rat.divInt (x.num * y.den - y.num * x.den) (x.den * y.den) = x - y := by
  rw [← Rat.divInt_sub_divInt _ _ (den_ne x) (den_ne y), Rat.num_divInt_den, Rat.num_divInt_den]
theorem mul_of (x y : Rat) : Rat.divInt (x.num * y.num) (x.den * y.den) = x * y := by
  rw [← Rat.divInt_mul_divInt, Rat.num_divInt_den, Rat.num_divInt_den]
theorem den_mul_pos (x y : Rat) : (0 : Int) < (x.den : Int) * y.den := Int.mul_pos (den_pos x) (den_pos y)
theorem pow_lt {a b : Nat} (h : a < b) : 2 ^ a < 2 ^ b := Nat.pow_lt_pow_right (by decide) h
theorem den_mul_lt {x y : Rat} {k l m : Nat} (hx : Sz k x) (hy : Sz l y) (h : k + l ≤ m) : (x.den : Int) * y.den < 2 ^ m := by
  have h1 : x.den * y.den < 2 ^ k * 2 ^ l := Nat.mul_lt_mul_of_lt_of_le hx.d (Nat.le_of_lt hy.d) (by have := y.den_pos; exact Nat.pow_pos (by decide))
  rw [← Nat.pow_add] at h1
  have h2 : x.den * y.den < 2 ^ m := Nat.lt_of_lt_of_le h1 (Nat.pow_le_pow_right (by decide) h)
  have e : ((2 : Int) ^ m) = ((2 ^ m : Nat) : Int) := by rw [Int.natCast_pow]; rfl
  rw [e, ← Int.natCast_mul]
  omega
theorem qden {x : Rat} {k : Nat} (h : Sz k x) : ((x.den : Nat) : Int).natAbs < 2 ^ k := by rw [Int.natAbs_natCast]; exact h.d
theorem hs_quotient_plus : ∀ ds s R, sp_quotient_plus ds s R → rd_quotient_plus (endsD R) (startD N_quotient_plus.length ds) s := by
  refine sp2.to fun x y st R h => ?_
  obtain ⟨a, b, rfl, rfl, ha, hb, h⟩ := h
  rw [st_quotient_plus]; unfold rd_quotient_plus
  simp [qD]
  refine ⟨okQ ha.n (qden hb) (by decide) (by decide), okQ hb.n (qden ha) (by decide) (by decide), okQ (qden ha) (qden hb) (by decide) (by decide), ?_⟩
  refine ⟨_, _, rfl, rfl, den_mul_pos a b, den_mul_lt ha hb (by decide), st, Sub.refl _, ?_⟩
  rw [add_of]; exact h
theorem hs_quotient_minus : ∀ ds s R, sp_quotient_minus ds s R → rd_quotient_minus (endsD R) (startD N_quotient_minus.length ds) s := by
  refine sp2.to fun x y st R h => ?_
  obtain ⟨a, b, rfl, rfl, ha, hb, h⟩ := h
  rw [st_quotient_minus]; unfold rd_quotient_minus
  simp [qD]
  refine ⟨okQ ha.n (qden hb) (by decide) (by decide), okQ hb.n (qden ha) (by decide) (by decide), okQ (qden ha) (qden hb) (by decide) (by decide), ?_⟩
  refine ⟨_, _, rfl, rfl, den_mul_pos a b, den_mul_lt ha hb (by decide), st, Sub.refl _, ?_⟩
  rw [sub_of]; exact h
theorem hs_quotient_times : ∀ ds s R, sp_quotient_times ds s R → rd_quotient_times (endsD R) (startD N_quotient_times.length ds) s := by
  refine sp2.to fun x y st R h => ?_
  obtain ⟨a, b, rfl, rfl, ha, hb, h⟩ := h
  rw [st_quotient_times]; unfold rd_quotient_times
  simp [qD]
  refine ⟨okQ ha.n hb.n (by decide) (by decide), okQ (qden ha) (qden hb) (by decide) (by decide), ?_⟩
  refine ⟨_, _, rfl, rfl, den_mul_pos a b, den_mul_lt ha hb (by decide), st, Sub.refl _, ?_⟩
  rw [mul_of]; exact h
theorem hs_is_below : ∀ ds s R, sp_is_below ds s R → rd_is_below (endsD R) (startD N_is_below.length ds) s := by
  refine sp2.to fun x y st R h => ?_
  obtain ⟨a, b, rfl, rfl, ha, hb, h⟩ := h
  rw [st_is_below]; unfold rd_is_below
  simp [qD]
  refine ⟨okQ ha.n (qden hb) (by decide) (by decide), okQ hb.n (qden ha) (by decide) (by decide), st, Sub.refl _, ?_⟩
  rw [show decide (a.num * (b.den : Int) < b.num * (a.den : Int)) = decide (a < b) from decide_eq_decide.mpr (Rat.lt_iff a b).symm]
  exact h
theorem hs_negative_of : ∀ ds s R, sp_negative_of ds s R → rd_negative_of (endsD R) (startD N_negative_of.length ds) s := by
  refine sp1.to fun x st R h => ?_
  obtain ⟨a, rfl, h⟩ := h
  rw [st_negative_of]; unfold rd_negative_of
  simp [qD, sizeLine_eq]
  exact ⟨st, Sub.refl _, by simpa [qD] using h⟩
theorem sum_snoc {qs : List Rat} {i : Nat} {q : Rat} (h : qs[i]? = some q) : (qs.take (i + 1)).sum = (qs.take i).sum + q := by
  rw [List.take_add_one, h]
  simp [List.sum_append, Rat.add_zero]

theorem sum_loop (k : Nat) (qs : List Rat) (X : D) (o3 o4 : Option D) {st : Stor} {R : KD} {grd : Stor → Prop} (hl : (k + 1) * qs.length ≤ 7900) (hs : ∀ q ∈ qs, Sz k q) (h : R (qD qs.sum) st) (hg : grd st) :
    loopD grd (gNameD 3) (sIfD (tTestD (tOpD dEq (tOpD dIx (tVarD 3) (tCD (.int 1))) (tVarD 2))) (sAugD 1 dIAdd (tOpD dIx (tVarD 3) (tCD (.int 0)))) (sSeqD (sAsgD (tOpD dAdd (tOpD dMul (tVarD 1) (tOpD dIx (tVarD 3) (tCD (.int 1)))) (tOpD dMul (tOpD dIx (tVarD 3) (tCD (.int 0))) (tVarD 2))) (gNameD 1))
    (sSeqD (sAsgD (tOpD dMul (tVarD 2) (tOpD dIx (tVarD 3) (tCD (.int 1)))) (gNameD 2))
    (sSeqD (sAsgD (tCallD dGcd (tConsD (tVarD 1) (tConsD (tVarD 2) tNilD))) (gNameD 4))
    (sSeqD (sAsgD (tOpD dFdiv (tVarD 1) (tVarD 4)) (gNameD 1))
    (sAsgD (tOpD dFdiv (tVarD 2) (tVarD 4)) (gNameD 2))))))) ((endsD R).onNx (sRetD (tCallD sp_quotient_of (tConsD (tVarD 1) (tConsD (tVarD 2) tNilD))) (endsD R))) (qs.map qD) [some X, some (.int 0), some (.int 1), o3, o4] st := by
  refine loop_keep (fun i ρ => ∃ (o1 o2 : Int) (o3 o4 : Option D), ρ = [some X, some (.int o1), some (.int o2), o3, o4] ∧ 0 < o2 ∧ Rat.divInt o1 o2 = (qs.take i).sum ∧ o2.natAbs ≤ 2 ^ (k * i) ∧ o1.natAbs ≤ 2 ^ ((k + 1) * i))
    ⟨0, 1, o3, o4, rfl, by decide, by simp, by simp, by simp⟩ hg (fun i x ρ hx hQ N hN => ?_) fun ρ hQ => ?_
  · obtain ⟨a, b, o3, o4, rfl, b0, e, bb, ab⟩ := hQ
    obtain ⟨q, hq, rfl⟩ : ∃ q, qs[i]? = some q ∧ qD q = x := by simpa using hx
    have sq := hs q (List.mem_of_getElem? hq)
    have hi : i < qs.length := (List.getElem?_eq_some_iff.mp hq).1
    have pw : ∀ k l : Nat, (2 : Nat) ^ (k + l) = 2 ^ k * 2 ^ l := fun k l => Nat.pow_add ..
    obtain ⟨A, hA⟩ : ∃ A, A = k * i := ⟨_, rfl⟩
    have e1 : k * (i + 1) = A + k := by rw [hA, Nat.mul_succ]
    have e2 : (k + 1) * i = A + i := by rw [hA, Nat.add_mul, Nat.one_mul]
    have e3 : (k + 1) * (i + 1) = A + i + (k + 1) := by rw [Nat.mul_succ, e2]
    have bd : A + i + (k + 1) ≤ 7900 := by rw [← e3]; exact Nat.le_trans (Nat.mul_le_mul_left _ hi) hl
    rw [← hA] at bb
    rw [e2] at ab
    have big : ∀ {j : Int} {k : Nat}, j.natAbs ≤ 2 ^ k → k < 8000 → j < 2 ^ 8000 := fun {j k} hj hk => by
      have : j.natAbs < 2 ^ 8000 := Nat.lt_of_le_of_lt hj (pow_lt hk)
      have e : ((2 : Int) ^ 8000) = ((2 ^ 8000 : Nat) : Int) := by rw [Int.natCast_pow]; rfl
      rw [e]; omega
    have qd := den_pos q
    have qe : Rat.divInt q.num q.den = q := Rat.num_divInt_den q
    have h4 : 1 ≤ 2 ^ (A + i) := Nat.one_le_two_pow
    have h6 : (2 : Nat) ^ (A + i + (k + 1)) = 2 ^ (A + i) * 2 ^ k + 2 ^ (A + i) * 2 ^ k := by rw [show A + i + (k + 1) = A + i + k + 1 by omega, Nat.pow_succ, Nat.pow_add]; omega
    by_cases hd : (q.den : Int) = b
    · simp [qD, hd]
      refine hN _ _ (Sub.refl _) ⟨_, _, _, _, rfl, b0, ?_, by rw [e1]; exact Nat.le_trans bb (Nat.pow_le_pow_right (by decide) (by omega)), ?_⟩
      · rw [sum_snoc hq, ← e]
        rw [hd] at qe
        conv => rhs; rw [← qe]
        rw [Rat.divInt_add_divInt _ _ (by omega) (by omega), ← Int.add_mul, Rat.divInt_mul_right (by omega)]
      · have h1 := Int.natAbs_add_le a q.num
        have h2 := sq.n
        rw [e3, h6]
        have h7 : 2 ^ k ≤ 2 ^ (A + i) * 2 ^ k := Nat.le_mul_of_pos_left _ h4
        have h8 : 2 ^ (A + i) ≤ 2 ^ (A + i) * 2 ^ k := Nat.le_mul_of_pos_right _ Nat.one_le_two_pow
        omega
    · have gp := gcd_pos (a := a * q.den + q.num * b) (Int.mul_pos b0 qd)
      have gl := gcd_le (a := a * q.den + q.num * b) (Int.mul_pos b0 qd)
      have nb : (b * (q.den : Int)).natAbs ≤ 2 ^ (A + k) := by
        rw [Int.natAbs_mul, pw]
        exact Nat.mul_le_mul bb (Nat.le_of_lt (qden sq))
      have gb : ((Nat.gcd (a * (q.den : Int) + q.num * b).natAbs (b * (q.den : Int)).natAbs : Nat) : Int) < 2 ^ 8000 := Int.lt_of_le_of_lt gl (big nb (by omega))
      have g0 : (0 : Int) < ((Nat.gcd (a * (q.den : Int) + q.num * b).natAbs (b * (q.den : Int)).natAbs : Nat) : Int) := by omega
      simp [qD, hd, dGcd, z_fdivB g0 gb]
      refine ⟨okQ (k := A + i + 1) (l := k) (Nat.lt_of_le_of_lt ab (pow_lt (by omega))) (qden sq) (by omega) (by omega), okQ (k := k) (l := A + 1) sq.n (Nat.lt_of_le_of_lt bb (pow_lt (by omega))) (by omega) (by omega), okQ (k := A + 1) (l := k) (Nat.lt_of_le_of_lt bb (pow_lt (by omega))) (qden sq) (by omega) (by omega), ?_⟩
      refine hN _ _ (Sub.refl _) ⟨_, _, _, _, rfl, ?_, ?_, by rw [e1]; exact Nat.le_trans (Int.natAbs_ediv_le_natAbs _ _) nb, Nat.le_trans (Int.natAbs_ediv_le_natAbs _ _) ?_⟩
      · rw [← den_of (Int.mul_pos b0 qd)]; exact den_pos _
      · rw [← num_of (Int.mul_pos b0 qd), ← den_of (Int.mul_pos b0 qd), Rat.num_divInt_den, sum_snoc hq, ← e]
        conv => rhs; rw [← qe]
        rw [Rat.divInt_add_divInt _ _ (by omega) (by omega)]
      · have h1 := Int.natAbs_add_le (a * (q.den : Int)) (q.num * b)
        rw [Int.natAbs_mul, Int.natAbs_mul] at h1
        have h2 : a.natAbs * ((q.den : Nat) : Int).natAbs ≤ 2 ^ (A + i) * 2 ^ k := Nat.mul_le_mul ab (Nat.le_of_lt (qden sq))
        have h3 : q.num.natAbs * b.natAbs ≤ 2 ^ k * 2 ^ A := Nat.mul_le_mul (Nat.le_of_lt sq.n) bb
        have h5 : 2 ^ k * 2 ^ A ≤ 2 ^ (A + i) * 2 ^ k := by
          rw [Nat.mul_comm]; exact Nat.mul_le_mul_right _ (Nat.pow_le_pow_right (by decide) (by omega))
        rw [e3, h6]
        omega
  · obtain ⟨a, b, o3, o4, rfl, b0, e, bb, ab⟩ := hQ
    rw [List.length_map, List.take_length] at e
    rw [List.length_map] at bb
    simp
    refine ⟨a, b, rfl, rfl, b0, ?_, st, Sub.refl _, by rw [e]; exact h⟩
    have kl : k * qs.length ≤ 7900 := Nat.le_trans (Nat.mul_le_mul_right _ (Nat.le_succ k)) hl
    have : b.natAbs < 2 ^ 8000 := Nat.lt_of_le_of_lt bb (pow_lt (by omega))
    have e : ((2 : Int) ^ 8000) = ((2 ^ 8000 : Nat) : Int) := by rw [Int.natCast_pow]; rfl
    rw [e]; omega
theorem hs_sum_of : ∀ ds s R, sp_sum_of ds s R → rd_sum_of (endsD R) (startD N_sum_of.length ds) s := by
  refine sp1.to fun x st R h => ?_
  obtain ⟨k, qs, hx, hl, hs, h⟩ := h
  rw [st_sum_of]; unfold rd_sum_of
  rcases hx with rfl | ⟨p, rfl, hp⟩
  · simp
    exact sum_loop k qs _ _ _ hl hs h trivial
  · simp [z_seq hp]
    exact sum_loop k qs _ _ _ hl hs h hp
/-! ### Euclid -/
def euc : Nat → Int → Int → Int
  | 0, l, _ => l
  | n + 1, l, r => if r = 0 then l else euc n r (l % r)
theorem euc_gcd : ∀ (k n : Nat) (l r : Int), 0 ≤ l → 0 ≤ r → r < 2 ^ k → 2 * k + 1 ≤ n → euc n l r = ((Nat.gcd l.natAbs r.natAbs : Nat) : Int) := by
  have g1 : ∀ (l r : Int), 0 ≤ l → 0 < r → Nat.gcd r.natAbs (l % r).natAbs = Nat.gcd l.natAbs r.natAbs := fun l r hl hr => by
    have e : (l % r).natAbs = l.natAbs % r.natAbs := by
      obtain ⟨a, rfl⟩ := Int.eq_ofNat_of_zero_le hl
      obtain ⟨b, rfl⟩ := Int.eq_ofNat_of_zero_le (Int.le_of_lt hr)
      rfl
    rw [e, Nat.gcd_comm l.natAbs, Nat.gcd_rec r.natAbs l.natAbs, Nat.gcd_comm]
  have z : ∀ (n : Nat) (l : Int), 0 ≤ l → euc n l 0 = ((Nat.gcd l.natAbs (0 : Int).natAbs : Nat) : Int) := fun n l hl => by
    cases n <;> simp [euc] <;> omega
  intro k
  induction k with
  | zero =>
    intro n l r hl hr h hn
    have : r = 0 := by simp at h; omega
    subst this
    exact z n l hl
  | succ k ih =>
    intro n l r hl hr h hn
    obtain ⟨m, rfl⟩ : ∃ m, n = m + 2 := ⟨n - 2, by omega⟩
    by_cases h0 : r = 0
    · subst h0; exact z _ l hl
    · have hr' : 0 < r := by omega
      have a0 := Int.emod_nonneg l h0
      have a1 := Int.emod_lt_of_pos l hr'
      rw [euc, if_neg h0, euc]
      by_cases h1 : l % r = 0
      · rw [if_pos h1, ← g1 l r hl hr', h1]
        simp
        omega
      · rw [if_neg h1]
        have hm : 0 < l % r := by omega
        have b0 := Int.emod_nonneg r h1
        have b1 := Int.emod_lt_of_pos r hm
        have half : 2 * (r % (l % r)) ≤ r := by
          have e := Int.mul_ediv_add_emod r (l % r)
          have q1 : 1 ≤ r / (l % r) := by
            have : ¬ r / (l % r) ≤ 0 := fun hq => by
              have : (l % r) * (r / (l % r)) ≤ 0 := Int.mul_nonpos_of_nonneg_of_nonpos a0 hq
              omega
            omega
          have : l % r ≤ (l % r) * (r / (l % r)) := by
            have := Int.mul_le_mul_of_nonneg_left q1 a0
            omega
          omega
        rw [ih m _ _ a0 b0 (by rw [Int.pow_succ] at h; omega) (by omega), g1 r (l % r) hr hm, g1 l r hl hr']
theorem bits_lt (i : Int) : i.natAbs < 2 ^ Builtin.Int.intBits i := by
  have := (PySem.intBits_le_iff (m := Builtin.Int.intBits i) (x := i)).mp (Nat.le_refl _)
  exact this
theorem hs__law_divisor : ∀ ds s R, sp__law_divisor ds s R → rd__law_divisor (endsD R) (startD N__law_divisor.length ds) s := by
  refine sp2.to fun x y st R h => ?_
  obtain ⟨a, b, rfl, rfl, ha, hb, h⟩ := h
  rw [st__law_divisor]; unfold rd__law_divisor
  simp [dMax2]
  have ea : (if a < 0 then -a else a) = ((a.natAbs : Nat) : Int) := by split <;> omega
  have eb : (if b < 0 then -b else b) = ((b.natAbs : Nat) : Int) := by split <;> omega
  rw [ea, eb]
  have em : (if ((a.natAbs : Nat) : Int) < ((b.natAbs : Nat) : Int) then ((b.natAbs : Nat) : Int) else ((a.natAbs : Nat) : Int)) = ((max a.natAbs b.natAbs : Nat) : Int) := by split <;> omega
  rw [em]
  have h8 : max a.natAbs b.natAbs < 2 ^ 8000 := Nat.max_lt.mpr ⟨ha, hb⟩
  have hk : Builtin.Int.intBits ((max a.natAbs b.natAbs : Nat) : Int) ≤ 8000 := intBits_le (by rw [Int.natAbs_natCast]; exact h8)
  have hb2 : ((b.natAbs : Nat) : Int) < 2 ^ Builtin.Int.intBits ((max a.natAbs b.natAbs : Nat) : Int) := by
    have := bits_lt ((max a.natAbs b.natAbs : Nat) : Int)
    rw [Int.natAbs_natCast] at this
    generalize Builtin.Int.intBits ((max a.natAbs b.natAbs : Nat) : Int) = k at this
    have e : ((2 : Int) ^ k) = ((2 ^ k : Nat) : Int) := by rw [Int.natCast_pow]; rfl
    rw [e]
    have := Nat.le_max_right a.natAbs b.natAbs
    omega
  generalize Builtin.Int.intBits ((max a.natAbs b.natAbs : Nat) : Int) = k at hk hb2
  have ge := euc_gcd k (2 * k + 2) ((a.natAbs : Nat) : Int) ((b.natAbs : Nat) : Int) (by omega) (by omega) hb2 (by omega)
  rw [Int.natAbs_natCast, Int.natAbs_natCast] at ge
  refine ⟨mul_l (by decide) (by decide), by omega, ?_⟩
  have fin : ∀ (o4 o5 : Option D) (r : Int), rk__law_divisor_0 (endsD R) [some (.int a), some (.int b), some (.int ((Nat.gcd a.natAbs b.natAbs : Nat) : Int)), some (.int r), o4, o5] st := fun o4 o5 r => by
    rw [ru__law_divisor_0]
    simp
    exact ⟨st, Sub.refl _, h⟩
  have el : (2 * (k : Int) + 2).toNat = 2 * k + 2 := by omega
  rw [el]
  refine loop_keep (fun i ρ => ∃ (l r : Int) (o4 o5 : Option D), ρ = [some (.int a), some (.int b), some (.int l), some (.int r), o4, o5] ∧ 0 ≤ l ∧ 0 ≤ r ∧ euc (2 * k + 2 - i) l r = ((Nat.gcd a.natAbs b.natAbs : Nat) : Int))
    ⟨_, _, none, none, rfl, by omega, by omega, ge⟩ trivial (fun i x ρ hx hQ N hN => ?_) fun ρ hQ => ?_
  · obtain ⟨l, r, o4, o5, rfl, l0, r0, e⟩ := hQ
    obtain ⟨c, rfl, hc, hi⟩ := rangeD_int hx
    obtain ⟨m, hm⟩ : ∃ m, 2 * k + 2 - i = m + 1 := ⟨2 * k + 1 - i, by omega⟩
    rw [hm, euc] at e
    simp
    by_cases h0 : r = 0
    · simp [h0] at e ⊢
      rw [e]
      exact fin _ _ _
    · rw [if_neg h0] at e
      simp [h0, z_mod (show 0 < r by omega)]
      exact hN _ _ (Sub.refl _) ⟨_, _, _, _, rfl, r0, Int.emod_nonneg _ h0, by rw [show 2 * k + 2 - (i + 1) = m by omega]; exact e⟩
  · obtain ⟨l, r, o4, o5, rfl, l0, r0, e⟩ := hQ
    rw [rangeD_len, Nat.sub_self, euc] at e
    simp
    rw [e]
    exact fin _ _ _
theorem lt_pow {b : Int} {k : Nat} (h0 : 0 < b) (h : b < 2 ^ k) : b.natAbs < 2 ^ k := by
  have e : ((2 : Int) ^ k) = ((2 ^ k : Nat) : Int) := by rw [Int.natCast_pow]; rfl
  rw [e] at h; omega
theorem hs__law_lowest : ∀ ds s R, sp__law_lowest ds s R → rd__law_lowest (endsD R) (startD N__law_lowest.length ds) s := by
  refine sp2.to fun x y st R h => ?_
  obtain ⟨a, b, rfl, rfl, ha, h0, h1, h⟩ := h
  rw [st__law_lowest]; unfold rd__law_lowest
  have hg := gcd_pos (a := a) h0
  have hg2 := gcd_le (a := a) h0
  simp
  refine ⟨a, b, rfl, rfl, ha, lt_pow h0 h1, ?_⟩
  simp [z_fdivB (show (0 : Int) < ((Nat.gcd a.natAbs b.natAbs : Nat) : Int) by omega) (show ((Nat.gcd a.natAbs b.natAbs : Nat) : Int) < 2 ^ 8000 by omega), sizeLine_eq]
  refine ⟨st, Sub.refl _, ?_⟩
  have := h
  unfold qD at this
  rw [num_of h0, den_of h0] at this
  exact this
theorem natAbs_mul_lt {a b : Int} {k l m : Nat} (ha : a.natAbs < 2 ^ k) (hb : b.natAbs < 2 ^ l) (h : k + l ≤ m) : (a * b).natAbs < 2 ^ m := by
  rw [Int.natAbs_mul]
  have h1 : a.natAbs * b.natAbs < 2 ^ k * 2 ^ l := Nat.mul_lt_mul_of_lt_of_le ha (Nat.le_of_lt hb) (Nat.pow_pos (by decide))
  rw [← Nat.pow_add] at h1
  exact Nat.lt_of_lt_of_le h1 (Nat.pow_le_pow_right (by decide) h)
theorem natAbs_add_lt {a b : Int} {k l m : Nat} (ha : a.natAbs < 2 ^ k) (hb : b.natAbs < 2 ^ l) (h1 : k < m) (h2 : l < m) : (a + b).natAbs < 2 ^ m := by
  have := Int.natAbs_add_le a b
  obtain ⟨n, rfl⟩ : ∃ n, m = n + 1 := ⟨m - 1, by omega⟩
  have e1 : (2 : Nat) ^ k ≤ 2 ^ n := Nat.pow_le_pow_right (by decide) (by omega)
  have e2 : (2 : Nat) ^ l ≤ 2 ^ n := Nat.pow_le_pow_right (by decide) (by omega)
  rw [Nat.pow_succ]
  omega
theorem hs__law_plus : ∀ ds s R, sp__law_plus ds s R → rd__law_plus (endsD R) (startD N__law_plus.length ds) s := by
  refine sp2.to fun x y st R h => ?_
  obtain ⟨a, b, rfl, rfl, ha, hb, h⟩ := h
  rw [st__law_plus]; unfold rd__law_plus
  simp [qD]
  refine ⟨okQ ha.n (qden hb) (by decide) (by decide), okQ hb.n (qden ha) (by decide) (by decide), okQ (qden ha) (qden hb) (by decide) (by decide), ?_⟩
  refine ⟨_, _, rfl, rfl, natAbs_add_lt (natAbs_mul_lt ha.n (qden hb) (Nat.le_refl _)) (natAbs_mul_lt hb.n (qden ha) (Nat.le_refl _)) (by decide) (by decide), den_mul_pos a b, den_mul_lt ha hb (by decide), st, Sub.refl _, ?_⟩
  rw [add_of]; exact h
theorem hs__law_times : ∀ ds s R, sp__law_times ds s R → rd__law_times (endsD R) (startD N__law_times.length ds) s := by
  refine sp2.to fun x y st R h => ?_
  obtain ⟨a, b, rfl, rfl, ha, hb, h⟩ := h
  rw [st__law_times]; unfold rd__law_times
  simp [qD]
  refine ⟨okQ ha.n hb.n (by decide) (by decide), okQ (qden ha) (qden hb) (by decide) (by decide), ?_⟩
  refine ⟨_, _, rfl, rfl, natAbs_mul_lt ha.n hb.n (by decide), den_mul_pos a b, den_mul_lt ha hb (by decide), st, Sub.refl _, ?_⟩
  rw [mul_of]; exact h

/-! ### lowest terms, the remainders written out -/
def rk_lowB : TSD := (sRetD (tTupD (tConsD (tOpD dFdiv (tVarD 0) (tVarD 2)) (tConsD (tOpD dFdiv (tVarD 1) (tVarD 2)) tNilD))))
theorem ru_lowB {E : EndsD} {ρ : Rho} {st : Stor} : rk_lowB E ρ st = (sRetD (tTupD (tConsD (tOpD dFdiv (tVarD 0) (tVarD 2)) (tConsD (tOpD dFdiv (tVarD 1) (tVarD 2)) tNilD)))) E ρ st := rfl
def rd_lowB : TSD := (sSeqD (sAsgD (tCallD dAbs (tConsD (tVarD 0) tNilD)) (gNameD 2))
    (sSeqD (sAsgD (tVarD 1) (gNameD 3))
    (sSeqD (sAsgD (tCallD dMax2 (tConsD (tVarD 2) (tConsD (tVarD 3) tNilD))) (gNameD 4))
    (sSeqD (sForD (iRng1D (tConsD (tOpD dAdd (tOpD dMul (tCD (.int 2)) (tUnD dBits (tVarD 4))) (tCD (.int 2))) tNilD)) (gNameD 5) (sSeqD (sIfD (tTestD (tOpD dEq (tVarD 3) (tCD (.int 0)))) sBreakD sNextD)
    (sSeqD (sAsgD (tOpD dMod (tCallD dInt (tConsD (tVarD 2) tNilD)) (tVarD 3)) (gNameD 6))
    (sSeqD (sAsgD (tVarD 3) (gNameD 2))
    (sAsgD (tVarD 6) (gNameD 3))))))
    rk_lowB))))
theorem hs_lowB : ∀ ds s R, sp__law_lowest ds s R → rd_lowB (endsD R) (startD 7 ds) s := by
  refine sp2.to fun x y st R h => ?_
  obtain ⟨a, b, rfl, rfl, ha, h0, h1, h⟩ := h
  show rd_lowB (endsD R) [some (.int a), some (.int b), none, none, none, none, none] st
  unfold rd_lowB
  have hbn := lt_pow h0 h1
  have ea : (if a < 0 then -a else a) = ((a.natAbs : Nat) : Int) := by split <;> omega
  have em : (if b > ((a.natAbs : Nat) : Int) then b else ((a.natAbs : Nat) : Int)) = ((max a.natAbs b.natAbs : Nat) : Int) := by split <;> omega
  simp [dMax2, ea]
  rw [em]
  have h8 : max a.natAbs b.natAbs < 2 ^ 8000 := Nat.max_lt.mpr ⟨ha, hbn⟩
  have hk : Builtin.Int.intBits ((max a.natAbs b.natAbs : Nat) : Int) ≤ 8000 := intBits_le (by rw [Int.natAbs_natCast]; exact h8)
  have hb2 : ((b.natAbs : Nat) : Int) < 2 ^ Builtin.Int.intBits ((max a.natAbs b.natAbs : Nat) : Int) := by
    have := bits_lt ((max a.natAbs b.natAbs : Nat) : Int)
    rw [Int.natAbs_natCast] at this
    generalize Builtin.Int.intBits ((max a.natAbs b.natAbs : Nat) : Int) = k at this
    have e : ((2 : Int) ^ k) = ((2 ^ k : Nat) : Int) := by rw [Int.natCast_pow]; rfl
    rw [e]
    have := Nat.le_max_right a.natAbs b.natAbs
    omega
  generalize Builtin.Int.intBits ((max a.natAbs b.natAbs : Nat) : Int) = k at hk hb2
  generalize ((max a.natAbs b.natAbs : Nat) : Int) = mx
  have ge := euc_gcd k (2 * k + 2) ((a.natAbs : Nat) : Int) ((b.natAbs : Nat) : Int) (by omega) (by omega) hb2 (by omega)
  rw [Int.natAbs_natCast, Int.natAbs_natCast] at ge
  have bb : ((b.natAbs : Nat) : Int) = b := by omega
  rw [bb] at ge
  have hg := gcd_pos (a := a) h0
  have hg2 := gcd_le (a := a) h0
  have fin : ∀ (o4 o5 o6 : Option D) (r : Int), rk_lowB (endsD R) [some (.int a), some (.int b), some (.int ((Nat.gcd a.natAbs b.natAbs : Nat) : Int)), some (.int r), o4, o5, o6] st := fun o4 o5 o6 r => by
    rw [ru_lowB]
    simp [z_fdivB (show (0 : Int) < ((Nat.gcd a.natAbs b.natAbs : Nat) : Int) by omega) (show ((Nat.gcd a.natAbs b.natAbs : Nat) : Int) < 2 ^ 8000 by omega), sizeLine_eq]
    refine ⟨st, Sub.refl _, ?_⟩
    have := h
    unfold qD at this
    rw [num_of h0, den_of h0] at this
    exact this
  refine ⟨mul_l (by decide) (by decide), by omega, ?_⟩
  have el : (2 * (k : Int) + 2).toNat = 2 * k + 2 := by omega
  rw [el]
  refine loop_keep (fun i ρ => ∃ (l r : Int) (o4 o5 o6 : Option D), ρ = [some (.int a), some (.int b), some (.int l), some (.int r), o4, o5, o6] ∧ 0 ≤ l ∧ 0 ≤ r ∧ euc (2 * k + 2 - i) l r = ((Nat.gcd a.natAbs b.natAbs : Nat) : Int))
    ⟨_, _, _, none, none, rfl, by omega, by omega, ge⟩ trivial (fun i x ρ hx hQ N hN => ?_) fun ρ hQ => ?_
  · obtain ⟨l, r, o4, o5, o6, rfl, l0, r0, e⟩ := hQ
    obtain ⟨c, rfl, hc, hi⟩ := rangeD_int hx
    obtain ⟨m, hm⟩ : ∃ m, 2 * k + 2 - i = m + 1 := ⟨2 * k + 1 - i, by omega⟩
    rw [hm, euc] at e
    simp
    by_cases h0 : r = 0
    · simp [h0] at e ⊢
      rw [e]
      exact fin _ _ _ _
    · rw [if_neg h0] at e
      simp [h0, z_mod (show 0 < r by omega)]
      exact hN _ _ (Sub.refl _) ⟨_, _, _, _, _, rfl, r0, Int.emod_nonneg _ h0, by rw [show 2 * k + 2 - (i + 1) = m by omega]; exact e⟩
  · obtain ⟨l, r, o4, o5, o6, rfl, l0, r0, e⟩ := hQ
    rw [rangeD_len, Nat.sub_self, euc] at e
    simp
    rw [e]
    exact fin _ _ _ _
theorem Sz.mono {k l : Nat} {x : Rat} (h : Sz k x) (hl : k ≤ l) : Sz l x := ⟨Nat.lt_of_lt_of_le h.n (Nat.pow_le_pow_right (by decide) hl), Nat.lt_of_lt_of_le h.d (Nat.pow_le_pow_right (by decide) hl)⟩
theorem sz_div {a b : Int} {k : Nat} (ha : a.natAbs < 2 ^ k) (h0 : 0 < b) (hb : b < 2 ^ k) : Sz k (Rat.divInt a b) := by
  refine ⟨?_, ?_⟩
  · rw [num_of h0]; exact Nat.lt_of_le_of_lt (Int.natAbs_ediv_le_natAbs _ _) ha
  · have e := den_of (a := a) h0
    have := Int.natAbs_ediv_le_natAbs b ((Nat.gcd a.natAbs b.natAbs : Nat) : Int)
    rw [← e, Int.natAbs_natCast] at this
    exact Nat.lt_of_le_of_lt this (lt_pow h0 hb)
theorem Sz.add {k l m : Nat} {x y : Rat} (hx : Sz k x) (hy : Sz l y) (h : k + l < m) : Sz m (x + y) := by
  rw [← add_of]
  exact sz_div (natAbs_add_lt (natAbs_mul_lt hx.n (qden hy) (Nat.le_refl _)) (natAbs_mul_lt hy.n (qden hx) (Nat.le_refl _)) h (by omega)) (den_mul_pos x y) (den_mul_lt hx hy (by omega))
theorem Sz.mul {k l m : Nat} {x y : Rat} (hx : Sz k x) (hy : Sz l y) (h : k + l ≤ m) : Sz m (x * y) := by
  rw [← mul_of]
  exact sz_div (natAbs_mul_lt hx.n hy.n h) (den_mul_pos x y) (den_mul_lt hx hy h)
theorem Sz.neg {k : Nat} {x : Rat} (hx : Sz k x) : Sz k (-x) := ⟨by rw [Rat.neg_num, Int.natAbs_neg]; exact hx.n, by rw [Rat.neg_den]; exact hx.d⟩
theorem Sz.sub {k l m : Nat} {x y : Rat} (hx : Sz k x) (hy : Sz l y) (h : k + l < m) : Sz m (x - y) := by
  rw [Rat.sub_eq_add_neg]; exact hx.add hy.neg h
theorem zipD_q {a b : List Rat} {i : Nat} {z : List D} (h : (zipD (a.map qD) (b.map qD))[i]? = some z) : ∃ x y, a[i]? = some x ∧ b[i]? = some y ∧ z = [qD x, qD y] := by
  obtain ⟨u, v, h1, h2, rfl⟩ := zipD_inv _ _ _ _ h
  rw [List.getElem?_map] at h1 h2
  cases e1 : a[i]? with
  | none => rw [e1] at h1; cases h1
  | some x =>
    cases e2 : b[i]? with
    | none => rw [e2] at h2; cases h2
    | some y =>
      rw [e1] at h1; rw [e2] at h2
      cases h1; cases h2
      exact ⟨x, y, rfl, rfl, rfl⟩
theorem take_zip {f : Rat → Rat → Rat} {a b : List Rat} {i : Nat} {x y : Rat} (h1 : a[i]? = some x) (h2 : b[i]? = some y) : (List.zipWith f a b).take (i + 1) = (List.zipWith f a b).take i ++ [f x y] := by
  rw [List.take_add_one, List.getElem?_zipWith, h1, h2]; rfl
theorem sz0 : Sz 1 0 := ⟨by decide, by decide⟩
theorem q0 : D.tup [.int 0, .int 1] = qD 0 := rfl
theorem num_pos {q : Rat} : 0 < q.num ↔ 0 < q := by
  rw [Rat.lt_iff]; simp
theorem natAbs_small {a : Int} {k : Nat} (h0 : -((2 ^ k : Nat) : Int) < a) (h1 : a < ((2 ^ k : Nat) : Int)) : a.natAbs < 2 ^ k := by omega
theorem sz_small {a b : Int} {k : Nat} (h0 : -((2 ^ k : Nat) : Int) < a) (h1 : a < ((2 ^ k : Nat) : Int)) (h2 : 0 < b) (h3 : b < ((2 ^ k : Nat) : Int)) : Sz k (Rat.divInt a b) :=
  sz_div (natAbs_small h0 h1) h2 (by rw [Int.natCast_pow] at h3; exact h3)
theorem low_small {a b : Int} {st : Stor} {R : KD} (h0 : -(2 ^ 40) < a) (h1 : a < 2 ^ 40) (h2 : 0 < b) (h3 : b < 2 ^ 40) (h : R (qD (Rat.divInt a b)) st) : sp__law_lowest [.int a, .int b] st R := by
  have e : ((2 ^ 40 : Nat) : Int) = 2 ^ 40 := by decide
  refine ⟨a, b, rfl, rfl, Nat.lt_trans (natAbs_small (k := 40) (by omega) (by omega)) (pow_lt (by decide)), h2, Int.lt_trans h3 ?_, h⟩
  have e2 : ((2 : Int) ^ 8000) = ((2 ^ 8000 : Nat) : Int) := by rw [Int.natCast_pow]; rfl
  have := pow_lt (a := 40) (b := 8000) (by decide)
  rw [e2, ← e]
  exact Int.ofNat_lt.mpr this
/-! ### what is told alike -/
theorem fit_q (q : Rat) : pureD (qD q) = true ∧ depD (qD q) ≤ 20 ∧ sizeD (qD q) ≤ 1000000 := ⟨rfl, by simp [qD], by simp [qD, sizeD, sizeDs]⟩
theorem divInt_pos {a b : Int} (ha : 0 < a) (hb : 0 < b) : 0 < Rat.divInt a b := by
  rw [← num_pos, num_of hb]
  have g0 : (0 : Int) < ((Nat.gcd a.natAbs b.natAbs : Nat) : Int) := by have := gcd_pos (a := a) hb; omega
  have h1 : ((Nat.gcd a.natAbs b.natAbs : Nat) : Int) ∣ a := by
    have := Nat.gcd_dvd_left a.natAbs b.natAbs
    exact Int.ofNat_dvd_left.mpr this
  exact Int.ediv_pos_of_pos_of_dvd ha (Int.le_of_lt g0) h1
theorem sz_int {i : Int} {k : Nat} (h0 : -((2 ^ k : Nat) : Int) < i) (h1 : i < ((2 ^ k : Nat) : Int)) (hk : 1 ≤ k) : Sz k (i : Rat) := ⟨by rw [Rat.num_intCast]; exact natAbs_small h0 h1, by rw [Rat.den_intCast]; exact Nat.lt_of_lt_of_le (by decide) (Nat.pow_le_pow_right (by decide) hk)⟩
end DQ
-- text DLN
set_option Elab.async false
set_option linter.all false
set_option maxRecDepth 100000
set_option maxHeartbeats 2000000
/-! DLN: dicts with int and text keys, o[i] op= e -/
namespace DL
open PySem PySem.Spec PyProof.Rows L2
def keyD : D → Option Key
  | .int i => some (.inl i)
  | .str x => some (.inr x)
  | _ => none
@[simp] theorem keyD_int {i : Int} : keyD (.int i) = some (.inl i) := rfl
@[simp] theorem keyD_str {i : Str} : keyD (.str i) = some (.inr i) := rfl
def valD (kvs : List (Key × D)) (k : Key) : Option D := (kvs.find? fun kv => decide (kv.1 = k)).map (·.2)
def putD (kvs : List (Key × D)) (k : Key) (v : D) : List (Key × D) :=
  if (kvs.any fun kv => decide (kv.1 = k)) = true then kvs.map (fun kv => if kv.1 = k then (kv.1, v) else kv) else kvs ++ [(k, v)]
theorem valD_nil {k : Key} : valD [] k = none := rfl
theorem valD_cons {p : Key × D} {r : List (Key × D)} {k : Key} : valD (p :: r) k = if p.1 = k then some p.2 else valD r k := by
  by_cases e : p.1 = k <;> simp [valD, List.find?_cons, e]
theorem any_valD (k : Key) : ∀ kvs : List (Key × D), (kvs.any fun kv => decide (kv.1 = k)) = (valD kvs k).isSome
  | [] => rfl
  | p :: r => by
    rw [List.any_cons, any_valD k r, valD_cons]
    by_cases e : p.1 = k <;> simp [e]
theorem valD_map (k j : Key) (y : D) : ∀ kvs : List (Key × D), valD (kvs.map fun kv => if kv.1 = k then (kv.1, y) else kv) j = (valD kvs j).map fun x => if j = k then y else x
  | [] => rfl
  | p :: r => by
    rw [List.map_cons, valD_cons, valD_cons, valD_map k j y r]
    by_cases e : p.1 = k
    · by_cases f : k = j
      · subst f; simp [e]
      · have : ¬ j = k := fun q => f q.symm
        simp [e, f]
    · by_cases f : p.1 = j
      · have : ¬ j = k := fun q => e (f.trans q)
        simp [f, this]
      · simp [e, f]
theorem valD_app (k j : Key) (y : D) : ∀ kvs : List (Key × D), valD (kvs ++ [(k, y)]) j = match valD kvs j with | some x => some x | none => if k = j then some y else none
  | [] => by simp [valD_cons, valD_nil]
  | p :: r => by
    rw [List.cons_append, valD_cons, valD_cons, valD_app k j y r]
    by_cases e : p.1 = j <;> simp [e]
theorem valD_put (kvs : List (Key × D)) (k j : Key) (y : D) : valD (putD kvs k y) j = if j = k then some y else valD kvs j := by
  unfold putD
  rw [any_valD]
  cases h : valD kvs k with
  | none =>
    simp only [Option.isSome_none, Bool.false_eq_true, if_false]
    rw [valD_app]
    by_cases e : j = k
    · subst e; simp [h]
    · rw [if_neg e]
      cases valD kvs j with
      | none => simp [Ne.symm e]
      | some x => rfl
  | some x =>
    simp only [Option.isSome_some, if_true]
    rw [valD_map]
    by_cases e : j = k
    · subst e; rw [h]; simp
    · simp [e]
theorem putD_new {kvs : List (Key × D)} {k : Key} {v : D} (h : valD kvs k = none) : putD kvs k v = kvs ++ [(k, v)] := by
  unfold putD; rw [any_valD, h]; rfl
theorem putD_keys {kvs : List (Key × D)} {k : Key} {v : D} (h : (valD kvs k).isSome = true) : (putD kvs k v).map (·.1) = kvs.map (·.1) := by
  unfold putD; rw [any_valD, h, if_pos rfl, List.map_map]
  refine List.map_congr_left fun p _ => ?_
  simp only [Function.comp]
  split <;> rfl
theorem putD_len {kvs : List (Key × D)} {k : Key} {v : D} : (putD kvs k v).length ≤ kvs.length + 1 := by
  unfold putD; split <;> simp
section
variable {K : PySem.W.Frag} {H : Hp}
theorem repKV_any {ks : List (Key × D)} {ws : List (Key × V)} (r : RepKV K H ks ws) (k : Key) : (ks.any fun kv => decide (kv.1 = k)) = ws.any fun kv => decide (kv.1 = k) := by
  induction r with
  | nil => rfl
  | cons h t ih => simp only [List.any_cons]; rw [h.1, ih]
theorem repKV_len {ks : List (Key × D)} {ws : List (Key × V)} (r : RepKV K H ks ws) : ks.length = ws.length := by
  induction r with
  | nil => rfl
  | cons h t ih => simp [ih]
theorem repKV_val {ks : List (Key × D)} {ws : List (Key × V)} (r : RepKV K H ks ws) (k : Key) : (∃ d v, valD ks k = some d ∧ valV ws k = some v ∧ Rep K H d v) ∨ (valD ks k = none ∧ valV ws k = none) := by
  induction r with
  | nil => exact .inr ⟨rfl, rfl⟩
  | cons h t ih =>
    rename_i p q l1 l2
    by_cases e : p.1 = k
    · exact .inl ⟨p.2, q.2, by rw [valD_cons, if_pos e], valV_pos (h.1 ▸ e), h.2⟩
    · rw [valD_cons, if_neg e, valV_neg (h.1 ▸ e)]; exact ih
theorem repKV_map {ks : List (Key × D)} {ws : List (Key × V)} (r : RepKV K H ks ws) (k : Key) {d : D} {v : V} (rd : Rep K H d v) :
    RepKV K H (ks.map fun kv => if kv.1 = k then (kv.1, d) else kv) (ws.map fun kv => if kv.1 = k then (kv.1, v) else kv) := by
  induction r with
  | nil => exact .nil
  | cons h t ih =>
    rename_i p q l1 l2
    refine .cons ?_ ih
    show (if p.1 = k then (p.1, d) else p).1 = (if q.1 = k then (q.1, v) else q).1 ∧ Rep K H (if p.1 = k then (p.1, d) else p).2 (if q.1 = k then (q.1, v) else q).2
    by_cases e : p.1 = k
    · rw [if_pos e, if_pos (h.1 ▸ e)]; exact ⟨h.1, rd⟩
    · rw [if_neg e, if_neg (h.1 ▸ e)]; exact h
theorem repKV_app {ks : List (Key × D)} {ws : List (Key × V)} (r : RepKV K H ks ws) {k : Key} {d : D} {v : V} (rd : Rep K H d v) : RepKV K H (ks ++ [(k, d)]) (ws ++ [(k, v)]) := by
  induction r with
  | nil => exact .cons ⟨rfl, rd⟩ .nil
  | cons h t ih => exact .cons h ih
theorem repKV_put {ks : List (Key × D)} {ws : List (Key × V)} (r : RepKV K H ks ws) {k : Key} {d : D} {v : V} (rd : Rep K H d v) : RepKV K H (putD ks k d) (putK ws k v) := by
  unfold putD putK
  rw [repKV_any r k]
  split
  · exact repKV_map r k rd
  · exact repKV_app r rd
theorem key_rep {y : D} {k : Key} {v : V} (h : keyD y = some k) (r : Rep K H y v) : v = kV k := by
  cases y <;> simp [keyD] at h
  · subst h; unfold Rep at r; exact r
  · subst h; unfold Rep at r; exact r.1
end
section
variable {K : PySem.W.Frag} {J : Hid} {st : Stor} {H : Hp} {p a : Addr}
theorem SimS.newK {kvs : List (Key × D)} {ws : List (Key × V)} (S : SimS K J st H) (h : H p = none) (r : RepKV K H kvs ws) : SimS K J (put st p (.dic kvs)) (upd H p (.dK ws)) :=
  ⟨fun a c e => by
    by_cases ne : a = p
    · subst ne
      rw [put_same] at e
      cases e
      exact ⟨ws, upd_same, r.ext (Ext.new h)⟩
    · rw [put_ne ne] at e
      exact (S.cell a c e).ext (Ext.new h) (upd_ne ne),
   J.keep _ _ S.hid (Ext.new h) fun a z => upd_ne fun q => S.nohid h (q ▸ z), fun a z => by
    have ne : a ≠ p := fun q => S.nohid h (by subst q; exact z)
    rw [put_ne ne]; exact S.sep a z⟩
theorem SimS.setK {kvs ls : List (Key × D)} {ws us : List (Key × V)} (S : SimS K J st H) (hs : st a = some (.dic kvs)) (h : H a = some (.dK ws)) (r : RepKV K H ls us) : SimS K J (put st a (.dic ls)) (upd H a (.dK us)) :=
  have nj : ¬ J.at_ a := fun z => by rw [S.sep a z] at hs; cases hs
  ⟨fun b c e => by
    by_cases ne : b = a
    · subst ne
      rw [put_same] at e
      cases e
      exact ⟨us, upd_same, r.ext (Ext.dK h)⟩
    · rw [put_ne ne] at e
      exact (S.cell b c e).ext (Ext.dK h) (upd_ne ne),
   J.keep _ _ S.hid (Ext.dK h) fun b z => upd_ne fun q => nj (q ▸ z), fun b z => by
    have ne : b ≠ a := fun q => nj (by subst q; exact z)
    rw [put_ne ne]; exact S.sep b z⟩
theorem SimS.dic {kvs : List (Key × D)} (S : SimS K J st H) (hs : st a = some (.dic kvs)) : ∃ ws, H a = some (.dK ws) ∧ RepKV K H kvs ws := S.cell a _ hs
end
/-! ### rules -/
def dDget (x y : D) (st : Stor) (R : KD) : Prop := match x with
  | .ref a => ∃ kvs k v, st a = some (.dic kvs) ∧ keyD y = some k ∧ valD kvs k = some v ∧ R v st
  | _ => False
def dSetD (a : Addr) (i d : D) (st : Stor) (R : Stor → Prop) : Prop := ∃ kvs k, st a = some (.dic kvs) ∧ keyD i = some k ∧ kvs.length < sizeLine ∧ R (put st a (.dic (putD kvs k d)))
def dIxL (x y : D) (st : Stor) (R : KD) : Prop := match x, y with
  | .ref a, .int k => ∃ xs v, getL st a = some xs ∧ atI xs k = some v ∧ R v st
  | _, _ => False
def tDNewD : TED := fun _ st R => ∀ p, st p = none → R (.ref p) (put st p (.dic []))
section
variable {J : Hid} {X : Cx} {o i e : Expr} {to ti te : TED} {pos : Pos}
theorem dget_up {K : PySem.W.Frag} {vx vy : V} {H : Hp} {Q : VK} (h : upR2 K J dDget vx vy H Q) : ∃ a v, vx = .ref a ∧ DGet H a vy (some v) ∧ Q v H := by
  obtain ⟨x, y, st, R, rx, ry, S, h, q⟩ := h
  cases x <;> try exact (show False from h).elim
  obtain ⟨kvs, k, v, h1, h2, h3, h4⟩ := h
  unfold Rep at rx
  subst rx
  have ey := key_rep h2 ry
  subst ey
  obtain ⟨ws, e, r⟩ := S.dic h1
  rcases repKV_val r k with ⟨d, w, e1, e2, rr⟩ | ⟨e1, _⟩
  · rw [h3] at e1
    cases e1
    exact ⟨_, w, rfl, by rw [← e2]; exact DGet.k e, q v st w H h4 (Ext.refl H) S rr⟩
  · rw [h3] at e1; cases e1
theorem ed_dget (hu : X.A.units + 61 < cLine) (ho : PED J X o to) (hi : PED J X i ti) (hs : NoSl i := by exact fun _ _ => rfl) : PED J X (.Subscript o i pos) (tOpD dDget to ti) := by
  refine PE.imp (pe_dget (by omega) ho hi hs) fun σ H Q h => ?_
  obtain ⟨ρ, st, R, re, S, h, q⟩ := up_op h
  refine ⟨ρ, st, R, re, S, h, fun x s1 vx H1 hx e1 S1 rx => ?_⟩
  obtain ⟨ρ, s2, R2, re2, S2, h2, q2⟩ := q x s1 vx H1 hx e1 S1 rx
  refine ⟨ρ, s2, R2, re2, S2, h2, fun y s3 vy H3 hy e3 S3 ry => ?_⟩
  exact dget_up (q2 y s3 vy H3 hy e3 S3 ry)
theorem set_dictV (hu : X.A.units + 1 < cLine) : PSet X (fun o i v H Q => ∃ a H', o = .ref a ∧ DPut H a i v H' ∧ Q H') := by
  intro pins s σ H o i v ov iv u Q I ro ri rv h
  obtain ⟨a, H', rfl, g, q⟩ := h
  cases ro
  exact d_setItem hu I g ri rv fun s' I' => ⟨H', I', q⟩
theorem sd_dict (hu : X.A.units + 61 < cLine) : PSet X (upSet X.K J dSetD) := by
  refine PSet.imp (set_dictV (by omega)) fun o i v H Q h => ?_
  obtain ⟨a, y, d, st, R, rfl, ry, rd, S, h, q⟩ := h
  obtain ⟨kvs, k, h1, h2, h3, h4⟩ := h
  have ey := key_rep h2 ry
  subst ey
  obtain ⟨ws, e, r⟩ := S.dic h1
  exact ⟨a, _, rfl, DPut.k e (by rw [← repKV_len r]; exact h3), q _ _ h4 (Ext.dK e) (S.setK h1 e (repKV_put r rd))⟩
theorem ed_dnew : PED J X (.Dict [] [] pos) tDNewD := by
  refine PE.imp pe_dnewK fun σ H Q h => ?_
  obtain ⟨ρ, st, R, re, S, h, q⟩ := h
  intro p hp
  exact q _ _ _ _ (h p (S.fresh hp)) (Ext.new hp) (S.newK hp .nil) rep_ref
/-! ### o[i] op= e -/
theorem get_listV : PGet X (rIxL X.K) := by
  intro pins s σ H x y v u Q I rx ry h
  obtain ⟨p, xs, i, z, rfl, rfl, hq, he, q⟩ := h
  cases rx
  obtain ⟨t, rfl⟩ := ry
  obtain ⟨its, r, pl, hz⟩ := I.list hq
  obtain ⟨j, h1, h2, h3, h4, h5⟩ := atI_get he
  obtain ⟨w, ew, rw'⟩ := r.get h2
  have hl := r.length
  have hn := line63
  have fin : EP X pins σ Q w s := ⟨z, H, I, rw', q⟩
  by_cases h0 : 0 ≤ i
  · have hj : i.toNat = j := by
      rw [seqIndex_of h0 h5] at h1
      exact Option.some.inj h1
    exact wpAny_getItem_list pl.isList h0 (by omega) (by rw [hj]; simpa using ew) fin
  · have hj : (i + (its.toArray.size : Int)).toNat = j := by
      rw [seqIndex_neg (by omega) h4] at h1
      rw [List.size_toArray, ← hl]
      exact Option.some.inj h1
    exact wpAny_getItem_list_neg pl.isList (by omega) (by rw [List.size_toArray] <;> omega) (by omega) (by rw [hj]; simpa using ew) fin
theorem PGet.imp {t t' : V → V → Hp → VK → Prop} (h : PGet X t) (k : ∀ o i H Q, t' o i H Q → t o i H Q) : PGet X t' := fun p s σ H o i ov iv Q I ro ri q => h p s σ H o i ov iv Q I ro ri (k _ _ _ _ q)
theorem gt_list : PGet X (upR2 X.K J dIxL) := by
  refine PGet.imp get_listV fun vx vy H Q h => ?_
  obtain ⟨x, y, st, R, rx, ry, S, h, q⟩ := h
  cases x <;> cases y <;> try exact (show False from h).elim
  obtain ⟨xs, v, hg, h1, h2⟩ := h
  unfold Rep at rx ry
  subst rx ry
  obtain ⟨vs, t1, r1⟩ := S.getL hg
  obtain ⟨w, h3, h4⟩ := reps_at r1 h1
  exact ⟨_, vs, _, w, rfl, rfl, t1, h3, q _ st _ H h2 (Ext.refl H) S h4⟩
theorem gt_dict (hu : X.A.units + 61 < cLine) : PGet X (upR2 X.K J dDget) := by
  intro pins s σ H x y v u Q I rx ry h
  obtain ⟨a, w, rfl, g, q⟩ := dget_up h
  cases rx
  exact d_getItem (by omega) I g ry fun w' s' I' rw' => ⟨w, H, I', rw', q⟩
def sAugSD (to ti te : TED) (get op : RD2) (set : RSet) : TSD := fun E ρ st => to ρ st fun o s1 => ti ρ s1 fun i s2 => get o i s2 fun x s3 => te ρ s3 fun y s4 => op x y s4 fun z s5 => match o with
  | .ref a => set a i z s5 fun s6 => E.nx ρ s6
  | _ => False
theorem sd_augS {op : Operator} {get r : RD2} {set : RSet} {tpos : Pos} (hop : OpR X (inplaceOp op) (upR2 X.K J r)) (hg : PGet X (upR2 X.K J get)) (hs : PSet X (upSet X.K J set)) (ho : PED J X o to) (hi : PED J X i ti) (he : PED J X e te)
    (ha : ∀ ov iv new, augStore i ov iv new = (do holding [new, ov, iv] (setItem ov iv new); release [new, ov, iv] []; pure .next) := by intros; rfl) : PSD J X (.AugAssign (.Subscript o i tpos) op e pos) (sAugSD to ti te get r set) := by
  refine PS.imp (ps_augS (tip := upR2 X.K J r) ho hi hg he hop hs ha) fun D σ H h => ?_
  obtain ⟨ρ, st, E, re, S, h, q⟩ := h
  refine ⟨ρ, st, _, re, S, h, fun x1 s1 v1 H1 h1 e1 S1 r1 => ?_⟩
  refine ⟨ρ, s1, _, re.ext e1, S1, h1, fun x2 s2 v2 H2 h2 e2 S2 r2 => ?_⟩
  refine ⟨x1, x2, s2, _, Rep.ext e2 _ _ r1, r2, S2, h2, fun x3 s3 v3 H3 h3 e3 S3 r3 => ?_⟩
  refine ⟨ρ, s3, _, ((re.ext e1).ext e2).ext e3, S3, h3, fun x4 s4 v4 H4 h4 e4 S4 r4 => ?_⟩
  refine ⟨x3, x4, s4, _, Rep.ext e4 _ _ r3, r4, S4, h4, fun x5 s5 v5 H5 h5 e5 S5 r5 => ?_⟩
  cases x1 <;> try exact (show False from h5).elim
  unfold Rep at r1
  subst r1
  exact ⟨_, x2, x5, s5, _, rfl, Rep.ext (e3.trans (e4.trans e5)) _ _ r2, r5, S5, h5, fun s6 H6 h6 e6 S6 => q.nx ρ s6 σ H6 h6 (e1.trans (e2.trans (e3.trans (e4.trans (e5.trans e6))))) S6 ((((((re.ext e1).ext e2).ext e3).ext e4).ext e5).ext e6)⟩
end
/-! ### dict comprehensions -/
def dcompD {α : Type} (grd : Stor → Prop) (g : α → Rho → Stor → (Rho → Stor → Prop) → Prop) (c : TTD) (ek ev : TED) (ρ : Rho) (p : Addr) (R : Stor → Prop) : List α → List (Key × D) → Stor → Prop
  | [], _, st => grd st ∧ R st
  | x :: xs, acc, st => grd st ∧ ∃ N : Option (Key × D) → Stor → Prop, (g x ρ st fun ρ1 s1 => c ρ1 s1 fun b s2 => if b = true then ek ρ1 s2 fun y s3 => ev ρ1 s3 fun z s4 => ∃ k, keyD y = some k ∧ N (some (k, z)) s4 else N none s2) ∧
      (∀ k z s3, N (some (k, z)) s3 → ∃ s4, Sub s4 s3 ∧ s4 p = some (.dic acc) ∧ acc.length < sizeLine ∧ dcompD grd g c ek ev ρ p R xs (putD acc k z) (put s4 p (.dic (putD acc k z)))) ∧
      (∀ s3, N none s3 → ∃ s4, Sub s4 s3 ∧ dcompD grd g c ek ev ρ p R xs acc s4)
def tDcD {α : Type} (it : TID α) (g : α → Rho → Stor → (Rho → Stor → Prop) → Prop) (c : TTD) (ek ev : TED) (vs : List Nat) : TED := fun ρ st R =>
  it ρ st fun items grd s1 => ∀ p, s1 p = none → dcompD grd g c ek ev (wipeD ρ vs) p (fun s2 => R (.ref p) s2) items [] (put s1 p (.dic []))
section
variable {α : Type} {J : Hid} {X : Cx} {Y : YD α} {kx vx tg iter : Expr} {ifs : List Expr} {scope : Scope} {own : List (Str × Nat)} {pos : Pos} {it : TID α} {tv : TG} {g : α → Rho → Stor → (Rho → Stor → Prop) → Prop} {tt : TTD} {ek ev : TED}
theorem up_dc (tgk : TgOk X.K Y (own.map (·.2)) tv g) {σ : L2.St} {H : Hp} {Q : VK} (h : upE X.K J (tDcD it g tt ek ev (own.map (·.2))) σ H Q) : tDc (upI X.K J Y it) tv (upT X.K J tt) (upE X.K J ek) (upE X.K J ev) (own.map (·.2)) σ H Q := by
  obtain ⟨ρ, st, R, re, S, h, q⟩ := h
  refine ⟨ρ, st, _, re, S, h, fun items grd s1 Ji H1 hl e1 S1 W D hD => ?_⟩
  have hl := hl D (S1.fresh hD)
  refine ⟨fun i m H' => m = items.length - i ∧ i ≤ items.length ∧ ∃ acc s2, SimS X.K J s2 H' ∧ Ext H1 H' ∧ dcompD grd g tt ek ev (wipeD ρ (own.map (·.2))) D (fun s3 => R (.ref D) s3) (items.drop i) acc s2,
    ⟨items.length, by simp, Nat.zero_le _, [], _, S1.newK hD .nil, Ext.new hD, by simpa using hl⟩, ?_⟩
  rintro i m H' ⟨rfl, hi, acc, s2, S2, e2, hc⟩
  by_cases hlt : i < items.length
  · rw [← List.getElem_cons_drop hlt] at hc
    obtain ⟨hg, N, hN, hs, hn⟩ := hc
    refine .inr ⟨W.goes i H' s2 hlt e2 S2 hg, fun H2 => ∃ acc s3, SimS X.K J s3 H2 ∧ Ext H1 H2 ∧ dcompD grd g tt ek ev (wipeD ρ (own.map (·.2))) D (fun s3 => R (.ref D) s3) (items.drop (i + 1)) acc s3, fun H2 ⟨acc, s3, S3, e3, c3⟩ => ⟨_, by omega, rfl, hlt, acc, s3, S3, e3, c3⟩, fun x H2 hy => ?_⟩
    obtain ⟨d, hd, e3, S3, y⟩ := W.yields i H' s2 x H2 hlt e2 S2 hg hy
    have ed : items[i] = d := by
      rw [List.getElem?_eq_getElem hlt] at hd
      exact Option.some.inj hd
    rw [ed] at hN
    refine tgk x _ H2 _ d _ s2 _ y (((re.ext e1).wipe _).ext (e2.trans e3)) hN fun ρ1 σ1 h1 r1 w1 => ?_
    refine ⟨w1.trans (wipe_idem _), ρ1, s2, _, r1, S3, h1, fun b s4 H4 hb e4 S4 => ?_⟩
    cases b with
    | true =>
      rw [if_pos rfl] at hb
      refine iteT ⟨ρ1, s4, _, r1.ext e4, S4, hb, fun y s5 w H5 hv e5 S5 ry => ?_⟩
      refine ⟨ρ1, s5, _, (r1.ext e4).ext e5, S5, hv, fun z s6 w2 H6 hz e6 S6 rz => ?_⟩
      obtain ⟨k, hk, hz⟩ := hz
      obtain ⟨s7, sub, h7, hl7, hc7⟩ := hs k z s6 hz
      have S7 := S6.sub sub
      obtain ⟨ws, eD, rws⟩ := S7.dic h7
      exact ⟨ws, k, key_rep hk ry, eD, by rw [← repKV_len rws]; exact hl7, _, _, S7.setK h7 eD (repKV_put rws rz), (e2.trans (e3.trans (e4.trans (e5.trans e6)))).trans (Ext.dK eD), hc7⟩
    | false =>
      rw [if_neg Bool.false_ne_true] at hb
      obtain ⟨s6, sub, hc6⟩ := hn s4 hb
      exact iteF ⟨acc, s6, S4.sub sub, e2.trans (e3.trans e4), hc6⟩
  · have ei : i = items.length := by omega
    subst ei
    rw [List.drop_length] at hc
    exact .inl ⟨W.stops H' s2 e2 S2 hc.1, q _ s2 _ H' hc.2 (e1.trans e2) S2 rep_ref⟩
theorem ed_dc (hc : X.calm = true) (hN : X.N.Nodup) (hi : PID J X Y tg iter it) (ok : BlkOk X.N X.env.scope scope own) (tgk : TgOk X.K Y (own.map (·.2)) tv g)
    (hg : ∀ (s : Shared) (H : Hp) (C : Addr) (cl : List (Str × Addr)) (fp : List Addr), PG (X.blk s H scope (compEnvC scope cl C X.env) fp) tg tv) (ht : ∀ (s : Shared) (H : Hp) (C : Addr) (cl : List (Str × Addr)) (fp : List Addr), PTsD J (X.blk s H scope (compEnvC scope cl C X.env) fp) ifs tt)
    (hk : ∀ (s : Shared) (H : Hp) (C : Addr) (cl : List (Str × Addr)) (fp : List Addr), PED J (X.blk s H scope (compEnvC scope cl C X.env) fp) kx ek)
    (he : ∀ (s : Shared) (H : Hp) (C : Addr) (cl : List (Str × Addr)) (fp : List Addr), PED J (X.blk s H scope (compEnvC scope cl C X.env) fp) vx ev) (hs : ∀ x, foldedSetIterable iter X.env x = pure x := by intro _; rfl) :
    PED J X (.DictComp kx vx [⟨tg, iter, ifs, 0⟩] scope pos) (tDcD it g tt ek ev (own.map (·.2))) :=
  PE.imp (pe_dc (tt := upT X.K J tt) (tk := upE X.K J ek) (tv := upE X.K J ev) hc hN hi ok hg (fun s H C cl fp => (ht s H C cl fp).h) (fun s H C cl fp => hk s H C cl fp) (fun s H C cl fp => he s H C cl fp) hs) fun σ H Q h => up_dc tgk h
end
/-! ### to work with them -/
section
variable {ρ : Rho} {st : Stor} {R : KD} {E : EndsD}
@[simp ↓] theorem x_dc {α : Type} (it : TID α) (g : α → Rho → Stor → (Rho → Stor → Prop) → Prop) (c : TTD) (ek ev : TED) (vs : List Nat) : tDcD it g c ek ev vs ρ st R =
  it ρ st fun items grd s1 => ∀ p, s1 p = none → dcompD grd g c ek ev (wipeD ρ vs) p (fun s2 => R (.ref p) s2) items [] (put s1 p (.dic [])) := rfl
@[simp ↓] theorem x_dnew : tDNewD ρ st R = ∀ p, st p = none → R (.ref p) (put st p (.dic [])) := rfl
@[simp ↓] theorem x_augS (to ti te : TED) (get op : RD2) (set : RSet) : sAugSD to ti te get op set E ρ st = to ρ st fun o s1 => ti ρ s1 fun i s2 => get o i s2 fun x s3 => te ρ s3 fun y s4 => op x y s4 fun z s5 => (match o with
  | .ref a => set a i z s5 fun s6 => E.nx ρ s6
  | _ => False) := rfl
theorem z_dget {p : Addr} {y v : D} {k : Key} {kvs : List (Key × D)} (h : st p = some (.dic kvs)) (hk : keyD y = some k) (hv : valD kvs k = some v) : dDget (.ref p) y st R = R v st := by
  show (∃ _ _ _, _) = _
  refine propext ⟨fun ⟨ks, k', v', h1, h2, h3, h4⟩ => ?_, fun h4 => ⟨_, _, _, h, hk, hv, h4⟩⟩
  rw [h] at h1; cases h1
  rw [hk] at h2; cases h2
  rw [hv] at h3; cases h3
  exact h4
theorem z_dset {p : Addr} {y v : D} {k : Key} {kvs : List (Key × D)} {R : Stor → Prop} (h : st p = some (.dic kvs)) (hk : keyD y = some k) (hl : kvs.length < sizeLine) : dSetD p y v st R = R (put st p (.dic (putD kvs k v))) := by
  refine propext ⟨fun ⟨ks, k', h1, h2, h3, h4⟩ => ?_, fun h4 => ⟨_, _, h, hk, hl, h4⟩⟩
  rw [h] at h1; cases h1
  rw [hk] at h2; cases h2
  exact h4
theorem z_ixLL {p : Addr} {i : Int} {v : D} {xs : List D} (h : getL st p = some xs) (hv : atI xs i = some v) : dIxL (.ref p) (.int i) st R = R v st := by
  show (∃ _ _, _) = _
  refine propext ⟨fun ⟨ys, w, h1, h2, h3⟩ => ?_, fun h4 => ⟨_, _, h, hv, h4⟩⟩
  rw [h] at h1; cases h1
  rw [hv] at h2; cases h2
  exact h3
end
section
variable {α : Type} {grd : Stor → Prop} {g : α → Rho → Stor → (Rho → Stor → Prop) → Prop} {c : TTD} {ek ev : TED} {ρ : Rho} {p : Addr} {R : Stor → Prop} {items : List α}
/-- the rest of the store stays -/
theorem dcomp_keep {s : Stor} (Q : Nat → List (Key × D) → Prop) (hz : items.length ≤ sizeLine) (h0 : Q 0 []) (hg : ∀ acc, grd (put s p (.dic acc))) (hl : ∀ i acc, Q i acc → acc.length ≤ i)
    (hs : ∀ i x acc, items[i]? = some x → Q i acc → ∀ (Y : Key → D → Stor → Prop) (Z : Stor → Prop), (∀ k v s3, Sub (put s p (.dic acc)) s3 → Q (i + 1) (putD acc k v) → Y k v s3) → (∀ s3, Sub (put s p (.dic acc)) s3 → Q (i + 1) acc → Z s3) →
      g x ρ (put s p (.dic acc)) fun ρ1 s1 => c ρ1 s1 fun b s2 => if b = true then ek ρ1 s2 fun y s3 => ev ρ1 s3 fun z s4 => ∃ k, keyD y = some k ∧ Y k z s4 else Z s2)
    (hd : ∀ acc, Q items.length acc → R (put s p (.dic acc))) : dcompD grd g c ek ev ρ p R items [] (put s p (.dic [])) := by
  have main : ∀ (n i : Nat) (acc : List (Key × D)), n = items.length - i → i ≤ items.length → Q i acc → dcompD grd g c ek ev ρ p R (items.drop i) acc (put s p (.dic acc)) := by
    intro n
    induction n with
    | zero =>
      intro i acc hn hi q
      have ei : i = items.length := by omega
      subst ei
      rw [List.drop_length]
      exact ⟨hg _, hd _ q⟩
    | succ n ih =>
      intro i acc hn hi q
      have hlt : i < items.length := by omega
      rw [← List.getElem_cons_drop hlt]
      have := hl _ _ q
      refine ⟨hg _, fun o s3 => match o with
        | some (k, v) => Sub (put s p (.dic acc)) s3 ∧ Q (i + 1) (putD acc k v)
        | none => Sub (put s p (.dic acc)) s3 ∧ Q (i + 1) acc, hs i _ acc (List.getElem?_eq_getElem hlt) q (fun k v s4 => Sub (put s p (.dic acc)) s4 ∧ Q (i + 1) (putD acc k v)) (fun s4 => Sub (put s p (.dic acc)) s4 ∧ Q (i + 1) acc) (fun k v s3 a b => ⟨a, b⟩) (fun s3 a b => ⟨a, b⟩), fun k v s3 ⟨a, d⟩ => ⟨_, a, put_same, by omega, by rw [put_put]; exact ih _ _ (by omega) hlt d⟩, fun s3 ⟨a, d⟩ => ⟨_, a, ih _ _ (by omega) hlt d⟩⟩
  have := main items.length 0 [] (by simp) (Nat.zero_le _) h0
  simpa using this
end
end DL
-- text DLO
set_option Elab.async false
set_option linter.all false
set_option maxRecDepth 100000
set_option maxHeartbeats 2000000
/-! DLO: list(range), tuple(range); a def without a promise -/
namespace DL
open PySem PySem.Spec PyProof.Rows L2
def tListRg1D (ta : TED) : TED := fun ρ st R => ta ρ st fun x s1 => match x with
  | .int n => (0 ≤ n ∧ n ≤ 16777216) ∧ ∀ p, s1 p = none → R (.ref p) (put s1 p (.lst (rangeD 0 n.toNat)))
  | _ => False
def tListRg2D (ta tb : TED) : TED := fun ρ st R => ta ρ st fun x s1 => tb ρ s1 fun y s2 => match x, y with
  | .int m, .int n => (0 ≤ m ∧ m ≤ 16777216 ∧ 0 ≤ n ∧ n ≤ 16777216) ∧ ∀ p, s2 p = none → R (.ref p) (put s2 p (.lst (rangeD m (n - m).toNat)))
  | _, _ => False
def tTupleRg1D (ta : TED) : TED := fun ρ st R => ta ρ st fun x s1 => match x with
  | .int n => (0 ≤ n ∧ n ≤ 16777216) ∧ R (.tup (rangeD 0 n.toNat)) s1
  | _ => False
def tTupleRg2D (ta tb : TED) : TED := fun ρ st R => ta ρ st fun x s1 => tb ρ s1 fun y s2 => match x, y with
  | .int m, .int n => (0 ≤ m ∧ m ≤ 16777216 ∧ 0 ≤ n ∧ n ≤ 16777216) ∧ R (.tup (rangeD m (n - m).toNat)) s2
  | _, _ => False
theorem reps_rg {K : PySem.W.Frag} {H : Hp} (a b : Int) : Reps K H (rangeD a (b - a).toNat) (rgV a b) := by
  have := Reps.ints (K := K) (H := H) ((List.range (b - a).toNat).map fun (i : Nat) => a + (i : Int))
  unfold rangeD rgV
  rw [List.map_map, List.map_map] at this
  exact this
section
variable {J : Hid} {X : Cx} {a b : Expr} {ta tb : TED} {p p2 pos pos2 : Pos} {e : Expr} {te : L2.St → Hp → (Int → Int → Hp → Prop) → Prop}
theorem pe_tupRgF {p pos : Pos} (hc : X.calm = true) (hg : Gl X "tuple") (hm : X.mg "tuple" = none) (he : PRg X e te) (na : starEach [e] X.env = (false, eval e X.env) :: starEach [] X.env := by rfl) :
    PE X (.Call (.Name "tuple" p) [e] [] pos) (fun σ H Q => te σ H fun a b H1 => RgOk a b ∧ TupNew H1 (rgV a b) Q) := by
  refine ⟨fun pins s σ H Q I h => ?_⟩
  refine Call_ (ld_blt I hg hm boot_tuple (PyProof.Rows.callWith_type1 (args_cons (thn (he pins s σ H _ I h) fun x s1 ⟨r, a, b, t, u, v, H1, ex, hr, I1, ok, q⟩ => args_nil ?_) na) na))
  subst ex
  obtain ⟨b1, b2, b3, b4, b5⟩ := ok
  refine call_tuple_range (n := (b - a).toNat) (I1.ok.hd hc) hr (small_one b1 b2 b3 b4) (rangeSize_nat a b) b5 fun h' tk acc hk hi => ?_
  have I2 : Inv X pins σ H1 { s1 with heap := h', toks := tk } := I1.kept hk
  refine tup_laid (us := acc.toList) (n := 0) I2 (fun c o e => Heap.get?_push_of_some _ e) (Nat.le_refl _) (Heap.get?_push_size _ rfl) rfl rfl (by simp) (vals_rg hi) (by rw [rgV_length, sizeLine_eq]; omega) q
theorem ed_listRg1 (m : NoG X.mg) (hc : X.calm = true) (ha : PED J X a ta) (hg : Gl X "list" := by rfl) (hg2 : Gl X "range" := by rfl) (na : starEach [a] X.env = (false, eval a X.env) :: starEach [] X.env := by rfl)
    (nb : starEach [.Call (.Name "range" p2) [a] [] pos2] X.env = (false, eval (.Call (.Name "range" p2) [a] [] pos2) X.env) :: starEach [] X.env := by rfl) : PED J X (.Call (.Name "list" p) [.Call (.Name "range" p2) [a] [] pos2] [] pos) (tListRg1D ta) := by
  refine PE.imp (pe_listRg hc hg m.list (prg_1 hg2 m.range ha na) nb) fun σ H Q h => ?_
  obtain ⟨ρ, st, R, re, S, h, q⟩ := h
  refine ⟨ρ, st, _, re, S, h, fun x s1 v H1 hx e1 S1 rx => ?_⟩
  cases x <;> try exact (show False from hx).elim
  unfold Rep at rx
  subst rx
  rename_i n
  refine ⟨n, rfl, RgOk.of_le (by omega) hx.1.2 (by omega) hx.1.1, fun r hr => ?_⟩
  have z := reps_rg (K := X.K) (H := H1) 0 n
  have e : (n - 0).toNat = n.toNat := by omega
  rw [e] at z
  exact q _ _ _ _ (hx.2 r (S1.fresh hr)) (e1.trans (Ext.new hr)) (S1.newL hr z) rep_ref
theorem ed_tupleRg1 (m : NoG X.mg) (hc : X.calm = true) (ha : PED J X a ta) (hg : Gl X "tuple" := by rfl) (hg2 : Gl X "range" := by rfl) (na : starEach [a] X.env = (false, eval a X.env) :: starEach [] X.env := by rfl)
    (nb : starEach [.Call (.Name "range" p2) [a] [] pos2] X.env = (false, eval (.Call (.Name "range" p2) [a] [] pos2) X.env) :: starEach [] X.env := by rfl) : PED J X (.Call (.Name "tuple" p) [.Call (.Name "range" p2) [a] [] pos2] [] pos) (tTupleRg1D ta) := by
  refine PE.imp (pe_tupRgF hc hg m.tuple (prg_1 hg2 m.range ha na) nb) fun σ H Q h => ?_
  obtain ⟨ρ, st, R, re, S, h, q⟩ := h
  refine ⟨ρ, st, _, re, S, h, fun x s1 v H1 hx e1 S1 rx => ?_⟩
  cases x <;> try exact (show False from hx).elim
  unfold Rep at rx
  subst rx
  rename_i n
  have z := reps_rg (K := X.K) (H := H1) 0 n
  have e : (n - 0).toNat = n.toNat := by omega
  rw [e] at z
  exact ⟨n, rfl, RgOk.of_le (by omega) hx.1.2 (by omega) hx.1.1, tupNew_of S1 z hx.2 (q.ext e1)⟩
end
@[simp ↓] theorem x_listRg1 {ρ : Rho} {st : Stor} {R : KD} (ta : TED) : tListRg1D ta ρ st R = ta ρ st fun x s1 => (match x with
  | .int n => (0 ≤ n ∧ n ≤ 16777216) ∧ ∀ p, s1 p = none → R (.ref p) (put s1 p (.lst (rangeD 0 n.toNat)))
  | _ => False) := rfl
@[simp ↓] theorem x_tupleRg1 {ρ : Rho} {st : Stor} {R : KD} (ta : TED) : tTupleRg1D ta ρ st R = ta ρ st fun x s1 => (match x with
  | .int n => (0 ≤ n ∧ n ≤ 16777216) ∧ R (.tup (rangeD 0 n.toNat)) s1
  | _ => False) := rfl
/-- a def that nobody calls -/
theorem defD_none {P : Program} {w : World} {K : PySem.W.Frag} {mg : Str → Option Value} {base : Heap} {J : Hid} {x : Str} {st : Stmt} {ps : List Str} {k : Nat} {sp : SpD} {h : Heap} (KX : K.In h) (G : h.Ns mainGlobals mg) (F : FnAt K x st)
    (hb : ∀ (kV doc pm : Value) (an : Option Addr) (cdv ct : Value) (us : List Value), us.length = ps.length → bindArgs (PySem.W.fnOf x x (defArgs st) (defBody st) (defScope st) .none kV doc pm an cdv ct) ⟨us, []⟩ = pure (ps.zip us))
    (hn : ∀ ds s R, ¬ sp ds s R) : DefD P w K mg base J x k ps sp := by
  obtain ⟨f, oc, od, kV, doc, pm, an, cdv, ct, osl, a, l, c, kp⟩ := F.ex
  have F1 := fun_mk (st := st) l c kp
  exact ⟨f, _, ⟨fun vs H Q E ⟨ds, s, R, _, _, h, _⟩ => (hn _ _ _ h).elim, fun A outer s H args us vs Q E hr he hb hv ⟨ds, s2, R, _, _, h, _⟩ => (hn _ _ _ h).elim⟩, PySem.W.mg_of KX G a, kp, F1.binds hb⟩
end DL
-- text DSR
set_option Elab.async false
set_option linter.all false
set_option maxRecDepth 100000
set_option maxHeartbeats 2000000
set_option exponentiation.threshold 10000
/-! DSR: rights and books as data; two things told alike by a def that calls itself -/
namespace DR
open PySem PySem.Spec PyProof.Rows L2 DL DQ
structure Rt where
  h : Str
  may : Bool
  f : Str
  t : Str
  a : Int
def kdS (b : Bool) : Str := if b then Str.ofString "may" else Str.ofString "must"
def rtD (r : Rt) : D := .tup [.str r.h, .str (kdS r.may), .str r.f, .str r.t, .int r.a]
def rsD (rs : List Rt) : D := .tup (rs.map rtD)
def bkD (u : Int) (rs : List Rt) : D := .tup [.int u, rsD rs]
def stD (ss : List Str) : D := .tup (ss.map .str)
def inD (is : List Int) : D := .tup (is.map .int)
@[simp] theorem kd_may {b : Bool} : kdS b = Str.ofString "may" ↔ b = true := by
  cases b with
  | true => simp [kdS]
  | false => simp [kdS]; decide +kernel
@[simp] theorem kd_must {b : Bool} : kdS b = Str.ofString "must" ↔ b = false := by
  cases b with
  | true => simp [kdS]; decide +kernel
  | false => simp [kdS]
structure RtOk (ps : List Str) (r : Rt) : Prop where
  f : r.f ∈ ps
  t : r.t ∈ ps
  a0 : 1 ≤ r.a
  a1 : r.a ≤ 1000000000
structure BkOk (ps : List Str) (u : Int) (rs : List Rt) : Prop where
  u0 : 1 ≤ u
  u1 : u ≤ 1000000
  l : rs.length ≤ 60
  r : ∀ r ∈ rs, RtOk ps r
structure PlOk (ps : List Str) : Prop where
  n : ps.Nodup
  l : ps.length ≤ 9
section
variable {st : Stor} {R : KD} {r : Rt} {u : Int} {rs : List Rt}
@[simp ↓] theorem x_rt0 : dIx (rtD r) (.int 0) st R = R (.str r.h) st := z_ix0
@[simp ↓] theorem x_rt1 : dIx (rtD r) (.int 1) st R = R (.str (kdS r.may)) st := z_ix1
@[simp ↓] theorem x_rt2 : dIx (rtD r) (.int 2) st R = R (.str r.f) st := z_ix2
@[simp ↓] theorem x_rt3 : dIx (rtD r) (.int 3) st R = R (.str r.t) st := z_ix3
@[simp ↓] theorem x_rt4 : dIx (rtD r) (.int 4) st R = R (.int r.a) st := z_ix4
@[simp ↓] theorem x_bk0 : dIx (bkD u rs) (.int 0) st R = R (.int u) st := z_ix0
@[simp ↓] theorem x_bk1 : dIx (bkD u rs) (.int 1) st R = R (rsD rs) st := z_ix1
@[simp ↓] theorem x_bkT {t : TGsD} {ρ : Rho} {RE : Rho → Stor → Prop} : gTupD 2 t (bkD u rs) ρ st RE = t [.int u, rsD rs] ρ st RE := propext ⟨fun h => h.2, fun h => ⟨rfl, h⟩⟩
@[simp ↓] theorem x_rtT {t : TGsD} {ρ : Rho} {RE : Rho → Stor → Prop} : gTupD 5 t (rtD r) ρ st RE = t [.str r.h, .str (kdS r.may), .str r.f, .str r.t, .int r.a] ρ st RE := propext ⟨fun h => h.2, fun h => ⟨rfl, h⟩⟩
@[simp ↓] theorem x_rsS {RI : List D → (Stor → Prop) → Stor → Prop} : seqD (rsD rs) st RI = RI (rs.map rtD) (fun _ => True) st := rfl
@[simp ↓] theorem x_rsE {RI : List (List D) → (Stor → Prop) → Stor → Prop} : enuD (rsD rs) st RI = RI (enumD 0 (rs.map rtD)) (fun _ => True) st := rfl
@[simp ↓] theorem x_rsL : dLen [rsD rs] st R = R (.int (rs.length : Nat)) st := by unfold rsD; rw [y_lenT, List.length_map]
@[simp ↓] theorem x_stS {ss : List Str} {RI : List D → (Stor → Prop) → Stor → Prop} : seqD (stD ss) st RI = RI (ss.map .str) (fun _ => True) st := rfl
@[simp ↓] theorem x_stL {ss : List Str} : dLen [stD ss] st R = R (.int (ss.length : Nat)) st := by unfold stD; rw [y_lenT, List.length_map]
@[simp ↓] theorem x_inS {is : List Int} {RI : List D → (Stor → Prop) → Stor → Prop} : seqD (inD is) st RI = RI (is.map .int) (fun _ => True) st := rfl
@[simp ↓] theorem x_inL {is : List Int} : dLen [inD is] st R = R (.int (is.length : Nat)) st := by unfold inD; rw [y_lenT, List.length_map]
@[simp ↓] theorem x_q0 {q : Rat} : dIx (qD q) (.int 0) st R = R (.int q.num) st := z_ix0
@[simp ↓] theorem x_q1 {q : Rat} : dIx (qD q) (.int 1) st R = R (.int (q.den : Int)) st := z_ix1
end
theorem pure_strs (ss : List Str) : pureDs (ss.map D.str) = true := by
  rw [pureDs_all, List.all_eq_true]; intro x hx; obtain ⟨i, _, rfl⟩ := List.mem_map.mp hx; rfl
theorem any_str (x : Str) : ∀ ss : List Str, ((ss.map D.str).any fun z => deq z (.str x)) = decide (x ∈ ss)
  | [] => by simp
  | s :: ss => by
    rw [List.map_cons, List.any_cons, any_str x ss]
    by_cases h : s = x
    · subst h; simp
    · simp [h, Ne.symm h]
theorem any_int (x : Int) : ∀ ss : List Int, ((ss.map D.int).any fun z => deq z (.int x)) = decide (x ∈ ss)
  | [] => by simp
  | s :: ss => by
    rw [List.map_cons, List.any_cons, any_int x ss]
    by_cases h : s = x
    · subst h; simp
    · simp [h, Ne.symm h]
section
variable {st : Stor} {R : KD} {n : Bool}
@[simp ↓] theorem x_inSt {x : Str} {ss : List Str} : dInB n (.str x) (stD ss) st R = R (.bl (n ^^ decide (x ∈ ss))) st := by
  unfold stD; rw [y_inT, any_str]; simp [pure_strs]
@[simp ↓] theorem x_inIn {x : Int} {ss : List Int} : dInB n (.int x) (inD ss) st R = R (.bl (n ^^ decide (x ∈ ss))) st := by
  unfold inD; rw [y_inT, any_int]; simp
theorem z_inStL {p : Addr} {x : Str} {ss : List Str} (g : getL st p = some (ss.map .str)) : dInB n (.str x) (.ref p) st R = R (.bl (n ^^ decide (x ∈ ss))) st := by
  rw [z_in g, any_str]; simp [pure_strs]
theorem find_str {names : List Str} {a : Nat} {s : Str} (hn : names.Nodup) (h : names[a]? = some s) : ((names.map D.str).findIdx? fun y => deq y (.str s)) = some a := by
  obtain ⟨hl, e⟩ := List.getElem?_eq_some_iff.mp h
  rw [List.findIdx?_eq_some_iff_getElem]
  refine ⟨by simpa using hl, by simp [e], fun j hj => ?_⟩
  have hjl : j < names.length := by omega
  simp
  intro e2
  have pw := List.pairwise_iff_getElem.mp hn
  exact absurd (e2.trans e.symm) (pw j a hjl hl hj)
theorem z_stIndex {to : TED} {ta : TAD} {ρ : Rho} {ss : List Str} {a : Nat} {s : Str} (hn : ss.Nodup) (h : ss[a]? = some s) (ho : ∀ R', to ρ st R' = R' (stD ss) st) (ha : ∀ R', ta ρ st R' = R' [.str s] st) (hr : R (.int (a : Nat)) st) : tIndexD to ta ρ st R := by
  refine z_tindex ?_
  rw [ho]
  show ta ρ st _
  rw [ha]
  exact ⟨a, .str, pure_strs ss, find_str hn h, hr⟩
end
/-! ### dicts over places, lists over places -/
def plK (ps : List Str) (F : Str → D) : List (Key × D) := ps.map fun p => (Sum.inr p, F p)
theorem plK_val {ps : List Str} {F : Str → D} {q : Str} (h : q ∈ ps) : valD (plK ps F) (.inr q) = some (F q) := by
  unfold plK
  induction ps with
  | nil => cases h
  | cons p ps ih =>
    rw [List.map_cons, valD_cons]
    by_cases e : p = q
    · subst e; simp
    · rw [if_neg (by intro z; exact e (Sum.inr.inj z))]
      exact ih (by rcases List.mem_cons.mp h with h | h; exact absurd h.symm e; exact h)
theorem plK_none {ps : List Str} {F : Str → D} {q : Str} (h : q ∉ ps) : valD (plK ps F) (.inr q) = none := by
  unfold plK
  induction ps with
  | nil => rfl
  | cons p ps ih =>
    rw [List.map_cons, valD_cons, if_neg (by intro z; exact h (by rw [Sum.inr.inj z]; exact List.mem_cons_self))]
    exact ih fun z => h (List.mem_cons_of_mem _ z)
theorem plK_put {ps : List Str} {F : Str → D} {q : Str} {v : D} (h : q ∈ ps) : putD (plK ps F) (.inr q) v = plK ps fun p => if p = q then v else F p := by
  unfold putD
  rw [any_valD, plK_val h]
  simp only [Option.isSome_some, if_true]
  unfold plK
  rw [List.map_map]
  refine List.map_congr_left fun p _ => ?_
  simp only [Function.comp]
  by_cases e : p = q
  · subst e; simp
  · rw [if_neg (by intro z; exact e (Sum.inr.inj z)), if_neg e]
theorem plK_new {ps : List Str} {F : Str → D} {q : Str} (h : q ∉ ps) : putD (plK ps F) (.inr q) (F q) = plK (ps ++ [q]) F := by
  rw [putD_new (plK_none h)]; simp [plK]
theorem plK_len {ps : List Str} {F : Str → D} : (plK ps F).length = ps.length := by simp [plK]
theorem take_new {ps : List Str} (hn : ps.Nodup) {i : Nat} {p : Str} (h : ps[i]? = some p) : p ∉ ps.take i := by
  obtain ⟨hl, e⟩ := List.getElem?_eq_some_iff.mp h
  intro hm
  obtain ⟨j, hj⟩ := List.mem_iff_getElem?.mp hm
  have hji : j < i := by
    have := (List.getElem?_eq_some_iff.mp hj).1
    simp at this; omega
  rw [List.getElem?_take_of_lt hji] at hj
  obtain ⟨hl2, e2⟩ := List.getElem?_eq_some_iff.mp hj
  exact absurd (e2.trans e.symm) (List.pairwise_iff_getElem.mp hn j i hl2 hl hji)
theorem take_snoc {α : Type} {ps : List α} {i : Nat} {p : α} (h : ps[i]? = some p) : ps.take (i + 1) = ps.take i ++ [p] := by rw [List.take_add_one, h]; rfl
theorem set_pl {ps : List Str} (hn : ps.Nodup) {F : Str → D} {i : Nat} {q : Str} {v : D} (h : ps[i]? = some q) : (ps.map F).set i v = ps.map fun p => if p = q then v else F p := by
  obtain ⟨hl, e⟩ := List.getElem?_eq_some_iff.mp h
  refine List.ext_getElem (by simp) fun k h1 h2 => ?_
  simp only [List.getElem_set, List.getElem_map]
  have hk : k < ps.length := by simpa using h2
  by_cases ek : i = k
  · subst ek; simp [e]
  · rw [if_neg ek, if_neg]
    intro z
    have pw := List.pairwise_iff_getElem.mp hn
    rcases Nat.lt_or_gt_of_ne ek with q1 | q1
    · exact pw i k hl hk q1 (e.trans z.symm)
    · exact pw k i hk hl q1 (z.trans e.symm)
/-! ### told alike, by a def that calls itself -/
def sameOk (s : Bool) : Nat → D → Prop
  | n + 1, .tup xs => xs.length ≤ 1000 ∧ ∀ x ∈ xs, sameOk s n x
  | _ + 1, .int _ => True
  | _ + 1, .str _ => s = true
  | _, _ => False
def spSameR (s : Bool) (n : Nat) : SpD := sp2 fun x y st R => x = y ∧ sameOk s n y ∧ R (.bl true) st
theorem sameOk_0 {s : Bool} {d : D} : ¬ sameOk s 0 d := by intro h; cases d <;> exact h
theorem hs0_sameR {s : Bool} : ∀ ds st R, ¬ spSameR s 0 ds st R
  | [], _, _, h => h
  | [_], _, _, h => h
  | [_, _], _, _, h => sameOk_0 h.2.1
  | _ :: _ :: _ :: _, _, _, h => h
theorem sameOk.mono {s : Bool} : ∀ {n m : Nat} {d : D}, n ≤ m → sameOk s n d → sameOk s m d
  | 0, _, d, _, h => absurd h sameOk_0
  | n + 1, 0, d, h, _ => by omega
  | n + 1, m + 1, .tup xs, h, k => ⟨k.1, fun x hx => sameOk.mono (by omega) (k.2 x hx)⟩
  | n + 1, m + 1, .int _, _, _ => trivial
  | n + 1, m + 1, .str _, _, k => k
  | n + 1, m + 1, .non, _, k => k
  | n + 1, m + 1, .bl _, _, k => k
  | n + 1, m + 1, .ref _, _, k => k
  | n + 1, m + 1, .ro _, _, k => k
theorem same_q {s : Bool} {n : Nat} (q : Rat) : sameOk s (n + 2) (qD q) := ⟨(by show 2 ≤ 1000; decide), fun x hx => by
  rcases List.mem_cons.mp hx with rfl | hx
  · trivial
  · rcases List.mem_cons.mp hx with rfl | hx
    · trivial
    · cases hx⟩
theorem same_tup {s : Bool} {n : Nat} {α : Type} {f : α → D} {xs : List α} (hl : xs.length ≤ 1000) (h : ∀ x ∈ xs, sameOk s n (f x)) : sameOk s (n + 1) (.tup (xs.map f)) := ⟨by simpa using hl, fun x hx => by
  obtain ⟨y, hy, rfl⟩ := List.mem_map.mp hx
  exact h y hy⟩
theorem same_qs {s : Bool} {n : Nat} {qs : List Rat} (hl : qs.length ≤ 1000) : sameOk s (n + 3) (.tup (qs.map qD)) := same_tup hl fun q _ => same_q q
theorem same_is {s : Bool} {n : Nat} {is : List Int} (hl : is.length ≤ 1000) : sameOk s (n + 2) (inD is) := same_tup hl fun q _ => trivial
end DR
-- text DGM
set_option Elab.async false
set_option linter.all false
set_option maxRecDepth 100000
set_option maxHeartbeats 2000000
/-! DGM: what hangs together: edges, labels, masks (no program) -/
namespace DG
abbrev Edges := List (Nat × Nat)
def Adj (E : Edges) (x y : Nat) : Prop := (x, y) ∈ E ∨ (y, x) ∈ E
theorem Adj.symm {E : Edges} {x y : Nat} (h : Adj E x y) : Adj E y x := h.elim .inr .inl
inductive Conn (E : Edges) : Nat → Nat → Prop
  | refl (x : Nat) : Conn E x x
  | step {x y z : Nat} : Conn E x y → Adj E y z → Conn E x z
theorem Conn.trans {E : Edges} {x y z : Nat} (h : Conn E x y) (k : Conn E y z) : Conn E x z := by
  induction k with
  | refl => exact h
  | step _ a ih => exact .step ih a
theorem Conn.one {E : Edges} {x y : Nat} (h : Adj E x y) : Conn E x y := .step (.refl x) h
theorem Conn.symm {E : Edges} {x y : Nat} (h : Conn E x y) : Conn E y x := by
  induction h with
  | refl => exact .refl _
  | step _ a ih => exact (Conn.one a.symm).trans ih
theorem Conn.mono {E F : Edges} (hs : ∀ x y, Adj E x y → Adj F x y) {x y : Nat} (h : Conn E x y) : Conn F x y := by
  induction h with
  | refl => exact .refl _
  | step _ a ih => exact .step ih (hs _ _ a)
theorem adj_snoc {E : Edges} {a b x y : Nat} : Adj (E ++ [(a, b)]) x y ↔ Adj E x y ∨ (x = a ∧ y = b) ∨ (x = b ∧ y = a) := by
  unfold Adj
  simp only [List.mem_append, List.mem_singleton, Prod.mk.injEq]
  constructor
  · rintro ((h | h) | (h | h))
    · exact .inl (.inl h)
    · exact .inr (.inl h)
    · exact .inl (.inr h)
    · exact .inr (.inr ⟨h.2, h.1⟩)
  · rintro ((h | h) | (h | h))
    · exact .inl (.inl h)
    · exact .inr (.inl h)
    · exact .inl (.inr h)
    · exact .inr (.inr ⟨h.2, h.1⟩)
theorem conn_snoc {E : Edges} {a b x y : Nat} : Conn (E ++ [(a, b)]) x y ↔ Conn E x y ∨ (Conn E x a ∧ Conn E b y) ∨ (Conn E x b ∧ Conn E a y) := by
  constructor
  · intro h
    induction h with
    | refl => exact .inl (.refl _)
    | step _ ad ih =>
      rcases adj_snoc.mp ad with q | ⟨rfl, rfl⟩ | ⟨rfl, rfl⟩
      · rcases ih with ih | ih | ih
        · exact .inl (.step ih q)
        · exact .inr (.inl ⟨ih.1, .step ih.2 q⟩)
        · exact .inr (.inr ⟨ih.1, .step ih.2 q⟩)
      · rcases ih with ih | ih | ih
        · exact .inr (.inl ⟨ih, .refl _⟩)
        · exact .inr (.inl ⟨ih.1, .refl _⟩)
        · exact .inl ih.1
      · rcases ih with ih | ih | ih
        · exact .inr (.inr ⟨ih, .refl _⟩)
        · exact .inl ih.1
        · exact .inr (.inr ⟨ih.1, .refl _⟩)
  · have up : ∀ {u v}, Conn E u v → Conn (E ++ [(a, b)]) u v := fun h => h.mono fun _ _ q => adj_snoc.mpr (.inl q)
    rintro (h | h | h)
    · exact up h
    · exact (up h.1).trans ((Conn.one (adj_snoc.mpr (.inr (.inl ⟨rfl, rfl⟩)))).trans (up h.2))
    · exact (up h.1).trans ((Conn.one (adj_snoc.mpr (.inr (.inr ⟨rfl, rfl⟩)))).trans (up h.2))
/-- labels that tell what hangs together -/
def Labels (n : Nat) (gs : List Int) (E : Edges) : Prop := gs.length = n ∧ ∀ x y, x < n → y < n → (gs[x]? = gs[y]? ↔ Conn E x y)
theorem labels_start (n : Nat) : Labels n ((List.range n).map fun (i : Nat) => (i : Int)) [] := by
  refine ⟨by simp, fun x y hx hy => ?_⟩
  rw [List.getElem?_map, List.getElem?_map, List.getElem?_range hx, List.getElem?_range hy]
  simp only [Option.map_some, Option.some.injEq, Int.ofNat_inj]
  constructor
  · rintro rfl; exact .refl _
  · intro h
    cases h with
    | refl => rfl
    | step _ a => rcases a with a | a <;> cases a
theorem labels_keep {n : Nat} {gs : List Int} {E : Edges} {a b : Nat} (h : Labels n gs E) (ha : a < n) (hb : b < n) (e : gs[a]? = gs[b]?) : Labels n gs (E ++ [(a, b)]) := by
  refine ⟨h.1, fun x y hx hy => ?_⟩
  rw [h.2 x y hx hy, conn_snoc]
  have hab := (h.2 a b ha hb).mp e
  constructor
  · exact .inl
  · rintro (q | q | q)
    · exact q
    · exact q.1.trans (hab.trans q.2)
    · exact q.1.trans (hab.symm.trans q.2)
theorem labels_join {n : Nat} {gs hs : List Int} {E : Edges} {a b : Nat} {u v : Int} (h : Labels n gs E) (ha : a < n) (hb : b < n) (ea : gs[a]? = some u) (eb : gs[b]? = some v) (hl : hs.length = n)
    (hh : ∀ (x : Nat) (w : Int), gs[x]? = some w → hs[x]? = some (if w = v then u else w)) : Labels n hs (E ++ [(a, b)]) := by
  refine ⟨hl, fun x y hx hy => ?_⟩
  obtain ⟨wx, ex⟩ : ∃ w, gs[x]? = some w := ⟨gs[x]'(by rw [h.1]; exact hx), List.getElem?_eq_getElem _⟩
  obtain ⟨wy, ey⟩ : ∃ w, gs[y]? = some w := ⟨gs[y]'(by rw [h.1]; exact hy), List.getElem?_eq_getElem _⟩
  rw [hh x wx ex, hh y wy ey, conn_snoc, ← h.2 x y hx hy, ← h.2 x a hx ha, ← h.2 b y hb hy, ← h.2 x b hx hb, ← h.2 a y ha hy, ex, ey, ea, eb]
  simp only [Option.some.injEq]
  by_cases h1 : wx = v
  · by_cases h2 : wy = v
    · simp [h1, h2]
    · rw [if_pos h1, if_neg h2]
      constructor
      · intro e; exact .inr (.inr ⟨h1, e⟩)
      · rintro (e | ⟨e, f⟩ | ⟨e, f⟩)
        · exact absurd (e.symm.trans h1) h2
        · exact absurd f.symm h2
        · exact f
  · by_cases h2 : wy = v
    · rw [if_neg h1, if_pos h2]
      constructor
      · intro e; exact .inr (.inl ⟨e, h2.symm⟩)
      · rintro (e | ⟨e, f⟩ | ⟨e, f⟩)
        · exact absurd (e.trans h2) h1
        · exact e
        · exact absurd e h1
    · rw [if_neg h1, if_neg h2]
      constructor
      · exact .inl
      · rintro (e | ⟨e, f⟩ | ⟨e, f⟩)
        · exact e
        · exact absurd f.symm h2
        · exact absurd e h1
/-- put together place by place -/
def Build (n : Nat) (E : Edges) : Prop := ∃ ord : List Nat, ord.Perm (List.range n) ∧ ∀ k x, 1 ≤ k → ord[k]? = some x → ∃ j y, j < k ∧ ord[j]? = some y ∧ Adj E x y
theorem Build.mono {n : Nat} {E F : Edges} (h : Build n E) (hs : ∀ x y, Adj E x y → Adj F x y) : Build n F := by
  obtain ⟨ord, p, q⟩ := h
  exact ⟨ord, p, fun k x hk e => let ⟨j, y, a, b, c⟩ := q k x hk e; ⟨j, y, a, b, hs _ _ c⟩⟩
/-! ### sides as masks -/
def within (E : Edges) (m : Nat) : Edges := E.filter fun e => m.testBit e.1 && m.testBit e.2
theorem adj_within {E : Edges} {m x y : Nat} : Adj (within E m) x y ↔ Adj E x y ∧ m.testBit x = true ∧ m.testBit y = true := by
  unfold Adj within
  simp only [List.mem_filter, Bool.and_eq_true]
  constructor
  · rintro (h | h)
    · exact ⟨.inl h.1, h.2.1, h.2.2⟩
    · exact ⟨.inr h.1, h.2.2, h.2.1⟩
  · rintro ⟨h | h, a, b⟩
    · exact .inl ⟨h, a, b⟩
    · exact .inr ⟨h, b, a⟩
/-- the places of a mask hang together by links between them -/
def Hangs (E : Edges) (n m : Nat) : Prop := ∀ x y, x < n → y < n → m.testBit x = true → m.testBit y = true → Conn (within E m) x y
def other (n m : Nat) : Nat := 2 ^ n - 1 - m
theorem other_bit {n m x : Nat} (hm : m < 2 ^ n) (hx : x < n) : (other n m).testBit x = !m.testBit x := by
  unfold other
  have : 2 ^ n - 1 - m = 2 ^ n - (m + 1) := by omega
  rw [this, Nat.testBit_two_pow_sub_succ hm]
  simp [hx]
noncomputable def bond (E : Edges) (n m : Nat) : Bool := @decide (Hangs E n m ∧ Hangs E n (other n m)) (Classical.propDecidable _)
theorem bond_iff {E : Edges} {n m : Nat} : bond E n m = true ↔ Hangs E n m ∧ Hangs E n (other n m) := by
  unfold bond; exact @decide_eq_true_iff _ (Classical.propDecidable _)
theorem bond_not {E : Edges} {n m : Nat} : bond E n m = false ↔ ¬ (Hangs E n m ∧ Hangs E n (other n m)) := by
  rw [← bond_iff]; simp
/-- ends on one side -/
def alike (E : Edges) (m : Nat) : Edges := E.filter fun e => m.testBit e.1 == m.testBit e.2
theorem adj_alike {E : Edges} {m x y : Nat} : Adj (alike E m) x y ↔ Adj E x y ∧ m.testBit x = m.testBit y := by
  unfold Adj alike
  simp only [List.mem_filter, beq_iff_eq]
  constructor
  · rintro (h | h)
    · exact ⟨.inl h.1, h.2⟩
    · exact ⟨.inr h.1, h.2.symm⟩
  · rintro ⟨h | h, a⟩
    · exact .inl ⟨h, a⟩
    · exact .inr ⟨h, a.symm⟩
theorem conn_alike {E : Edges} {m x y : Nat} (h : Conn (alike E m) x y) : m.testBit x = m.testBit y ∧ (m.testBit x = true → Conn (within E m) x y) := by
  induction h with
  | refl => exact ⟨rfl, fun _ => .refl _⟩
  | step _ a ih =>
    have a' := adj_alike.mp a
    exact ⟨ih.1.trans a'.2, fun hx => .step (ih.2 hx) (adj_within.mpr ⟨a'.1, ih.1 ▸ hx, a'.2 ▸ ih.1 ▸ hx⟩)⟩
theorem conn_within {E : Edges} {m x y : Nat} (h : Conn (within E m) x y) : Conn (alike E m) x y := h.mono fun x y q => by
  have q' := adj_within.mp q
  exact adj_alike.mpr ⟨q'.1, q'.2.1.trans q'.2.2.symm⟩
theorem conn_bound {E : Edges} {n x y : Nat} (hE : ∀ e ∈ E, e.1 < n ∧ e.2 < n) (h : Conn E x y) (hx : x < n) : y < n := by
  cases h with
  | refl => exact hx
  | step _ a =>
    rcases a with a | a
    · exact (hE _ a).2
    · exact (hE _ a).1
theorem alike_other {E : Edges} {n m : Nat} (hE : ∀ e ∈ E, e.1 < n ∧ e.2 < n) (hm : m < 2 ^ n) : alike E (other n m) = alike E m := by
  unfold alike
  refine List.filter_congr fun e he => ?_
  rw [other_bit hm (hE e he).1, other_bit hm (hE e he).2]
  cases m.testBit e.1 <;> cases m.testBit e.2 <;> rfl
/-- by labels of the ends on one side -/
theorem hangs_labels {E : Edges} {n m : Nat} {gs : List Int} (h : Labels n gs (alike E m)) : Hangs E n m ↔ ∀ x y, x < n → y < n → m.testBit x = true → m.testBit y = true → gs[x]? = gs[y]? := by
  unfold Hangs
  constructor
  · intro q x y hx hy bx by_
    exact (h.2 x y hx hy).mpr (conn_within (q x y hx hy bx by_))
  · intro q x y hx hy bx by_
    exact (conn_alike ((h.2 x y hx hy).mp (q x y hx hy bx by_))).2 bx
/-- a bond there is -/
theorem bond_ex {E : Edges} {n : Nat} (h : Build n E) (hn : 2 ≤ n) : ∃ m, 1 ≤ m ∧ m + 1 < 2 ^ n ∧ bond E n m = true := by
  obtain ⟨ord, hp, hb⟩ := h
  have ol : ord.length = n := by rw [hp.length_eq]; simp
  have hlt : ∀ (k : Nat) (x : Nat), ord[k]? = some x → x < n := fun k x e => List.mem_range.mp (hp.mem_iff.mp (List.mem_of_getElem? e))
  have hnd : ord.Nodup := hp.nodup_iff.mpr List.nodup_range
  obtain ⟨z, ez⟩ : ∃ z, ord[n - 1]? = some z := ⟨ord[n - 1]'(by omega), List.getElem?_eq_getElem _⟩
  have zn := hlt _ _ ez
  have p2 : 2 ^ z < 2 ^ n := Nat.pow_lt_pow_right (by decide) zn
  have bz : ∀ x, (2 ^ z).testBit x = decide (z = x) := fun x => Nat.testBit_two_pow ..
  have bo : ∀ x, x < n → (other n (2 ^ z)).testBit x = !decide (z = x) := fun x hx => by rw [other_bit p2 hx, bz]
  have four : 4 ≤ 2 ^ n := by
    have : 2 ^ 2 ≤ 2 ^ n := Nat.pow_le_pow_right (by decide) hn
    omega
  have z2 : 2 ^ z + 1 < 2 ^ n := by
    by_cases e : z = 0
    · subst e; omega
    · have : 2 ^ (z + 1) ≤ 2 ^ n := Nat.pow_le_pow_right (by decide) (by omega)
      have : 2 ^ 1 ≤ 2 ^ z := Nat.pow_le_pow_right (by decide) (by omega)
      have : 2 ^ (z + 1) = 2 ^ z * 2 := Nat.pow_succ ..
      omega
  have p1 : 1 ≤ 2 ^ z := Nat.one_le_two_pow
  refine ⟨2 ^ z, p1, z2, ?_⟩
  refine bond_iff.mpr ⟨fun x y hx hy bx by_ => ?_, fun x y hx hy bx by_ => ?_⟩
  · rw [bz] at bx by_
    have := of_decide_eq_true bx
    have := of_decide_eq_true by_
    subst_vars
    exact .refl _
  · have root : ∀ k x, ord[k]? = some x → k < n - 1 → ∃ r, ord[0]? = some r ∧ Conn (within E (other n (2 ^ z))) r x := by
      intro k
      induction k using Nat.strongRecOn with
      | _ k ih =>
        intro x ex hk
        by_cases k0 : k = 0
        · subst k0; exact ⟨x, ex, .refl _⟩
        · obtain ⟨j, y, hj, ey, ad⟩ := hb k x (by omega) ex
          obtain ⟨r, er, cr⟩ := ih j hj y ey (by omega)
          have nz : ∀ (i : Nat) (w : Nat), ord[i]? = some w → i < n - 1 → z ≠ w := fun i w ew hi e => by
            subst e
            obtain ⟨l1, e1⟩ := List.getElem?_eq_some_iff.mp ew
            obtain ⟨l2, e2⟩ := List.getElem?_eq_some_iff.mp ez
            exact List.pairwise_iff_getElem.mp hnd i (n - 1) l1 l2 hi (e1.trans e2.symm)
          exact ⟨r, er, .step cr (adj_within.mpr ⟨ad.symm, by rw [bo _ (hlt _ _ ey)]; simp [nz j y ey (by omega)], by rw [bo _ (hlt _ _ ex)]; simp [nz k x ex hk]⟩)⟩
    have get : ∀ x, x < n → (other n (2 ^ z)).testBit x = true → ∃ k, ord[k]? = some x ∧ k < n - 1 := fun x hx bx => by
      obtain ⟨k, ek⟩ := List.mem_iff_getElem?.mp (hp.mem_iff.mpr (List.mem_range.mpr hx))
      refine ⟨k, ek, ?_⟩
      have kl := (List.getElem?_eq_some_iff.mp ek).1
      have : k ≠ n - 1 := fun e => by
        subst e
        rw [ez] at ek
        cases ek
        rw [bo _ hx] at bx
        simp at bx
      omega
    obtain ⟨k1, e1, l1⟩ := get x hx bx
    obtain ⟨k2, e2, l2⟩ := get y hy by_
    obtain ⟨r1, er1, c1⟩ := root k1 x e1 l1
    obtain ⟨r2, er2, c2⟩ := root k2 y e2 l2
    rw [er1] at er2
    cases er2
    exact c1.symm.trans c2
/-- two spokes of a star are no bond -/
theorem star_no {E : Edges} {n hub : Nat} (hs : ∀ e ∈ E, e.1 = hub ∨ e.2 = hub) (hn : 4 ≤ n) : ∃ m, 1 ≤ m ∧ m + 1 < 2 ^ n ∧ bond E n m = false := by
  obtain ⟨x, y, hx, hy, hxy, x1, y1⟩ : ∃ x y, x < n ∧ y < n ∧ x < y ∧ x ≠ hub ∧ y ≠ hub := by
    by_cases h0 : hub = 0
    · exact ⟨1, 2, by omega, by omega, by omega, by omega, by omega⟩
    · by_cases h1 : hub = 1
      · exact ⟨0, 2, by omega, by omega, by omega, by omega, by omega⟩
      · exact ⟨0, 1, by omega, by omega, by omega, by omega, by omega⟩
  have bb : ∀ k, (2 ^ x + 2 ^ y).testBit k = (decide (x = k) || decide (y = k)) := fun k => by
    have e : 2 ^ x + 2 ^ y = 2 ^ y ||| 2 ^ x := by
      have h := Nat.two_pow_add_eq_or_of_lt (i := y) (Nat.pow_lt_pow_right (a := 2) (by decide) hxy) 1
      rw [Nat.mul_one] at h
      rw [Nat.add_comm, h]
    rw [e, Nat.testBit_or, Nat.testBit_two_pow, Nat.testBit_two_pow, Bool.or_comm]
  have xl : 2 ^ x * 2 ≤ 2 ^ y := by rw [← Nat.pow_succ]; exact Nat.pow_le_pow_right (by decide) hxy
  have yl : 2 ^ y * 2 ≤ 2 ^ n := by rw [← Nat.pow_succ]; exact Nat.pow_le_pow_right (by decide) hy
  have x1' : 1 ≤ 2 ^ x := Nat.one_le_two_pow
  have y2 : 2 ≤ 2 ^ y := Nat.le_trans (by omega) xl
  refine ⟨2 ^ x + 2 ^ y, by omega, ?_, ?_⟩
  · by_cases e : 2 ^ x * 2 = 2 ^ y
    · have n4 : 2 ^ 4 ≤ 2 ^ n := Nat.pow_le_pow_right (by decide) hn
      by_cases e2 : 2 ^ y * 2 = 2 ^ n
      · have : 2 ^ x ≥ 4 := by omega
        omega
      · have hy' : y + 1 ≠ n := fun q => by rw [← q, Nat.pow_succ] at e2; exact e2 rfl
        have : 2 ^ (y + 2) ≤ 2 ^ n := Nat.pow_le_pow_right (by decide) (by omega)
        rw [Nat.pow_succ, Nat.pow_succ] at this
        omega
    · have hx' : x + 1 ≠ y := fun q => by rw [← q, Nat.pow_succ] at e; exact e rfl
      have : 2 ^ (x + 2) ≤ 2 ^ y := Nat.pow_le_pow_right (by decide) (by omega)
      rw [Nat.pow_succ, Nat.pow_succ] at this
      omega
  · refine bond_not.mpr fun h => ?_
    have c := h.1 x y hx hy (by rw [bb]; simp) (by rw [bb]; simp)
    have none : ∀ u v, ¬ Adj (within E (2 ^ x + 2 ^ y)) u v := fun u v ad => by
      have a := adj_within.mp ad
      rw [bb, bb] at a
      simp at a
      have hh : u = hub ∨ v = hub := by
        rcases a.1 with q | q
        · exact hs _ q
        · exact (hs _ q).symm
      omega
    cases c with
    | refl => omega
    | step _ ad => exact none _ _ ad
end DG
-- text DGT
set_option Elab.async false
set_option linter.all false
set_option maxRecDepth 100000
set_option maxHeartbeats 2000000
/-! DGT: classes of a graph, their number, forests, spanning trees -/
namespace DG
/-- the least place of each -/
def Heads (n : Nat) (E : Edges) (h : Nat → Nat) : Prop := ∀ x, x < n → h x < n ∧ Conn E x (h x) ∧ ∀ y, y < n → Conn E x y → h x ≤ y
theorem Heads.eq {n : Nat} {E : Edges} {h : Nat → Nat} (H : Heads n E h) {x y : Nat} (hx : x < n) (hy : y < n) (c : Conn E x y) : h x = h y := by
  obtain ⟨a1, a2, a3⟩ := H x hx
  obtain ⟨b1, b2, b3⟩ := H y hy
  have l1 := a3 (h y) b1 (c.trans b2)
  have l2 := b3 (h x) a1 (c.symm.trans a2)
  omega
theorem Heads.conn {n : Nat} {E : Edges} {h : Nat → Nat} (H : Heads n E h) {x y : Nat} (hx : x < n) (hy : y < n) (e : h x = h y) : Conn E x y := by
  have a := (H x hx).2.1
  have b := (H y hy).2.1
  rw [e] at a
  exact a.trans b.symm
theorem heads_start (n : Nat) : Heads n [] id := fun x hx => ⟨hx, .refl _, fun y hy c => by
  cases c with
  | refl => exact Nat.le_refl _
  | step _ a => rcases a with a | a <;> cases a⟩
theorem heads_keep {n : Nat} {E : Edges} {h : Nat → Nat} (H : Heads n E h) {a b : Nat} (ha : a < n) (hb : b < n) (e : h a = h b) : Heads n (E ++ [(a, b)]) h := fun x hx => by
  obtain ⟨a1, a2, a3⟩ := H x hx
  have c := H.conn ha hb e
  refine ⟨a1, conn_snoc.mpr (.inl a2), fun y hy k => ?_⟩
  rcases conn_snoc.mp k with k | ⟨k1, k2⟩ | ⟨k1, k2⟩
  · exact a3 y hy k
  · exact a3 y hy (k1.trans (c.trans k2))
  · exact a3 y hy (k1.trans (c.symm.trans k2))
theorem heads_join {n : Nat} {E : Edges} {h : Nat → Nat} (H : Heads n E h) {a b : Nat} (ha : a < n) (hb : b < n) (ne : h a ≠ h b) : Heads n (E ++ [(a, b)]) fun x => if h x = max (h a) (h b) then min (h a) (h b) else h x := fun x hx => by
  obtain ⟨x1, x2, x3⟩ := H x hx
  obtain ⟨a1, a2, a3⟩ := H a ha
  obtain ⟨b1, b2, b3⟩ := H b hb
  by_cases e : h x = max (h a) (h b)
  · simp only [e, if_true]
    refine ⟨by omega, ?_, fun y hy k => ?_⟩
    · by_cases l : h a < h b
      · have c := H.conn hx hb (by omega)
        have em : min (h a) (h b) = h a := by omega
        rw [em]
        exact conn_snoc.mpr (.inr (.inr ⟨c, a2⟩))
      · have c := H.conn hx ha (by omega)
        have em : min (h a) (h b) = h b := by omega
        rw [em]
        exact conn_snoc.mpr (.inr (.inl ⟨c, b2⟩))
    · rcases conn_snoc.mp k with k | ⟨_, k2⟩ | ⟨_, k2⟩
      · have := x3 y hy k; omega
      · have := b3 y hy k2; omega
      · have := a3 y hy k2; omega
  · simp only [e, if_false]
    refine ⟨x1, conn_snoc.mpr (.inl x2), fun y hy k => ?_⟩
    rcases conn_snoc.mp k with k | ⟨k1, k2⟩ | ⟨k1, k2⟩
    · exact x3 y hy k
    · have e1 := H.eq hx ha k1
      have := b3 y hy k2
      omega
    · have e1 := H.eq hx hb k1
      have := a3 y hy k2
      omega
theorem heads_ex (n : Nat) (E : Edges) : ∃ h, Heads n E h := by
  classical
  have key : ∀ x, x < n → ∃ m, m < n ∧ Conn E x m ∧ ∀ y, y < n → Conn E x y → m ≤ y := fun x hx => by
    have : ∀ k, ∀ y, y < n → Conn E x y → y ≤ k → ∃ m, m < n ∧ Conn E x m ∧ ∀ y, y < n → Conn E x y → m ≤ y := fun k => by
      induction k with
      | zero => exact fun y hy c hk => ⟨y, hy, c, fun z _ _ => by omega⟩
      | succ k ih =>
        intro y hy c hk
        by_cases q : ∃ z, z < n ∧ Conn E x z ∧ z < y
        · obtain ⟨z, hz, cz, l⟩ := q
          exact ih z hz cz (by omega)
        · exact ⟨y, hy, c, fun z hz cz => Nat.le_of_not_lt fun l => q ⟨z, hz, cz, l⟩⟩
    exact this x x hx (.refl x) (Nat.le_refl _)
  refine ⟨fun x => if hx : x < n then Classical.choose (key x hx) else 0, fun x hx => ?_⟩
  simp only [hx, dif_pos]
  exact Classical.choose_spec (key x hx)
/-- how many classes -/
noncomputable def headOf (n : Nat) (E : Edges) : Nat → Nat := Classical.choose (heads_ex n E)
theorem headOf_ok (n : Nat) (E : Edges) : Heads n E (headOf n E) := Classical.choose_spec (heads_ex n E)
theorem heads_one {n : Nat} {E : Edges} {h k : Nat → Nat} (H : Heads n E h) (K : Heads n E k) {x : Nat} (hx : x < n) : h x = k x := by
  obtain ⟨a1, a2, a3⟩ := H x hx
  obtain ⟨b1, b2, b3⟩ := K x hx
  have := a3 _ b1 b2
  have := b3 _ a1 a2
  omega
def fixes (n : Nat) (h : Nat → Nat) : List Nat := (List.range n).filter fun x => decide (h x = x)
noncomputable def comps (n : Nat) (E : Edges) : Nat := (fixes n (headOf n E)).length
theorem comps_heads {n : Nat} {E : Edges} {h : Nat → Nat} (H : Heads n E h) : comps n E = (fixes n h).length := by
  unfold comps fixes
  congr 1
  refine List.filter_congr fun x hx => ?_
  rw [heads_one (headOf_ok n E) H (List.mem_range.mp hx)]
theorem heads_same {n : Nat} {E F : Edges} {h : Nat → Nat} (H : Heads n E h) (e : ∀ x y, Conn E x y ↔ Conn F x y) : Heads n F h := fun x hx => by
  obtain ⟨a1, a2, a3⟩ := H x hx
  exact ⟨a1, (e _ _).mp a2, fun y hy c => a3 y hy ((e _ _).mpr c)⟩
theorem comps_same {n : Nat} {E F : Edges} (e : ∀ x y, Conn E x y ↔ Conn F x y) : comps n E = comps n F := by
  rw [comps_heads (headOf_ok n E), comps_heads (heads_same (headOf_ok n E) e)]
theorem comps_nil (n : Nat) : comps n [] = n := by
  rw [comps_heads (heads_start n)]
  unfold fixes
  rw [List.filter_eq_self.mpr fun x _ => by simp]
  simp
theorem comps_keep {n : Nat} {E : Edges} {a b : Nat} (ha : a < n) (hb : b < n) (c : Conn E a b) : comps n (E ++ [(a, b)]) = comps n E := by
  have H := headOf_ok n E
  rw [comps_heads H, comps_heads (heads_keep H ha hb (H.eq ha hb c))]
theorem comps_join {n : Nat} {E : Edges} {a b : Nat} (ha : a < n) (hb : b < n) (c : ¬ Conn E a b) : comps n (E ++ [(a, b)]) + 1 = comps n E := by
  have H := headOf_ok n E
  have ne : headOf n E a ≠ headOf n E b := fun e => c (H.conn ha hb e)
  rw [comps_heads H, comps_heads (heads_join H ha hb ne)]
  obtain ⟨a1, a2, _⟩ := H a ha
  obtain ⟨b1, b2, _⟩ := H b hb
  have fa : headOf n E (headOf n E a) = headOf n E a := (H.eq ha a1 a2).symm
  have fb : headOf n E (headOf n E b) = headOf n E b := (H.eq hb b1 b2).symm
  generalize hM : max (headOf n E a) (headOf n E b) = M
  generalize hm : min (headOf n E a) (headOf n E b) = m
  have fM : headOf n E M = M := by
    rcases Nat.le_total (headOf n E a) (headOf n E b) with l | l
    · rw [← hM, Nat.max_eq_right l]; exact fb
    · rw [← hM, Nat.max_eq_left l]; exact fa
  have fm : headOf n E m = m := by
    rcases Nat.le_total (headOf n E a) (headOf n E b) with l | l
    · rw [← hm, Nat.min_eq_left l]; exact fa
    · rw [← hm, Nat.min_eq_right l]; exact fb
  have Mn : M < n := by omega
  have mM : m ≠ M := by omega
  have e : fixes n (fun x => if headOf n E x = M then m else headOf n E x) = (fixes n (headOf n E)).filter fun x => x != M := by
    unfold fixes
    rw [List.filter_filter]
    refine List.filter_congr fun x hx => ?_
    by_cases q : headOf n E x = M
    · simp only [q, if_true]
      by_cases q2 : m = x
      · subst q2; rw [fm] at q; exact absurd q mM
      · by_cases q3 : x = M
        · simp [q2, q3]; intro z; exact mM z
        · have : ¬ M = x := fun z => q3 z.symm
          simp [q2, this]
    · simp only [q, if_false]
      by_cases q3 : x = M
      · subst q3; exact absurd fM q
      · simp [q3]
  rw [e]
  have nd : (fixes n (headOf n E)).Nodup := List.Pairwise.filter _ List.nodup_range
  have mem : M ∈ fixes n (headOf n E) := List.mem_filter.mpr ⟨List.mem_range.mpr Mn, by simpa using fM⟩
  rw [← List.Nodup.erase_eq_filter nd, List.length_erase_of_mem mem]
  have := List.length_pos_of_mem mem
  omega
def Below (n : Nat) (E : Edges) : Prop := ∀ e ∈ E, e.1 < n ∧ e.2 < n
theorem comps_one {n : Nat} {E : Edges} (e : Nat × Nat) (he : e.1 < n ∧ e.2 < n) : comps n E ≤ comps n (E ++ [e]) + 1 ∧ comps n (E ++ [e]) ≤ comps n E := by
  obtain ⟨a, b⟩ := e
  have ha : a < n := he.1
  have hb : b < n := he.2
  by_cases c : Conn E a b
  · rw [comps_keep ha hb c]; omega
  · have := comps_join ha hb c; omega
theorem comps_app {n : Nat} : ∀ {F E : Edges}, Below n F → comps n E ≤ comps n (E ++ F) + F.length ∧ comps n (E ++ F) ≤ comps n E
  | [], E, _ => by simp
  | e :: F, E, h => by
    have h1 := comps_one (E := E) e (h e (by simp))
    have h2 := comps_app (F := F) (E := E ++ [e]) fun x hx => h x (by simp [hx])
    rw [List.append_assoc] at h2
    simp at h2 ⊢
    omega
theorem comps_le {n : Nat} {E : Edges} (h : Below n E) : n ≤ comps n E + E.length := by
  have := (comps_app (E := []) h).1
  rw [comps_nil] at this
  simpa using this
theorem comps_pos {n : Nat} {E : Edges} (hn : 1 ≤ n) : 1 ≤ comps n E := by
  have H := headOf_ok n E
  have : 0 ∈ fixes n (headOf n E) := List.mem_filter.mpr ⟨List.mem_range.mpr (by omega), by
    have := (H 0 (by omega)).2.2 0 (by omega) (.refl _)
    simpa using this⟩
  exact List.length_pos_of_mem this
/-- all hangs together -/
def Whole (n : Nat) (E : Edges) : Prop := ∀ x, x < n → Conn E 0 x
theorem whole_comps {n : Nat} {E : Edges} (hn : 1 ≤ n) : Whole n E ↔ comps n E = 1 := by
  have H := headOf_ok n E
  have h0 : headOf n E 0 = 0 := by
    have := (H 0 (by omega)).2.2 0 (by omega) (.refl _)
    omega
  constructor
  · intro w
    have e : fixes n (headOf n E) = [0] := by
      have sub : ∀ x ∈ fixes n (headOf n E), x = 0 := fun x hx => by
        obtain ⟨h1, h2⟩ := List.mem_filter.mp hx
        have hx := List.mem_range.mp h1
        have e := H.eq (show 0 < n by omega) hx (w x hx)
        have := of_decide_eq_true h2
        omega
      have mem : 0 ∈ fixes n (headOf n E) := List.mem_filter.mpr ⟨List.mem_range.mpr (by omega), by simpa using h0⟩
      have nd : (fixes n (headOf n E)).Nodup := List.Pairwise.filter _ List.nodup_range
      match hL : fixes n (headOf n E), sub, mem, nd with
      | [], _, mem, _ => cases mem
      | [x], sub, _, _ => rw [sub x (by simp)]
      | x :: y :: r, sub, _, nd =>
        have e1 := sub x (by simp)
        have e2 := sub y (by simp)
        rw [e1, e2] at nd
        simp at nd
    unfold comps
    rw [e]; rfl
  · intro c x hx
    obtain ⟨x1, x2, x3⟩ := H x hx
    have fx : headOf n E (headOf n E x) = headOf n E x := (H.eq hx x1 x2).symm
    have m1 : headOf n E x ∈ fixes n (headOf n E) := List.mem_filter.mpr ⟨List.mem_range.mpr x1, by simpa using fx⟩
    have m0 : 0 ∈ fixes n (headOf n E) := List.mem_filter.mpr ⟨List.mem_range.mpr (by omega), by simpa using h0⟩
    unfold comps at c
    have e : headOf n E x = 0 := by
      match hL : fixes n (headOf n E), c, m1, m0 with
      | [y], _, m1, m0 =>
        rw [List.mem_singleton.mp m1, List.mem_singleton.mp m0]
    rw [e] at x2
    exact x2.symm
/-- no ring -/
def Forest (n : Nat) (E : Edges) : Prop := comps n E + E.length = n
theorem forest_nil (n : Nat) : Forest n [] := by unfold Forest; rw [comps_nil]; rfl
theorem forest_left {n : Nat} {E F : Edges} (hE : Below n E) (hF : Below n F) (h : Forest n (E ++ F)) : Forest n E := by
  unfold Forest at h ⊢
  have h1 := (comps_app (E := E) hF).1
  have h2 := comps_le hE
  rw [List.length_append] at h
  omega
theorem forest_snoc {n : Nat} {E : Edges} {a b : Nat} (hE : Below n E) (ha : a < n) (hb : b < n) : Forest n (E ++ [(a, b)]) ↔ Forest n E ∧ ¬ Conn E a b := by
  constructor
  · intro h
    refine ⟨forest_left hE (fun e he => by rw [List.mem_singleton.mp he]; exact ⟨ha, hb⟩) h, fun c => ?_⟩
    unfold Forest at h
    rw [comps_keep ha hb c, List.length_append, List.length_singleton] at h
    have := comps_le hE
    omega
  · rintro ⟨h, c⟩
    unfold Forest at h ⊢
    have := comps_join ha hb c
    rw [List.length_append, List.length_singleton]
    omega
theorem conn_mem {E F : Edges} (h : ∀ e, e ∈ E ↔ e ∈ F) (x y : Nat) : Conn E x y ↔ Conn F x y :=
  ⟨Conn.mono fun x y a => a.elim (fun a => .inl ((h _).mp a)) fun a => .inr ((h _).mp a), Conn.mono fun x y a => a.elim (fun a => .inl ((h _).mpr a)) fun a => .inr ((h _).mpr a)⟩
theorem comps_perm {n : Nat} {E F : Edges} (h : E.Perm F) : comps n E = comps n F := comps_same (conn_mem fun e => h.mem_iff)
theorem forest_perm {n : Nat} {E F : Edges} (h : E.Perm F) : Forest n E ↔ Forest n F := by
  unfold Forest
  rw [comps_perm h, h.length_eq]
/-- a spanning tree -/
def Span (n : Nat) (E : Edges) : Prop := Forest n E ∧ Whole n E
theorem span_len {n : Nat} {E : Edges} (hn : 1 ≤ n) : Span n E ↔ Forest n E ∧ E.length + 1 = n := by
  unfold Span
  rw [whole_comps hn]
  unfold Forest
  omega
end DG
-- text DGU
set_option Elab.async false
set_option linter.all false
set_option maxRecDepth 100000
set_option maxHeartbeats 2000000
/-! DGU: trees of a wiring, as the law counts them and as the program does -/
namespace DG
/-! ### rising lists -/
def Inc (i : Nat) (o : List Nat) : Prop := o.Pairwise (· < ·) ∧ ∀ x ∈ o, x < i
theorem inc_nil (i : Nat) : Inc i [] := ⟨by simp, by simp⟩
theorem inc_snoc {i x : Nat} {o : List Nat} : Inc i (o ++ [x]) ↔ Inc x o ∧ x < i := by
  unfold Inc
  rw [List.pairwise_append]
  constructor
  · rintro ⟨⟨h1, _, h3⟩, h4⟩
    exact ⟨⟨h1, fun y hy => h3 y hy x (by simp)⟩, h4 x (by simp)⟩
  · rintro ⟨⟨h1, h2⟩, h3⟩
    refine ⟨⟨h1, by simp, fun a ha b hb => ?_⟩, fun y hy => ?_⟩
    · rw [List.mem_singleton.mp hb]; exact h2 a ha
    · rcases List.mem_append.mp hy with hy | hy
      · have := h2 y hy; omega
      · rw [List.mem_singleton.mp hy]; exact h3
theorem inc_mono {i j : Nat} {o : List Nat} (h : Inc i o) (hj : i ≤ j) : Inc j o := ⟨h.1, fun x hx => by have := h.2 x hx; omega⟩
theorem inc_succ {i : Nat} {o : List Nat} : Inc (i + 1) o ↔ Inc i o ∨ ∃ u, Inc i u ∧ o = u ++ [i] := by
  constructor
  · intro h
    rcases List.eq_nil_or_concat o with e | ⟨u, x, e⟩
    · subst e; exact .inl (inc_nil i)
    · rw [List.concat_eq_append] at e
      subst e
      obtain ⟨h1, h2⟩ := inc_snoc.mp h
      by_cases q : x = i
      · subst q; exact .inr ⟨u, h1, rfl⟩
      · exact .inl (inc_snoc.mpr ⟨h1, by omega⟩)
  · rintro (h | ⟨u, h, rfl⟩)
    · exact inc_mono h (by omega)
    · exact inc_snoc.mpr ⟨h, by omega⟩
theorem inc_nodup {i : Nat} {o : List Nat} (h : Inc i o) : o.Nodup := List.Pairwise.imp (fun h => Nat.ne_of_lt h) h.1
theorem inc_len : ∀ {i : Nat} {o : List Nat}, Inc i o → o.length ≤ i
  | 0, o, h => by
    cases o with
    | nil => exact Nat.le_refl _
    | cons a r => have := h.2 a (by simp); omega
  | i + 1, o, h => by
    rcases inc_succ.mp h with h | ⟨u, hu, rfl⟩
    · have := inc_len h; omega
    · have := inc_len hu
      rw [List.length_append, List.length_singleton]; omega
theorem inc_filter (i : Nat) (p : Nat → Bool) : Inc i ((List.range i).filter p) :=
  ⟨List.Pairwise.filter _ List.pairwise_lt_range, fun x hx => List.mem_range.mp (List.mem_filter.mp hx).1⟩
/-- one rising list for each set -/
theorem inc_ext : ∀ {o u : List Nat}, o.Pairwise (· < ·) → u.Pairwise (· < ·) → (∀ x, x ∈ o ↔ x ∈ u) → o = u := fun {o u} h1 h2 h3 =>
  List.Perm.eq_of_pairwise (le := fun a b => a < b) (fun a b _ _ l r => by omega) h1 h2 ((List.perm_ext_iff_of_nodup (List.Pairwise.imp (fun h => Nat.ne_of_lt h) h1) (List.Pairwise.imp (fun h => Nat.ne_of_lt h) h2)).mpr h3)
/-! ### links by number -/
def eT (E : Edges) (T : List Nat) : Edges := T.filterMap fun i => E[i]?
theorem eT_app (E : Edges) (T U : List Nat) : eT E (T ++ U) = eT E T ++ eT E U := List.filterMap_append
theorem eT_one {E : Edges} {i : Nat} {e : Nat × Nat} (h : E[i]? = some e) : eT E [i] = [e] := by simp [eT, h]
theorem mem_eT {E : Edges} {T : List Nat} {e : Nat × Nat} : e ∈ eT E T ↔ ∃ i, i ∈ T ∧ E[i]? = some e := by
  unfold eT
  rw [List.mem_filterMap]
theorem eT_below {n : Nat} {E : Edges} (hE : Below n E) (T : List Nat) : Below n (eT E T) := fun e he => by
  obtain ⟨i, _, h⟩ := mem_eT.mp he
  exact hE e (List.mem_of_getElem? h)
theorem eT_len {E : Edges} : ∀ {T : List Nat}, (∀ i ∈ T, i < E.length) → (eT E T).length = T.length
  | [], _ => rfl
  | i :: T, h => by
    have hi := h i (by simp)
    have := eT_len (T := T) fun j hj => h j (by simp [hj])
    have e : eT E (i :: T) = E[i] :: eT E T := by
      unfold eT
      rw [List.filterMap_cons, List.getElem?_eq_getElem hi]
    rw [e, List.length_cons, List.length_cons, this]
theorem eT_perm {E : Edges} {T U : List Nat} (h : T.Perm U) : (eT E T).Perm (eT E U) := h.filterMap _
/-! ### the law's rows -/
section
variable (n : Nat) (E : Edges) (w : Nat → Int)
noncomputable def ringB (T : List Nat) (e : Nat × Nat) : Bool := @decide (Conn (eT E T) e.1 e.2) (Classical.propDecidable _)
noncomputable def wholeB (F : Edges) : Bool := @decide (Whole n F) (Classical.propDecidable _)
noncomputable def lawStep (i : Nat) (T : List Nat) : List (List Nat) :=
  (if w i = -1 then [] else [T]) ++ (if w i = 0 then [] else if ringB E T (E[i]?.getD (0, 0)) = true then [] else [T ++ [i]])
noncomputable def lawR : Nat → List (List Nat)
  | 0 => [[]]
  | i + 1 => (lawR i).flatMap (lawStep E w i)
end
section
variable {n : Nat} {E : Edges} {w : Nat → Int}
theorem ringB_iff {T : List Nat} {e : Nat × Nat} : ringB E T e = true ↔ Conn (eT E T) e.1 e.2 := by
  unfold ringB; exact @decide_eq_true_iff _ (Classical.propDecidable _)
theorem wholeB_iff {F : Edges} : wholeB n F = true ↔ Whole n F := by
  unfold wholeB; exact @decide_eq_true_iff _ (Classical.propDecidable _)
theorem mem_lawStep {i : Nat} {T U : List Nat} {e : Nat × Nat} (he : E[i]? = some e) : U ∈ lawStep E w i T ↔ (w i ≠ -1 ∧ U = T) ∨ (w i ≠ 0 ∧ ¬ Conn (eT E T) e.1 e.2 ∧ U = T ++ [i]) := by
  unfold lawStep
  rw [he, List.mem_append]
  have hr := ringB_iff (E := E) (T := T) (e := e)
  constructor
  · rintro (h | h)
    · split at h
      · cases h
      · rename_i q; exact .inl ⟨q, List.mem_singleton.mp h⟩
    · split at h
      · cases h
      · rename_i q
        split at h
        · cases h
        · rename_i q2
          exact .inr ⟨q, fun c => q2 (hr.mpr c), List.mem_singleton.mp h⟩
  · rintro (⟨q, rfl⟩ | ⟨q, c, rfl⟩)
    · left; rw [if_neg q]; simp
    · right
      have c2 : ¬ ringB E T ((some e).getD (0, 0)) = true := fun z => c (hr.mp z)
      rw [if_neg q, if_neg c2]; simp
/-- rows of the law: forests that hold what is rigid, without what is absent -/
def RowOk (n : Nat) (E : Edges) (w : Nat → Int) (i : Nat) (T : List Nat) : Prop := Inc i T ∧ (∀ j ∈ T, w j ≠ 0) ∧ (∀ j, j < i → w j = -1 → j ∈ T) ∧ Forest n (eT E T)
theorem lawR_iff (hE : Below n E) : ∀ {i : Nat} {T : List Nat}, i ≤ E.length → (T ∈ lawR E w i ↔ RowOk n E w i T)
  | 0, T, _ => by
    simp only [lawR, List.mem_singleton]
    constructor
    · rintro rfl
      exact ⟨inc_nil 0, by simp, fun j hj => by omega, forest_nil n⟩
    · rintro ⟨h, _⟩
      exact List.eq_nil_of_length_eq_zero (by have := inc_len h; omega)
  | i + 1, T, hi => by
    have he : E[i]? = some E[i] := List.getElem?_eq_getElem (by omega)
    have hb := hE _ (List.getElem_mem (show i < E.length by omega))
    unfold lawR
    rw [List.mem_flatMap]
    constructor
    · rintro ⟨U, hU, hT⟩
      obtain ⟨u1, u2, u3, u4⟩ := (lawR_iff hE (by omega)).mp hU
      rcases (mem_lawStep he).mp hT with ⟨q, rfl⟩ | ⟨q, c, rfl⟩
      · exact ⟨inc_mono u1 (by omega), u2, fun j hj hw => by
          by_cases e : j = i
          · subst e; exact absurd hw q
          · exact u3 j (by omega) hw, u4⟩
      · refine ⟨inc_snoc.mpr ⟨u1, by omega⟩, fun j hj => ?_, fun j hj hw => ?_, ?_⟩
        · rcases List.mem_append.mp hj with hj | hj
          · exact u2 j hj
          · rw [List.mem_singleton.mp hj]; exact q
        · by_cases e : j = i
          · subst e; simp
          · exact List.mem_append_left _ (u3 j (by omega) hw)
        · rw [eT_app, eT_one he]
          exact (forest_snoc (eT_below hE U) hb.1 hb.2).mpr ⟨u4, c⟩
    · rintro ⟨t1, t2, t3, t4⟩
      rcases inc_succ.mp t1 with t1 | ⟨U, hU, rfl⟩
      · have q : w i ≠ -1 := fun z => by have := t1.2 i (t3 i (by omega) z); omega
        exact ⟨T, (lawR_iff hE (by omega)).mpr ⟨t1, t2, fun j hj => t3 j (by omega), t4⟩, (mem_lawStep he).mpr (.inl ⟨q, rfl⟩)⟩
      · rw [eT_app, eT_one he] at t4
        obtain ⟨f1, f2⟩ := (forest_snoc (eT_below hE U) hb.1 hb.2).mp t4
        refine ⟨U, (lawR_iff hE (by omega)).mpr ⟨hU, fun j hj => t2 j (List.mem_append_left _ hj), fun j hj hw => ?_, f1⟩, (mem_lawStep he).mpr (.inr ⟨t2 i (by simp), f2, rfl⟩)⟩
        rcases List.mem_append.mp (t3 j (by omega) hw) with h | h
        · exact h
        · have := List.mem_singleton.mp h; omega
theorem lawStep_nodup {i : Nat} {T : List Nat} : (lawStep E w i T).Nodup := by
  unfold lawStep
  refine List.nodup_append.mpr ⟨by split <;> simp, by split <;> first | simp; done | (split <;> simp), fun a ha b hb e => ?_⟩
  subst e
  split at ha
  · cases ha
  · have e1 := List.mem_singleton.mp ha
    split at hb
    · cases hb
    · split at hb
      · cases hb
      · have e2 := List.mem_singleton.mp hb
        rw [e1] at e2
        have := congrArg List.length e2
        simp at this
theorem lawR_nodup (hE : Below n E) : ∀ i, i ≤ E.length → (lawR E w i).Nodup
  | 0, _ => by simp [lawR]
  | i + 1, hi => by
    have he : E[i]? = some E[i] := List.getElem?_eq_getElem (by omega)
    unfold lawR
    have main : ∀ L : List (List Nat), L.Nodup → (∀ T ∈ L, Inc i T) → (L.flatMap (lawStep E w i)).Nodup := fun L => by
      induction L with
      | nil => intro _ _; simp
      | cons T L ih =>
        intro h1 h2
        obtain ⟨k1, k2⟩ := List.nodup_cons.mp h1
        rw [List.flatMap_cons]
        refine List.nodup_append.mpr ⟨lawStep_nodup, ih k2 fun U hU => h2 U (by simp [hU]), fun a ha b hb e => ?_⟩
        subst e
        obtain ⟨U, hU, hb⟩ := List.mem_flatMap.mp hb
        have iT := h2 T (by simp)
        have iU := h2 U (by simp [hU])
        have ni : ∀ {V W : List Nat}, Inc i V → V = W ++ [i] → False := fun hV e => by
          subst e
          have := hV.2 i (by simp); omega
        rcases (mem_lawStep he).mp ha with ⟨_, rfl⟩ | ⟨_, _, rfl⟩
        · rcases (mem_lawStep he).mp hb with ⟨_, e⟩ | ⟨_, _, e⟩
          · subst e; exact k1 hU
          · exact ni iT e
        · rcases (mem_lawStep he).mp hb with ⟨_, e⟩ | ⟨_, _, e⟩
          · exact ni iU e.symm
          · have := List.append_cancel_right e
            subst this
            exact k1 hU
    exact main _ (lawR_nodup hE i (by omega)) fun T hT => ((lawR_iff hE (by omega)).mp hT).1
/-- a tree of the wiring -/
def TreeOk (n : Nat) (E : Edges) (w : Nat → Int) (T : List Nat) : Prop := Inc E.length T ∧ (∀ j ∈ T, w j ≠ 0) ∧ (∀ j, j < E.length → w j = -1 → j ∈ T) ∧ Span n (eT E T)
theorem tree_row (hE : Below n E) (hn : 1 ≤ n) {T : List Nat} : TreeOk n E w T ↔ T ∈ lawR E w E.length ∧ T.length + 1 = n := by
  rw [lawR_iff hE (Nat.le_refl _)]
  unfold TreeOk RowOk
  constructor
  · rintro ⟨h1, h2, h3, h4⟩
    obtain ⟨f1, f2⟩ := (span_len hn).mp h4
    rw [eT_len h1.2] at f2
    exact ⟨⟨h1, h2, h3, f1⟩, f2⟩
  · rintro ⟨⟨h1, h2, h3, h4⟩, h5⟩
    exact ⟨h1, h2, h3, (span_len hn).mpr ⟨h4, by rw [eT_len h1.2]; exact h5⟩⟩
end
end DG
-- text DGV
set_option Elab.async false
set_option linter.all false
set_option maxRecDepth 100000
set_option maxHeartbeats 2000000
/-! DGV: trees of a wiring as the program builds them -/
namespace DG
theorem conn_bind {E F : Edges} (h : ∀ x y, Adj E x y → Conn F x y) {x y : Nat} (c : Conn E x y) : Conn F x y := by
  induction c with
  | refl => exact .refl _
  | step _ a ih => exact ih.trans (h _ _ a)
/-- links that are not out -/
def dropE (E : Edges) (S : List Nat) : Edges := eT E ((List.range E.length).filter fun j => decide (j ∉ S))
theorem mem_dropE {E : Edges} {S : List Nat} {e : Nat × Nat} : e ∈ dropE E S ↔ ∃ j, j ∉ S ∧ E[j]? = some e := by
  unfold dropE
  rw [mem_eT]
  constructor
  · rintro ⟨j, h1, h2⟩
    exact ⟨j, of_decide_eq_true (List.mem_filter.mp h1).2, h2⟩
  · rintro ⟨j, h1, h2⟩
    exact ⟨j, List.mem_filter.mpr ⟨List.mem_range.mpr (List.getElem?_eq_some_iff.mp h2).1, decide_eq_true h1⟩, h2⟩
section
variable (n : Nat) (E : Edges) (w : Nat → Int)
def rigT : List Nat := (List.range E.length).filter fun j => decide (w j = -1)
def absT : List Nat := (List.range E.length).filter fun j => decide (w j = 0)
def restU (U : List Nat) (i : Nat) : List Nat := (List.range i).filter fun j => decide (0 < w j ∧ j ∉ U)
noncomputable def progStep (i : Nat) (U : List Nat) : List (List Nat) :=
  if ringB E (rigT E w ++ U) (E[i]?.getD (0, 0)) = true then [U] else [U ++ [i]] ++ if wholeB n (dropE E (absT E w ++ (restU w U i ++ [i]))) = true then [U] else []
noncomputable def progU : Nat → List (List Nat)
  | 0 => [[]]
  | i + 1 => if w i ≤ 0 then progU i else (progU i).flatMap (progStep n E w i)
end
section
variable {n : Nat} {E : Edges} {w : Nat → Int}
theorem mem_rig {j : Nat} : j ∈ rigT E w ↔ j < E.length ∧ w j = -1 := by unfold rigT; rw [List.mem_filter, List.mem_range]; simp
theorem mem_abs {j : Nat} : j ∈ absT E w ↔ j < E.length ∧ w j = 0 := by unfold absT; rw [List.mem_filter, List.mem_range]; simp
theorem mem_rest {U : List Nat} {i j : Nat} : j ∈ restU w U i ↔ j < i ∧ 0 < w j ∧ j ∉ U := by unfold restU; rw [List.mem_filter, List.mem_range]; simp
theorem rest_skip {U : List Nat} {i : Nat} (h : 0 < w i) (hU : i ∉ U) : restU w U (i + 1) = restU w U i ++ [i] := by
  unfold restU
  rw [List.range_succ, List.filter_append]
  simp [h, hU]
theorem rest_not {U : List Nat} {i : Nat} (h : w i ≤ 0) : restU w U (i + 1) = restU w U i := by
  unfold restU
  rw [List.range_succ, List.filter_append]
  have : ¬ 0 < w i := by omega
  simp [this]
theorem rest_take {U : List Nat} {i : Nat} : restU w (U ++ [i]) (i + 1) = restU w U i := by
  unfold restU
  rw [List.range_succ, List.filter_append]
  simp
  refine List.filter_congr fun j hj => ?_
  have := List.mem_range.mp hj
  have ne : ¬ j = i := by omega
  simp [ne]
def PartOk (n : Nat) (E : Edges) (w : Nat → Int) (i : Nat) (U : List Nat) : Prop := Inc i U ∧ (∀ j ∈ U, 0 < w j) ∧ Forest n (eT E (rigT E w ++ U)) ∧ Whole n (dropE E (absT E w ++ restU w U i))
theorem whole_ring {i : Nat} {U : List Nat} {e : Nat × Nat} (he : E[i]? = some e) (hw : 0 < w i) (h1 : Inc i U) (h2 : ∀ j ∈ U, 0 < w j) (hW : Whole n (dropE E (absT E w ++ restU w U i)))
    (c : Conn (eT E (rigT E w ++ U)) e.1 e.2) : Whole n (dropE E (absT E w ++ (restU w U i ++ [i]))) := fun x hx => by
  have sub : ∀ f, f ∈ eT E (rigT E w ++ U) → f ∈ dropE E (absT E w ++ (restU w U i ++ [i])) := fun f hf => by
    obtain ⟨j, hj, hf⟩ := mem_eT.mp hf
    refine mem_dropE.mpr ⟨j, fun q => ?_, hf⟩
    rcases List.mem_append.mp hj with hj | hj
    · have r := (mem_rig.mp hj).2
      rcases List.mem_append.mp q with q | q
      · have := (mem_abs.mp q).2; omega
      · rcases List.mem_append.mp q with q | q
        · have := (mem_rest.mp q).2.1; omega
        · have := List.mem_singleton.mp q; subst this; omega
    · have p := h2 j hj
      have l := h1.2 j hj
      rcases List.mem_append.mp q with q | q
      · have := (mem_abs.mp q).2; omega
      · rcases List.mem_append.mp q with q | q
        · exact (mem_rest.mp q).2.2 hj
        · have := List.mem_singleton.mp q; omega
  have c' : Conn (dropE E (absT E w ++ (restU w U i ++ [i]))) e.1 e.2 := c.mono fun x y a => a.elim (fun a => .inl (sub _ a)) fun a => .inr (sub _ a)
  have key : ∀ a b, (a, b) ∈ dropE E (absT E w ++ restU w U i) → Conn (dropE E (absT E w ++ (restU w U i ++ [i]))) a b := fun a b hab => by
    obtain ⟨j, hj, hf⟩ := mem_dropE.mp hab
    by_cases q : j = i
    · subst q
      rw [he] at hf
      cases hf
      exact c'
    · refine Conn.one (.inl (mem_dropE.mpr ⟨j, fun z => ?_, hf⟩))
      rw [← List.append_assoc] at z
      rcases List.mem_append.mp z with z | z
      · exact hj z
      · exact q (List.mem_singleton.mp z)
  exact conn_bind (fun a b h => h.elim (key a b) fun h => (key b a h).symm) (hW x hx)
theorem mem_progStep {i : Nat} {U V : List Nat} {e : Nat × Nat} (he : E[i]? = some e) : V ∈ progStep n E w i U ↔
    (V = U ++ [i] ∧ ¬ Conn (eT E (rigT E w ++ U)) e.1 e.2) ∨ (V = U ∧ (Conn (eT E (rigT E w ++ U)) e.1 e.2 ∨ Whole n (dropE E (absT E w ++ (restU w U i ++ [i]))))) := by
  unfold progStep
  rw [he]
  have hr := ringB_iff (E := E) (T := rigT E w ++ U) (e := e)
  have hw := wholeB_iff (n := n) (F := dropE E (absT E w ++ (restU w U i ++ [i])))
  by_cases c : Conn (eT E (rigT E w ++ U)) e.1 e.2
  · have c2 : ringB E (rigT E w ++ U) ((some e).getD (0, 0)) = true := hr.mpr c
    rw [if_pos c2]
    simp [c]
  · have c2 : ¬ ringB E (rigT E w ++ U) ((some e).getD (0, 0)) = true := fun z => c (hr.mp z)
    rw [if_neg c2]
    by_cases q : Whole n (dropE E (absT E w ++ (restU w U i ++ [i])))
    · rw [if_pos (hw.mpr q)]
      simp [c, q]
    · rw [if_neg fun z => q (hw.mp z)]
      simp [c, q]
theorem progU_iff (hE : Below n E) (hF : Forest n (eT E (rigT E w))) (hW : Whole n (dropE E (absT E w))) : ∀ {i : Nat} {U : List Nat}, i ≤ E.length → (U ∈ progU n E w i ↔ PartOk n E w i U)
  | 0, U, _ => by
    simp only [progU, List.mem_singleton]
    constructor
    · rintro rfl
      exact ⟨inc_nil 0, by simp, by rw [List.append_nil]; exact hF, by simpa [restU] using hW⟩
    · rintro ⟨h, _⟩
      exact List.eq_nil_of_length_eq_zero (by have := inc_len h; omega)
  | i + 1, U, hi => by
    have he : E[i]? = some E[i] := List.getElem?_eq_getElem (by omega)
    have hb := hE _ (List.getElem_mem (show i < E.length by omega))
    unfold progU
    by_cases q : w i ≤ 0
    · rw [if_pos q, progU_iff hE hF hW (by omega)]
      unfold PartOk
      rw [rest_not q]
      constructor
      · rintro ⟨h1, h2, h3, h4⟩
        exact ⟨inc_mono h1 (by omega), h2, h3, h4⟩
      · rintro ⟨h1, h2, h3, h4⟩
        refine ⟨?_, h2, h3, h4⟩
        rcases inc_succ.mp h1 with h | ⟨V, hV, rfl⟩
        · exact h
        · have := h2 i (by simp); omega
    · rw [if_neg q, List.mem_flatMap]
      have wi : 0 < w i := by omega
      constructor
      · rintro ⟨V, hV, hU⟩
        obtain ⟨v1, v2, v3, v4⟩ := (progU_iff hE hF hW (by omega)).mp hV
        have ni : i ∉ V := fun z => by have := v1.2 i z; omega
        rcases (mem_progStep he).mp hU with ⟨rfl, c⟩ | ⟨rfl, c⟩
        · refine ⟨inc_snoc.mpr ⟨v1, by omega⟩, fun j hj => ?_, ?_, by rw [rest_take]; exact v4⟩
          · rcases List.mem_append.mp hj with hj | hj
            · exact v2 j hj
            · rw [List.mem_singleton.mp hj]; exact wi
          · rw [← List.append_assoc, eT_app, eT_one he]
            exact (forest_snoc (eT_below hE _) hb.1 hb.2).mpr ⟨v3, c⟩
        · refine ⟨inc_mono v1 (by omega), v2, v3, ?_⟩
          rw [rest_skip wi ni]
          rcases c with c | c
          · exact whole_ring he wi v1 v2 v4 c
          · exact c
      · rintro ⟨u1, u2, u3, u4⟩
        rcases inc_succ.mp u1 with u1 | ⟨V, hV, rfl⟩
        · have ni : i ∉ U := fun z => by have := u1.2 i z; omega
          rw [rest_skip wi ni] at u4
          have w4 : Whole n (dropE E (absT E w ++ restU w U i)) := fun x hx => (u4 x hx).mono fun a b h => by
            have sub : ∀ f, f ∈ dropE E (absT E w ++ (restU w U i ++ [i])) → f ∈ dropE E (absT E w ++ restU w U i) := fun f hf => by
              obtain ⟨j, hj, hf⟩ := mem_dropE.mp hf
              refine mem_dropE.mpr ⟨j, fun z => hj ?_, hf⟩
              rw [← List.append_assoc]
              exact List.mem_append_left _ z
            exact h.elim (fun h => .inl (sub _ h)) fun h => .inr (sub _ h)
          exact ⟨U, (progU_iff hE hF hW (by omega)).mpr ⟨u1, u2, u3, w4⟩, (mem_progStep he).mpr (.inr ⟨rfl, .inr u4⟩)⟩
        · rw [← List.append_assoc, eT_app, eT_one he] at u3
          obtain ⟨f1, f2⟩ := (forest_snoc (eT_below hE _) hb.1 hb.2).mp u3
          rw [rest_take] at u4
          exact ⟨V, (progU_iff hE hF hW (by omega)).mpr ⟨hV, fun j hj => u2 j (List.mem_append_left _ hj), f1, u4⟩, (mem_progStep he).mpr (.inl ⟨rfl, f2⟩)⟩
theorem progStep_nodup {i : Nat} {U : List Nat} : (progStep n E w i U).Nodup := by
  unfold progStep
  split
  · simp
  · refine List.nodup_append.mpr ⟨by simp, by split <;> simp, fun a ha b hb e => ?_⟩
    subst e
    have e1 := List.mem_singleton.mp ha
    split at hb
    · have e2 := List.mem_singleton.mp hb
      rw [e1] at e2
      have := congrArg List.length e2
      simp at this
    · cases hb
theorem progU_nodup (hE : Below n E) (hF : Forest n (eT E (rigT E w))) (hW : Whole n (dropE E (absT E w))) : ∀ i, i ≤ E.length → (progU n E w i).Nodup
  | 0, _ => by simp [progU]
  | i + 1, hi => by
    have he : E[i]? = some E[i] := List.getElem?_eq_getElem (by omega)
    have ih := progU_nodup hE hF hW i (by omega)
    unfold progU
    split
    · exact ih
    have main : ∀ L : List (List Nat), L.Nodup → (∀ T ∈ L, Inc i T) → (L.flatMap (progStep n E w i)).Nodup := fun L => by
      induction L with
      | nil => intro _ _; simp
      | cons T L ih =>
        intro h1 h2
        obtain ⟨k1, k2⟩ := List.nodup_cons.mp h1
        rw [List.flatMap_cons]
        refine List.nodup_append.mpr ⟨progStep_nodup, ih k2 fun U hU => h2 U (by simp [hU]), fun a ha b hb e => ?_⟩
        subst e
        obtain ⟨U, hU, hb⟩ := List.mem_flatMap.mp hb
        have iT := h2 T (by simp)
        have iU := h2 U (by simp [hU])
        have ni : ∀ {V W : List Nat}, Inc i V → V = W ++ [i] → False := fun hV e => by
          subst e
          have := hV.2 i (by simp); omega
        rcases (mem_progStep he).mp ha with ⟨rfl, _⟩ | ⟨rfl, _⟩
        · rcases (mem_progStep he).mp hb with ⟨e, _⟩ | ⟨e, _⟩
          · have := List.append_cancel_right e
            subst this
            exact k1 hU
          · exact ni iU e.symm
        · rcases (mem_progStep he).mp hb with ⟨e, _⟩ | ⟨e, _⟩
          · exact ni iT e
          · subst e; exact k1 hU
    exact main _ ih fun T hT => ((progU_iff hE hF hW (by omega)).mp hT).1
theorem progU_len (n : Nat) (E : Edges) (w : Nat → Int) : ∀ i, (progU n E w i).length ≤ 2 ^ i ∧ 1 ≤ (progU n E w i).length
  | 0 => by simp [progU]
  | i + 1 => by
    obtain ⟨h1, h2⟩ := progU_len n E w i
    unfold progU
    rw [Nat.pow_succ]
    split
    · omega
    · have main : ∀ L : List (List Nat), (L.flatMap (progStep n E w i)).length ≤ 2 * L.length ∧ L.length ≤ (L.flatMap (progStep n E w i)).length := fun L => by
        induction L with
        | nil => simp
        | cons T L ih =>
          have : (progStep n E w i T).length ≤ 2 ∧ 1 ≤ (progStep n E w i T).length := by
            unfold progStep
            split
            · simp
            · rw [List.length_append]
              split <;> simp
          rw [List.flatMap_cons, List.length_append, List.length_cons]
          omega
      have := main (progU n E w i)
      omega
/-- rigid and taken, rising -/
def joinT (E : Edges) (w : Nat → Int) (U : List Nat) : List Nat := (List.range E.length).filter fun j => decide (w j = -1 ∨ j ∈ U)
theorem mem_join {U : List Nat} {j : Nat} : j ∈ joinT E w U ↔ j < E.length ∧ (w j = -1 ∨ j ∈ U) := by unfold joinT; rw [List.mem_filter, List.mem_range]; simp
theorem join_perm {U : List Nat} (h1 : Inc E.length U) (h2 : ∀ j ∈ U, 0 < w j) : (joinT E w U).Perm (rigT E w ++ U) := by
  refine (List.perm_ext_iff_of_nodup (inc_nodup (inc_filter _ _)) ?_).mpr fun j => ?_
  · refine List.nodup_append.mpr ⟨inc_nodup (inc_filter _ _), inc_nodup h1, fun a ha b hb e => ?_⟩
    subst e
    have := (mem_rig.mp ha).2
    have := h2 a hb
    omega
  · show j ∈ joinT E w U ↔ _
    rw [mem_join, List.mem_append, mem_rig]
    constructor
    · rintro ⟨l, q | q⟩
      · exact .inl ⟨l, q⟩
      · exact .inr q
    · rintro (⟨l, q⟩ | q)
      · exact ⟨l, .inl q⟩
      · exact ⟨h1.2 j q, .inr q⟩
/-- what the program ends with: the trees -/
theorem prog_trees (hE : Below n E) (hF : Forest n (eT E (rigT E w))) (hW : Whole n (dropE E (absT E w))) (hw : ∀ j, j < E.length → -1 ≤ w j) {T : List Nat} :
    T ∈ (progU n E w E.length).map (joinT E w) ↔ TreeOk n E w T := by
  have same : ∀ U, Inc E.length U → (∀ j ∈ U, 0 < w j) → ∀ e, e ∈ dropE E (absT E w ++ restU w U E.length) ↔ e ∈ eT E (rigT E w ++ U) := fun U h1 h2 e => by
    rw [mem_dropE, mem_eT]
    constructor
    · rintro ⟨j, hj, he⟩
      have jl := (List.getElem?_eq_some_iff.mp he).1
      refine ⟨j, ?_, he⟩
      have := hw j jl
      rw [List.mem_append, mem_rig]
      by_cases q : j ∈ U
      · exact .inr q
      · left
        refine ⟨jl, ?_⟩
        have n0 : w j ≠ 0 := fun z => hj (List.mem_append_left _ (mem_abs.mpr ⟨jl, z⟩))
        have np : ¬ 0 < w j := fun z => hj (List.mem_append_right _ (mem_rest.mpr ⟨jl, z, q⟩))
        omega
    · rintro ⟨j, hj, he⟩
      refine ⟨j, fun z => ?_, he⟩
      rcases List.mem_append.mp hj with hj | hj
      · have := (mem_rig.mp hj).2
        rcases List.mem_append.mp z with z | z
        · have := (mem_abs.mp z).2; omega
        · have := (mem_rest.mp z).2.1; omega
      · have := h2 j hj
        rcases List.mem_append.mp z with z | z
        · have := (mem_abs.mp z).2; omega
        · exact (mem_rest.mp z).2.2 hj
  constructor
  · intro h
    obtain ⟨U, hU, rfl⟩ := List.mem_map.mp h
    obtain ⟨u1, u2, u3, u4⟩ := (progU_iff hE hF hW (Nat.le_refl _)).mp hU
    have pm := eT_perm (E := E) (join_perm u1 u2)
    refine ⟨inc_filter _ _, fun j hj => ?_, fun j hj q => mem_join.mpr ⟨hj, .inl q⟩, (forest_perm pm).mpr u3, fun x hx => ?_⟩
    · rcases (mem_join.mp hj).2 with q | q
      · omega
      · have := u2 j q; omega
    · exact (conn_mem (fun e => ((same U u1 u2 e).trans pm.mem_iff.symm)) 0 x).mp (u4 x hx)
  · rintro ⟨t1, t2, t3, t4, t5⟩
    have hTU : ∀ j, j ∈ T.filter (fun j => decide (0 < w j)) ↔ j ∈ T ∧ 0 < w j := fun j => by rw [List.mem_filter]; simp
    have u1 : Inc E.length (T.filter fun j => decide (0 < w j)) := ⟨List.Pairwise.filter _ t1.1, fun x hx => t1.2 x ((hTU x).mp hx).1⟩
    have u2 : ∀ j ∈ T.filter (fun j => decide (0 < w j)), 0 < w j := fun j hj => ((hTU j).mp hj).2
    have ej : joinT E w (T.filter fun j => decide (0 < w j)) = T := by
      refine inc_ext (inc_filter _ _).1 t1.1 fun j => ?_
      rw [mem_join, hTU]
      constructor
      · rintro ⟨l, q | q⟩
        · exact t3 j l q
        · exact q.1
      · intro h
        have l := t1.2 j h
        have := hw j l
        have := t2 j h
        refine ⟨l, ?_⟩
        by_cases q : w j = -1
        · exact .inl q
        · exact .inr ⟨h, by omega⟩
    have pm := eT_perm (E := E) (join_perm u1 u2)
    rw [ej] at pm
    refine List.mem_map.mpr ⟨_, (progU_iff hE hF hW (Nat.le_refl _)).mpr ⟨u1, u2, (forest_perm pm).mp t4, fun x hx => ?_⟩, ej⟩
    exact (conn_mem (fun e => ((same _ u1 u2 e).trans pm.mem_iff.symm)) 0 x).mpr (t5 x hx)
theorem join_inj {U V : List Nat} (u1 : Inc E.length U) (u2 : ∀ j ∈ U, 0 < w j) (v1 : Inc E.length V) (v2 : ∀ j ∈ V, 0 < w j) (e : joinT E w U = joinT E w V) : U = V := by
  refine inc_ext u1.1 v1.1 fun j => ?_
  have key : ∀ {A B : List Nat}, Inc E.length A → (∀ j ∈ A, 0 < w j) → joinT E w A = joinT E w B → ∀ j, j ∈ A → j ∈ B := fun a1 a2 e j hj => by
    have := (mem_join (w := w)).mpr ⟨a1.2 j hj, .inr hj⟩
    rw [e] at this
    rcases (mem_join.mp this).2 with q | q
    · have := a2 j hj; omega
    · exact q
  exact ⟨key u1 u2 e j, key v1 v2 e.symm j⟩
theorem prog_nodup (hE : Below n E) (hF : Forest n (eT E (rigT E w))) (hW : Whole n (dropE E (absT E w))) : ((progU n E w E.length).map (joinT E w)).Nodup := by
  have nd := progU_nodup hE hF hW E.length (Nat.le_refl _)
  have ok : ∀ U ∈ progU n E w E.length, Inc E.length U ∧ ∀ j ∈ U, 0 < w j := fun U hU => by
    obtain ⟨h1, h2, _⟩ := (progU_iff hE hF hW (Nat.le_refl _)).mp hU
    exact ⟨h1, h2⟩
  generalize progU n E w E.length = L at nd ok
  induction L with
  | nil => simp
  | cons U L ih =>
    obtain ⟨k1, k2⟩ := List.nodup_cons.mp nd
    rw [List.map_cons]
    refine List.nodup_cons.mpr ⟨fun h => ?_, ih k2 fun V hV => ok V (by simp [hV])⟩
    obtain ⟨V, hV, e⟩ := List.mem_map.mp h
    obtain ⟨a1, a2⟩ := ok U (by simp)
    obtain ⟨b1, b2⟩ := ok V (by simp [hV])
    rw [join_inj b1 b2 a1 a2 e] at hV
    exact k1 hV
end
end DG
-- text DLP
set_option Elab.async false
set_option linter.all false
set_option maxRecDepth 100000
set_option maxHeartbeats 2000000
/-! DLP: bits, range with a step, order of tuples of texts -/
namespace DL
open PySem PySem.Spec PyProof.Rows L2
def dShl (x y : D) (st : Stor) (R : KD) : Prop := match x, y with
  | .int i, .int j => CPow i j ∧ R (.int (i * 2 ^ j.toNat)) st
  | _, _ => False
def dShr (x y : D) (st : Stor) (R : KD) : Prop := match x, y with
  | .int i, .int j => 0 ≤ j ∧ R (.int (i / 2 ^ j.toNat)) st
  | _, _ => False
def dBand (x y : D) (st : Stor) (R : KD) : Prop := match x, y with
  | .int i, .int j => R (.int (Builtin.bitAnd i j)) st
  | _, _ => False
def dBor (x y : D) (st : Stor) (R : KD) : Prop := match x, y with
  | .int i, .int j => R (.int (Builtin.bitOr i j)) st
  | _, _ => False
section
variable {J : Hid} {X : Cx}
theorem od_shl : OpD J X (binaryOp .LShift) dShl := by
  refine OpR.imp op_shl fun vx vy H Q h => ?_
  obtain ⟨x, y, st, R, rx, ry, S, h, q⟩ := h
  cases x <;> cases y <;> try exact (show False from h).elim
  unfold Rep at rx ry; subst rx ry
  exact ⟨_, _, rfl, rfl, h.1, q _ st _ H h.2 (Ext.refl H) S rep_int⟩
theorem od_shr : OpD J X (binaryOp .RShift) dShr := by
  refine OpR.imp op_shr fun vx vy H Q h => ?_
  obtain ⟨x, y, st, R, rx, ry, S, h, q⟩ := h
  cases x <;> cases y <;> try exact (show False from h).elim
  unfold Rep at rx ry; subst rx ry
  exact ⟨_, _, rfl, rfl, h.1, q _ st _ H h.2 (Ext.refl H) S rep_int⟩
theorem od_band : OpD J X (binaryOp .BitAnd) dBand := by
  refine OpR.imp op_and fun vx vy H Q h => ?_
  obtain ⟨x, y, st, R, rx, ry, S, h, q⟩ := h
  cases x <;> cases y <;> try exact (show False from h).elim
  unfold Rep at rx ry; subst rx ry
  exact ⟨_, _, rfl, rfl, q _ st _ H h (Ext.refl H) S rep_int⟩
theorem od_bor : OpD J X (binaryOp .BitOr) dBor := by
  refine OpR.imp op_or fun vx vy H Q h => ?_
  obtain ⟨x, y, st, R, rx, ry, S, h, q⟩ := h
  cases x <;> cases y <;> try exact (show False from h).elim
  unfold Rep at rx ry; subst rx ry
  exact ⟨_, _, rfl, rfl, q _ st _ H h (Ext.refl H) S rep_int⟩
end
/-! ### naturals -/
theorem and_nat (a b : Nat) : Builtin.bitAnd (a : Int) (b : Int) = ((a &&& b : Nat) : Int) := by
  unfold Builtin.bitAnd
  rw [decide_eq_true (Int.natCast_nonneg a), decide_eq_true (Int.natCast_nonneg b)]
  simp only [Int.toNat_natCast]
theorem or_nat (a b : Nat) : Builtin.bitOr (a : Int) (b : Int) = ((a ||| b : Nat) : Int) := by
  unfold Builtin.bitOr Builtin.bitAnd Builtin.bitNot
  rw [decide_eq_false (by omega), decide_eq_false (by omega)]
  simp only
  have e1 : (-(-(a : Int) - 1) - 1).toNat = a := by omega
  have e2 : (-(-(b : Int) - 1) - 1).toNat = b := by omega
  rw [e1, e2]
  omega
theorem shr_nat (a i : Nat) : (a : Int) / 2 ^ i = ((a >>> i : Nat) : Int) := by
  rw [Nat.shiftRight_eq_div_pow, Int.natCast_ediv, Int.natCast_pow]; rfl
theorem bit_nat (a i : Nat) : (((a >>> i : Nat) &&& 1 : Nat) : Int) = if a.testBit i = true then 1 else 0 := by
  rw [Nat.and_one_is_mod]
  have : a.testBit i = decide (a >>> i % 2 = 1) := by
    unfold Nat.testBit
    rw [Nat.one_and_eq_mod_two]
    rcases Nat.mod_two_eq_zero_or_one (a >>> i) with h | h <;> rw [h] <;> rfl
  rw [this]
  rcases Nat.mod_two_eq_zero_or_one (a >>> i) with h | h <;> rw [h] <;> rfl
/-- the lowest bit -/
theorem low_nat (m : Nat) (h : m ≠ 0) : ∃ k, Builtin.bitAnd (m : Int) (-(m : Int)) = ((2 ^ k : Nat) : Int) ∧ m.testBit k = true := by
  have : ∀ m : Nat, m ≠ 0 → ∃ k a, m = 2 ^ k * (2 * a + 1) := fun m => by
    induction m using Nat.strongRecOn with
    | _ m ih =>
      intro h
      rcases Nat.mod_two_eq_zero_or_one m with e | e
      · obtain ⟨k, a, q⟩ := ih (m / 2) (by omega) (by omega)
        exact ⟨k + 1, a, by rw [Nat.pow_succ, Nat.mul_comm (2 ^ k) 2, Nat.mul_assoc, ← q]; omega⟩
      · exact ⟨0, m / 2, by simp; omega⟩
  obtain ⟨k, a, e⟩ := this m h
  refine ⟨k, ?_, ?_⟩
  · have := PySem.W.kbt_low k (a : Int)
    have e2 : (m : Int) = 2 ^ k * (2 * (a : Int) + 1) := by rw [e]; push_cast; rfl
    rw [e2, this]; push_cast; rfl
  · have : m.testBit k = decide (m / 2 ^ k % 2 = 1) := Nat.testBit_eq_decide_div_mod_eq
    rw [this, e, Nat.mul_div_cancel_left _ (Nat.pow_pos (by decide))]
    simp
section
variable {st : Stor} {R : KD}
@[simp ↓] theorem y_shl {i j : Int} : dShl (.int i) (.int j) st R = (CPow i j ∧ R (.int (i * 2 ^ j.toNat)) st) := rfl
@[simp ↓] theorem y_shr {i j : Int} : dShr (.int i) (.int j) st R = (0 ≤ j ∧ R (.int (i / 2 ^ j.toNat)) st) := rfl
@[simp ↓] theorem y_band {i j : Int} : dBand (.int i) (.int j) st R = R (.int (Builtin.bitAnd i j)) st := rfl
@[simp ↓] theorem y_bor {i j : Int} : dBor (.int i) (.int j) st R = R (.int (Builtin.bitOr i j)) st := rfl
end
/-! ### range with a step -/
def rangeC (lo c : Int) (n : Nat) : List D := (List.range n).map fun i => .int (lo + (i : Nat) * c)
def iRng3D (ta : TAD) : TID D := fun ρ st R => ta ρ st fun ds s1 => match ds with
  | [.int i, .int j, .int c] => ∃ n : Nat, RgC i j c n ∧ R (rangeC i c n) (fun _ => True) s1
  | _ => False
section
variable {J : Hid} {X : Cx} {tg a b c : Expr} {ta : TAD} {pos p : Pos}
theorem wd_rangeC {K : PySem.W.Frag} {H0 : Hp} {lo c : Int} {n : Nat} : WalkD K J YVal H0 (Itc lo c n) (rangeC lo c n) fun _ => True := by
  have hl : (rangeC lo c n).length = n := by simp [rangeC]
  refine ⟨fun i H st hi e0 S hg => ?_, fun H st e0 S hg => ?_, fun i H st v H' hi e0 S hg hy => ?_⟩
  · rw [hl] at hi; exact hi
  · rw [hl]; exact Nat.le_refl _
  · rw [hl] at hi
    obtain ⟨rfl, rfl⟩ := hy
    exact ⟨.int (lo + (i : Nat) * c), by simp [rangeC, hi], Ext.refl _, S, rep_int⟩
theorem id_range3 (hm : X.mg "range" = none) (ha : PAD J X [a, b, c] ta) (hg : Gl X "range" := by rfl) (hs : starEach [a, b, c] X.env = (false, eval a X.env) :: starEach [b, c] X.env := by rfl) (hpl : (backTo pos (starEach [b, c] X.env)).any (·.1) = false := by rfl) : PID J X YVal tg (.Call (.Name "range" p) [a, b, c] [] pos) (iRng3D ta) := by
  refine PI.imp (pi_range3 hg hm ha hs hpl) fun σ H Rv h => ?_
  obtain ⟨ρ, st, R, re, S, h, q⟩ := h
  refine ⟨ρ, st, _, re, S, h, fun ds s1 vs H1 hd e1 S1 rs => ?_⟩
  match ds, hd, rs with
  | [.int i, .int j, .int c], hd, rs =>
    obtain ⟨n, hr, hd⟩ := hd
    have e : vs = [.int i, .int j, .int c] := Reps.ints_inv (ns := [i, j, c]) rs
    exact ⟨i, j, c, n, e, hr, q _ _ s1 _ H1 hd e1 S1 wd_rangeC⟩
end
@[simp ↓] theorem x_rng3 {ρ : Rho} {st : Stor} (ta : TAD) {RI : List D → (Stor → Prop) → Stor → Prop} : iRng3D ta ρ st RI = ta ρ st fun ds s1 => (match ds with
  | [.int i, .int j, .int c] => ∃ n : Nat, RgC i j c n ∧ RI (rangeC i c n) (fun _ => True) s1
  | _ => False) := rfl
theorem rgC2 {j : Int} (h0 : 1 ≤ j) (h : j < 2 ^ 30) : RgC 1 j 2 (j / 2).toNat := by
  refine ⟨by decide, by decide, ?_, ?_⟩
  · unfold Builtin.Range.small Builtin.Range.rangeSize
    simp only [Builtin.Range.rangeFitsLong, Bool.and_eq_true, Bool.or_eq_true, decide_eq_true_eq, beq_iff_eq, show (2 : Int) > 0 by decide, if_true]
    split <;> omega
  · unfold Builtin.Range.rangeSize
    simp
    split <;> omega
end DL
namespace DR
open PySem PySem.Spec PyProof.Rows L2 DL DQ
/-! ### tuples of texts: equal, sorted -/
theorem deqs_st : ∀ a b : List Str, deqs (a.map D.str) (b.map D.str) = decide (a = b)
  | [], [] => by simp
  | [], _ :: _ => by simp
  | _ :: _, [] => by simp
  | x :: a, y :: b => by
    rw [List.map_cons, List.map_cons, deqs_cons, deqs_st a b, deq_str]
    by_cases h1 : x = y <;> by_cases h2 : a = b <;> simp [h1, h2]
theorem deq_st (a b : List Str) : deq (stD a) (stD b) = decide (a = b) := by unfold stD; rw [deq_tup, deqs_st]
theorem any_st (x : List Str) : ∀ ss : List (List Str), ((ss.map stD).any fun z => deq z (stD x)) = decide (x ∈ ss)
  | [] => by simp
  | s :: ss => by
    rw [List.map_cons, List.any_cons, any_st x ss, deq_st]
    by_cases h : s = x
    · subst h; simp
    · simp [h, Ne.symm h]
theorem pure_st (ss : List (List Str)) : pureDs (ss.map stD) = true := by
  rw [pureDs_all, List.all_eq_true]; intro x hx; obtain ⟨i, _, rfl⟩ := List.mem_map.mp hx
  unfold stD pureD; exact pure_strs i
theorem dep_st1 (s : List Str) : depD (stD s) ≤ 1 := by
  unfold stD; rw [depD_tup]
  have : depDs (s.map D.str) ≤ 0 := depDs_le fun d hd => by obtain ⟨s, _, rfl⟩ := List.mem_map.mp hd; simp
  omega
theorem dep_st (ss : List (List Str)) : depDs (ss.map stD) ≤ 1 := depDs_le fun d hd => by
  obtain ⟨s, _, rfl⟩ := List.mem_map.mp hd
  exact dep_st1 s
theorem okd_st (s : List Str) : Okd (stD s) := ⟨by unfold stD pureD; exact pure_strs s, by have := dep_st1 s; omega⟩
theorem toPy_st (s : List Str) : toPy (stD s) = .tuple (s.map fun x => PyData.str x) := by
  unfold stD toPy
  rw [toPys_map, List.map_map]; rfl
theorem leD_st (a b : List Str) : leD (stD a) (stD b) = !PySem.W.listLt b a := by
  unfold leD
  rw [PySem.W.dataLe_eq]
  simp only [cond_false]
  rw [toPy_st, toPy_st]
  congr 1
  exact PySem.W.lexAll_map (α := Str) b a

/-! ### sorted lists, one only -/
theorem tok_le_trans {x y z : D} (h1 : leD x y = true) (h2 : leD y z = true) : leD x z = true := by
  unfold leD at h1 h2 ⊢
  rw [PySem.W.dataLe_eq] at h1 h2 ⊢
  simp only [cond_false, Bool.not_eq_true'] at h1 h2 ⊢
  unfold PySem.W.dataLt at h1 h2 ⊢
  by_cases e1 : PySem.W.keyToks (toPy x) = PySem.W.keyToks (toPy y)
  · rw [e1]; exact h2
  · by_cases e2 : PySem.W.keyToks (toPy y) = PySem.W.keyToks (toPy z)
    · rw [← e2]; exact h1
    · have l1 : PyProof.Rows.lexLt PyProof.Rows.itemOrd (PySem.W.keyToks (toPy x)) (PySem.W.keyToks (toPy y)) = true := by
        cases q : PyProof.Rows.lexLt PyProof.Rows.itemOrd (PySem.W.keyToks (toPy x)) (PySem.W.keyToks (toPy y)) with
        | true => rfl
        | false => exact absurd (PyProof.Rows.lex_total _ _ q h1) e1
      have l2 : PyProof.Rows.lexLt PyProof.Rows.itemOrd (PySem.W.keyToks (toPy y)) (PySem.W.keyToks (toPy z)) = true := by
        cases q : PyProof.Rows.lexLt PyProof.Rows.itemOrd (PySem.W.keyToks (toPy y)) (PySem.W.keyToks (toPy z)) with
        | true => rfl
        | false => exact absurd (PyProof.Rows.lex_total _ _ q h2) e2
      cases q : PyProof.Rows.lexLt PyProof.Rows.itemOrd (PySem.W.keyToks (toPy z)) (PySem.W.keyToks (toPy x)) with
      | false => rfl
      | true =>
        have := PyProof.Rows.lex_trans _ _ _ (PyProof.Rows.lex_trans _ _ _ l1 l2) q
        rw [PyProof.Rows.lex_irrefl] at this
        cases this
theorem tok_le_total (x y : D) : leD x y = true ∨ leD y x = true := by
  unfold leD
  rw [PySem.W.dataLe_eq]
  simp only [cond_false, Bool.not_eq_true']
  unfold PySem.W.dataLt
  cases q : PyProof.Rows.lexLt PyProof.Rows.itemOrd (PySem.W.keyToks (toPy y)) (PySem.W.keyToks (toPy x)) with
  | false => exact .inl rfl
  | true =>
    refine .inr ?_
    cases q2 : PyProof.Rows.lexLt PyProof.Rows.itemOrd (PySem.W.keyToks (toPy x)) (PySem.W.keyToks (toPy y)) with
    | false => rfl
    | true =>
      have := PyProof.Rows.lex_trans _ _ _ q q2
      rw [PyProof.Rows.lex_irrefl] at this
      cases this
theorem sortD_sorted (ds : List D) : (sortD ds).Pairwise fun a b => leD a b = true := by
  unfold sortD
  exact List.pairwise_mergeSort (le := leD) (fun a b c h1 h2 => tok_le_trans h1 h2) (fun a b => by rcases tok_le_total a b with h | h <;> simp [h]) ds
theorem toks_st : ∀ a b : List Str, PySem.W.keyToksAll (a.map PyData.str) = PySem.W.keyToksAll (b.map PyData.str) → a = b
  | [], [], _ => rfl
  | [], y :: b, h => by simp [PySem.W.keyToksAll] at h
  | x :: a, [], h => by simp [PySem.W.keyToksAll] at h
  | x :: a, y :: b, h => by
    simp [PySem.W.keyToksAll, PySem.W.keyToks] at h
    rw [toks_st a b h.2]
    have : x = y := by
      cases x; cases y
      simp at h
      rw [h.1]
    rw [this]
theorem st_antisymm {a b : List Str} (h1 : leD (stD a) (stD b) = true) (h2 : leD (stD b) (stD a) = true) : a = b := by
  unfold leD at h1 h2
  rw [PySem.W.dataLe_eq] at h1 h2
  simp only [cond_false, Bool.not_eq_true'] at h1 h2
  unfold PySem.W.dataLt at h1 h2
  rw [toPy_st, toPy_st] at h1 h2
  have := PyProof.Rows.lex_total _ _ h2 h1
  simp only [PySem.W.keyToks] at this
  exact toks_st a b this
theorem sort_one {l1 l2 : List D} (h : l1.Perm l2) (hs : ∀ d ∈ l1, ∃ a : List Str, d = stD a) (h1 : l1.Pairwise fun a b => leD a b = true) (h2 : l2.Pairwise fun a b => leD a b = true) : l1 = l2 :=
  List.Perm.eq_of_pairwise (le := fun a b => leD a b = true) (fun a b ha hb l r => by
    obtain ⟨x, rfl⟩ := hs a ha
    obtain ⟨y, rfl⟩ := hs b (h.mem_iff.mpr hb)
    rw [st_antisymm l r]) h1 h2 h
theorem perm_pre {α : Type} [DecidableEq α] {f : α → D} : ∀ (l1 : List D) (l2 : List α), l1.Perm (l2.map f) → ∃ l : List α, l1 = l.map f ∧ l.Perm l2
  | [], l2, h => by
    have : l2 = [] := by simpa using h.symm.eq_nil
    subst this
    exact ⟨[], rfl, .nil⟩
  | x :: t, l2, h => by
    have hx : x ∈ l2.map f := h.mem_iff.mp List.mem_cons_self
    obtain ⟨a, ha, rfl⟩ := List.mem_map.mp hx
    have p := List.perm_cons_erase ha
    have q : t.Perm ((l2.erase a).map f) := by
      have := h.trans (p.map f)
      rw [List.map_cons] at this
      exact this.cons_inv
    obtain ⟨l, e, pl⟩ := perm_pre t _ q
    exact ⟨a :: l, by rw [e]; rfl, (pl.cons a).trans p.symm⟩
end DR
-- text DLQ
set_option Elab.async false
set_option linter.all false
set_option maxRecDepth 100000
set_option maxHeartbeats 2000000
/-! DLQ: a dict comprehension put into a local -/
namespace DL
open PySem PySem.Spec PyProof.Rows L2
theorem ps_setDc {X : Cx} {i : Nat} {y : Str} {py : Pos} {kx vx tg iter : Expr} {ifs : List Expr} {scope : Scope} {own : List (Str × Nat)} {pos spos : Pos} {wi : TI} {g : TG} {tt : TT} {tk tv : TE} (hc : X.calm = true) (hN : X.N.Nodup) (hy : X.N[i]? = some y) (hyl : X.env.scope.names.lookup y = some .local)
    (hsw : swapsWith (.DictComp kx vx [⟨tg, iter, ifs, 0⟩] scope pos) (some (.Name y py)) spos.line X.env = pure true) (hi : PI X tg iter wi) (ok : BlkOk X.N X.env.scope scope own)
    (hg : ∀ (s : Shared) (H : Hp) (C : Addr) (cl : List (Str × Addr)) (fp : List Addr), PG (X.blk s H scope (compEnvC scope cl C X.env) fp) tg g) (ht : ∀ (s : Shared) (H : Hp) (C : Addr) (cl : List (Str × Addr)) (fp : List Addr), PTs (X.blk s H scope (compEnvC scope cl C X.env) fp) ifs tt)
    (hk : ∀ (s : Shared) (H : Hp) (C : Addr) (cl : List (Str × Addr)) (fp : List Addr), PE (X.blk s H scope (compEnvC scope cl C X.env) fp) kx tk)
    (he : ∀ (s : Shared) (H : Hp) (C : Addr) (cl : List (Str × Addr)) (fp : List Addr), PE (X.blk s H scope (compEnvC scope cl C X.env) fp) vx tv) (hs : ∀ x, foldedSetIterable iter X.env x = pure x := by intro _; rfl) :
    PS X (.Assign [.Name y py] (.DictComp kx vx [⟨tg, iter, ifs, 0⟩] scope pos) spos) (tAsg (tDc wi g tt tk tv (own.map (·.2))) (gName i)) := by
  refine ⟨fun pins s σ H D I h => ?_⟩
  rw [exec_Assign_Name_used _ _ _ _ hsw]
  refine wpAny_bind (wpAny_standAt (wpAny_bind ?_))
  show wpAny _ X.A (do let _ ← comprehension (.DictComp kx vx [⟨tg, iter, ifs, 0⟩] scope pos) scope X.env (firstIterPos [⟨tg, iter, ifs, 0⟩] pos) newDict false (eval iter X.env) (some (assign (.Name y py) X.env))) _ _ s
  have h : tDc wi g tt tk tv (own.map (·.2)) σ H (fun x H1 => gName i x σ H1 D.nx) := h
  refine wpAny_bind (thn (dc_core (Qf := fun _ s' => SP X pins D .next s') hc hN I hi ok hg ht hk he hs h fun L C s' m H' I' q hn f => ?_) fun _ s' hq => wpAny_pure (wpAny_pure hq))
  show wpAny _ _ (assign (.Name y py) X.env (.ref L)) _ _ _
  refine wpAny_assign_Name (store_ok2 (v := V.ref L) I' hN hy (.inl hyl) rfl (fun s2 I2 ⟨a, sb, ha⟩ => ?_) (.inr hyl))
  obtain ⟨f0, f1, f2, f3, f4, f5⟩ := f
  have haC : C ≠ a := by
    rcases ha with z | z
    · rw [z]; exact f1
    · exact fun e => f4 y a z e.symm
  refine ⟨m, hn.sameBut sb haC, fun h3 sb3 => ?_⟩
  exact ⟨_, H', I2.turned (t' := s2.toks) (fun b o hb e => (sb3.2 b hb).trans e) f0 f1 f3 f4 f5, q⟩
theorem sw_trueD {kx vx : Expr} {gs : List Comprehension} {scope : Scope} {pos py : Pos} {y : Str} {l : Nat} {env : Env} (hk : env.scope.kind = .function) (hy : env.scope.names.lookup y = some .local) (hl : (py.line == pos.line) = true)
    (ha : (scope.names.any fun (n, k) => n == y && (k == .local || k == .cell)) = false) : swapsWith (.DictComp kx vx gs scope pos) (some (.Name y py)) l env = pure true := by
  have ky : env.kindOf y = some .local := hy
  have hb : env.blockKind = .function := by unfold Env.blockKind; rw [hk]; rfl
  unfold swapsWith
  simp only [hb, ky, ha, Expr.pos, hl]
  rfl
section
variable {α : Type} {J : Hid} {X : Cx} {Y : YD α} {kx vx tg iter : Expr} {ifs : List Expr} {scope : Scope} {own : List (Str × Nat)} {pos : Pos} {it : TID α} {tv : TG} {g : α → Rho → Stor → (Rho → Stor → Prop) → Prop} {tt : TTD} {ek ev : TED}
theorem sd_setDc {i : Nat} {y : Str} {py spos : Pos} (hc : X.calm = true) (hN : X.N.Nodup) (hi : PID J X Y tg iter it) (ok : BlkOk X.N X.env.scope scope own) (tgk : TgOk X.K Y (own.map (·.2)) tv g)
    (hg : ∀ (s : Shared) (H : Hp) (C : Addr) (cl : List (Str × Addr)) (fp : List Addr), PG (X.blk s H scope (compEnvC scope cl C X.env) fp) tg tv) (ht : ∀ (s : Shared) (H : Hp) (C : Addr) (cl : List (Str × Addr)) (fp : List Addr), PTsD J (X.blk s H scope (compEnvC scope cl C X.env) fp) ifs tt)
    (hk : ∀ (s : Shared) (H : Hp) (C : Addr) (cl : List (Str × Addr)) (fp : List Addr), PED J (X.blk s H scope (compEnvC scope cl C X.env) fp) kx ek)
    (he : ∀ (s : Shared) (H : Hp) (C : Addr) (cl : List (Str × Addr)) (fp : List Addr), PED J (X.blk s H scope (compEnvC scope cl C X.env) fp) vx ev)
    (hsw : swapsWith (.DictComp kx vx [⟨tg, iter, ifs, 0⟩] scope pos) (some (.Name y py)) spos.line X.env = pure true)
    (hy : X.N[i]? = some y := by rfl) (hyl : X.env.scope.names.lookup y = some .local := by rfl) (hs : ∀ x, foldedSetIterable iter X.env x = pure x := by intro _; rfl) :
    PSD J X (.Assign [.Name y py] (.DictComp kx vx [⟨tg, iter, ifs, 0⟩] scope pos) spos) (sAsgD (tDcD it g tt ek ev (own.map (·.2))) (gNameD i)) := by
  refine PS.imp (ps_setDc (i := i) (tt := upT X.K J tt) (tk := upE X.K J ek) (tv := upE X.K J ev) hc hN hy hyl hsw hi ok hg (fun s H C cl fp => (ht s H C cl fp).h) (fun s H C cl fp => hk s H C cl fp) (fun s H C cl fp => he s H C cl fp) hs) fun D σ H h => ?_
  obtain ⟨ρ, st, E, re, S, h, q⟩ := h
  show tDc _ _ _ _ _ _ σ H _
  refine up_dc tgk ⟨ρ, st, _, re, S, h, fun d s1 v H1 hd e1 S1 rd => ?_⟩
  exact q.nx _ s1 _ H1 hd e1 S1 ((re.ext e1).set rd i)
end
end DL
-- text DLV
set_option Elab.async false
set_option linter.all false
set_option maxRecDepth 100000
set_option maxHeartbeats 2000000
/-! DLV: max and min of two texts; d.setdefault(k, v); the values of a dict, the dict being walked -/
namespace DL
open PySem PySem.Spec PyProof.Rows L2
/-! ### max, min of texts -/
def stO : Value → Str
  | .str x _ => x
  | _ => Str.empty
def stLt (x y : Str) : Bool := decide (x.cps.toList < y.cps.toList)
section
variable {prog : Program} {w : World} {A : Around} {E : Value → Shared → Prop} {s : Shared} {Q : Value → Shared → Prop} {x y : Str} {t u : Tok}
theorem cmpS_gt (vs : Array Value) (hn : ∀ v ∈ vs, ∃ x t, v = Value.str x t) :
    CmpOf prog w A .Gt (fun i v => vs[i]? = some v) (fun i j => stLt (stO (vs.getD j .none)) (stO (vs.getD i .none))) := fun i j vi vj s Q E hi hj h => by
  have e1 : vs.getD i .none = vi := by simp [Array.getD_eq_getD_getElem?, hi]
  have e2 : vs.getD j .none = vj := by simp [Array.getD_eq_getD_getElem?, hj]
  simp only [e1, e2] at h
  obtain ⟨a, t, rfl⟩ := hn _ (Array.mem_of_getElem? hi)
  obtain ⟨b, u, rfl⟩ := hn _ (Array.mem_of_getElem? hj)
  exact PySem.P.gt_str h
theorem cmpS_lt (vs : Array Value) (hn : ∀ v ∈ vs, ∃ x t, v = Value.str x t) :
    CmpOf prog w A .Lt (fun i v => vs[i]? = some v) (fun i j => stLt (stO (vs.getD i .none)) (stO (vs.getD j .none))) := fun i j vi vj s Q E hi hj h => by
  have e1 : vs.getD i .none = vi := by simp [Array.getD_eq_getD_getElem?, hi]
  have e2 : vs.getD j .none = vj := by simp [Array.getD_eq_getD_getElem?, hj]
  simp only [e1, e2] at h
  obtain ⟨a, t, rfl⟩ := hn _ (Array.mem_of_getElem? hi)
  obtain ⟨b, u, rfl⟩ := hn _ (Array.mem_of_getElem? hj)
  exact lt_str h
theorem max_two_strs (hh : A.handled = none)
    (h : ∀ h' tk, (∀ c o, s.heap.get? c = some o → h'.get? c = some o) → Q (if stLt x y = true then .str y u else .str x t) { s with heap := h', toks := tk }) :
    wpAny (model prog w) A (call (.builtin "max") [.str x t, .str y u]) Q E s := by
  have hT : (s.heap.push { cls := .type "tuple", data := .seq #[.str x t, .str y u] }).IsTuple s.heap.objs.size #[.str x t, .str y u] := ⟨_, Heap.get?_push_size _ rfl, rfl, 0, rfl⟩
  refine call_max_two (wpAny_pyIter_tuple hT ?_)
  have hsz : (s.heap.push { cls := .type "tuple", data := .seq #[.str x t, .str y u] }).objs.size = s.heap.objs.size + 1 := Heap.size_push ..
  refine ⟨_, [_, s.heap.objs.size], [_], _, _, _, _, rfl, Walks.tuple (A := A.in1) hh _ s.heap.objs.size (by rw [hsz]; exact Nat.ne_of_lt (Nat.lt_succ_self _)) #[.str x t, .str y u],
    ⟨⟨_, Heap.get?_push_size _ rfl, rfl, rfl⟩, hT.push _⟩, fun c hc => ?_, by simp, cmpS_gt #[.str x t, .str y u] (by simp), fun v h' tk hP hk => ?_⟩
  · show c < ((s.heap.push _).push _).objs.size
    rw [Heap.size_push, hsz]
    rcases List.mem_cons.mp hc with rfl | hc
    · rw [hsz]; exact Nat.lt_succ_self _
    · rcases List.mem_cons.mp hc with rfl | hc
      · exact Nat.lt_succ_of_lt (Nat.lt_succ_self _)
      · cases hc
  · have hold : ∀ c o, s.heap.get? c = some o → h'.get? c = some o := fun c o e => by
      refine hk c o (fun hm => ?_) (Heap.get?_push_of_some _ (Heap.get?_push_of_some _ e))
      rcases List.mem_cons.mp hm with e1 | hm
      · have := Heap.lt_size e; rw [e1, hsz] at this; exact Nat.lt_irrefl _ (Nat.lt_of_succ_lt this)
      · cases hm
    have := h h' tk hold
    have hv : v = if stLt x y = true then .str y u else .str x t := by
      cases hc : stLt x y <;> simp [argBest, hc, stO] at hP <;> simp [hP]
    rw [hv]; exact this
theorem min_two_strs (hh : A.handled = none)
    (h : ∀ h' tk, (∀ c o, s.heap.get? c = some o → h'.get? c = some o) → Q (if stLt y x = true then .str y u else .str x t) { s with heap := h', toks := tk }) :
    wpAny (model prog w) A (call (.builtin "min") [.str x t, .str y u]) Q E s := by
  have hT : (s.heap.push { cls := .type "tuple", data := .seq #[.str x t, .str y u] }).IsTuple s.heap.objs.size #[.str x t, .str y u] := ⟨_, Heap.get?_push_size _ rfl, rfl, 0, rfl⟩
  refine call_min_two (wpAny_pyIter_tuple hT ?_)
  have hsz : (s.heap.push { cls := .type "tuple", data := .seq #[.str x t, .str y u] }).objs.size = s.heap.objs.size + 1 := Heap.size_push ..
  refine ⟨_, [_, s.heap.objs.size], [_], _, _, _, _, rfl, Walks.tuple (A := A.in1) hh _ s.heap.objs.size (by rw [hsz]; exact Nat.ne_of_lt (Nat.lt_succ_self _)) #[.str x t, .str y u],
    ⟨⟨_, Heap.get?_push_size _ rfl, rfl, rfl⟩, hT.push _⟩, fun c hc => ?_, by simp, cmpS_lt #[.str x t, .str y u] (by simp), fun v h' tk hP hk => ?_⟩
  · show c < ((s.heap.push _).push _).objs.size
    rw [Heap.size_push, hsz]
    rcases List.mem_cons.mp hc with rfl | hc
    · rw [hsz]; exact Nat.lt_succ_self _
    · rcases List.mem_cons.mp hc with rfl | hc
      · exact Nat.lt_succ_of_lt (Nat.lt_succ_self _)
      · cases hc
  · have hold : ∀ c o, s.heap.get? c = some o → h'.get? c = some o := fun c o e => by
      refine hk c o (fun hm => ?_) (Heap.get?_push_of_some _ (Heap.get?_push_of_some _ e))
      rcases List.mem_cons.mp hm with e1 | hm
      · have := Heap.lt_size e; rw [e1, hsz] at this; exact Nat.lt_irrefl _ (Nat.lt_of_succ_lt this)
      · cases hm
    have := h h' tk hold
    have hv : v = if stLt y x = true then .str y u else .str x t := by
      cases hc : stLt y x <;> simp [argBest, hc, stO] at hP <;> simp [hP]
    rw [hv]; exact this
end
def dMax2X (ds : List D) (st : Stor) (R : KD) : Prop := match ds with
  | [.int i, .int j] => R (.int (if j > i then j else i)) st
  | [.str x, .str y] => R (.str (if stLt x y = true then y else x)) st
  | _ => False
def dMin2X (ds : List D) (st : Stor) (R : KD) : Prop := match ds with
  | [.int i, .int j] => R (.int (if j < i then j else i)) st
  | [.str x, .str y] => R (.str (if stLt y x = true then y else x)) st
  | _ => False
section
variable {J : Hid} {X : Cx} {e : Expr} {es : List Expr} {t : TAD} {p pos : Pos}
theorem reps_2 {K : PySem.W.Frag} {H : Hp} {a b : D} {vs : List V} (r : Reps K H [a, b] vs) : ∃ u v, vs = [u, v] ∧ Rep K H a u ∧ Rep K H b v := by
  obtain ⟨u, r1, rfl, h1, h2⟩ := r.inv
  obtain ⟨v, r2, rfl, h3, h4⟩ := h2.inv
  rw [h4.inv_nil]
  exact ⟨u, v, rfl, h1, h3⟩
theorem cd_max2X (hc : X.calm = true) : CallD J X (.builtin "max") dMax2X := by
  intro pins s σ H xs us Q I r h
  obtain ⟨ds, st, R, rs, S, h, q⟩ := h
  match ds, h, rs with
  | [.int i, .int j], h, rs => exact cd_max2 hc pins s σ H xs us Q I r ⟨_, st, R, rs, S, h, q⟩
  | [.str x, .str y], h, rs =>
    obtain ⟨a, b, rfl, ra, rb⟩ := reps_2 rs
    have ra' := ra
    have rb' := rb
    unfold Rep at ra rb
    obtain ⟨rfl, _⟩ := ra
    obtain ⟨rfl, _⟩ := rb
    obtain ⟨u, w', rfl, ⟨t, rfl⟩, ⟨t', rfl⟩⟩ := vals2 r
    refine max_two_strs (I.ok.hd hc) fun h' tk k => ⟨.str (if stLt x y = true then y else x), H, I.kept k, ?_, q _ st _ H h (Ext.refl H) S ?_⟩
    · by_cases hj : stLt x y = true
      · rw [if_pos hj, if_pos hj]; exact ⟨_, rfl⟩
      · rw [if_neg hj, if_neg hj]; exact ⟨_, rfl⟩
    · by_cases hj : stLt x y = true
      · rw [if_pos hj]; exact rb'
      · rw [if_neg hj]; exact ra'
theorem cd_min2X (hc : X.calm = true) : CallD J X (.builtin "min") dMin2X := by
  intro pins s σ H xs us Q I r h
  obtain ⟨ds, st, R, rs, S, h, q⟩ := h
  match ds, h, rs with
  | [.int i, .int j], h, rs => exact cd_min2 hc pins s σ H xs us Q I r ⟨_, st, R, rs, S, h, q⟩
  | [.str x, .str y], h, rs =>
    obtain ⟨a, b, rfl, ra, rb⟩ := reps_2 rs
    have ra' := ra
    have rb' := rb
    unfold Rep at ra rb
    obtain ⟨rfl, _⟩ := ra
    obtain ⟨rfl, _⟩ := rb
    obtain ⟨u, w', rfl, ⟨t, rfl⟩, ⟨t', rfl⟩⟩ := vals2 r
    refine min_two_strs (I.ok.hd hc) fun h' tk k => ⟨.str (if stLt y x = true then y else x), H, I.kept k, ?_, q _ st _ H h (Ext.refl H) S ?_⟩
    · by_cases hj : stLt y x = true
      · rw [if_pos hj, if_pos hj]; exact ⟨_, rfl⟩
      · rw [if_neg hj, if_neg hj]; exact ⟨_, rfl⟩
    · by_cases hj : stLt y x = true
      · rw [if_pos hj]; exact rb'
      · rw [if_neg hj]; exact ra'
theorem ed_max2X (m : NoG X.mg) (hc : X.calm = true) (ha : PAD J X (e :: es) t) (hg : Gl X "max" := by rfl) (he : starEach (e :: es) X.env = (false, eval e X.env) :: starEach es X.env := by rfl) (hpl : (backTo pos (starEach es X.env)).any (·.1) = false := by rfl) : PED J X (.Call (.Name "max" p) (e :: es) [] pos) (tCallD dMax2X t) :=
  ed_bltn (cd_max2X hc) m.max bt_max ha hg (by decide) (by decide) he hpl
theorem ed_min2X (m : NoG X.mg) (hc : X.calm = true) (ha : PAD J X (e :: es) t) (hg : Gl X "min" := by rfl) (he : starEach (e :: es) X.env = (false, eval e X.env) :: starEach es X.env := by rfl) (hpl : (backTo pos (starEach es X.env)).any (·.1) = false := by rfl) : PED J X (.Call (.Name "min" p) (e :: es) [] pos) (tCallD dMin2X t) :=
  ed_bltn (cd_min2X hc) m.min bt_min ha hg (by decide) (by decide) he hpl
end
/-! ### d.setdefault(k, v) -/
def tSetdD (td ty tx : TED) : TED := fun ρ st R => td ρ st fun x s1 => match x with
  | .ref a => (∃ kvs, s1 a = some (.dic kvs)) ∧ ty ρ s1 fun y s2 => tx ρ s2 fun z s3 => ∃ kvs k, s3 a = some (.dic kvs) ∧ keyD y = some k ∧ kvs.length < sizeLine ∧ (∀ v, valD kvs k = some v → R v s3) ∧ (valD kvs k = none → R z (put s3 a (.dic (putD kvs k z))))
  | _ => False
section
variable {J : Hid} {X : Cx} {o e f : Expr} {to te tf : TED} {apos cpos : Pos}
theorem ed_setd (ho : PED J X o to) (he : PED J X e te) (hf : PED J X f tf) (m : M2 X o "setdefault" apos e f cpos := by exact ⟨rfl, rfl, rfl, rfl⟩) : PED J X (.Call (.Attribute o "setdefault" apos) [e, f] [] cpos) (tSetdD to te tf) := by
  refine PE.imp (pe_dsetd ho he hf m) fun σ H Q h => ?_
  obtain ⟨ρ, st, R, re, S, h, q⟩ := h
  refine ⟨ρ, st, _, re, S, h, fun x s1 vx H1 hx e1 S1 rx => ?_⟩
  cases x <;> try exact (show False from hx).elim
  rename_i a
  obtain ⟨⟨kvs0, hd0⟩, hx⟩ := hx
  unfold Rep at rx
  subst rx
  obtain ⟨ws0, h0, _⟩ := S1.dic hd0
  refine ⟨a, rfl, .inl ⟨ws0, .of h0⟩, ρ, s1, _, re.ext e1, S1, hx, fun y s2 vy H2 hy e2 S2 ry => ?_⟩
  refine ⟨ρ, s2, _, (re.ext e1).ext e2, S2, hy, fun z s3 vz H3 hz e3 S3 rz => ?_⟩
  obtain ⟨kvs, k, hd, hk, hl, h1, h2⟩ := hz
  obtain ⟨ws, hw, rw_⟩ := S3.dic hd
  refine ⟨ws, k, hw, key_rep hk (Rep.ext e3 _ _ ry), by rw [← repKV_len rw_]; exact hl, fun v hv => ?_, fun hn => ?_⟩
  · rcases repKV_val rw_ k with ⟨d, w, a1, a2, a3⟩ | ⟨_, a2⟩
    · rw [hv] at a2
      cases a2
      exact q d s3 _ H3 (h1 d a1) (e1.trans (e2.trans e3)) S3 a3
    · rw [hv] at a2; cases a2
  · rcases repKV_val rw_ k with ⟨d, w, a1, a2, a3⟩ | ⟨a1, _⟩
    · rw [hn] at a2; cases a2
    · exact q z _ _ _ (h2 a1) ((e1.trans (e2.trans e3)).trans (Ext.dK hw)) (S3.setK hd hw (repKV_put rw_ rz)) (Rep.ext (Ext.dK hw) _ _ rz)
end
/-! ### the values of a dict -/
def iValsD (td : TED) : TID D := fun ρ st R => td ρ st fun x s1 => match x with
  | .ref a => ∃ kvs, s1 a = some (.fzd kvs) ∧ R (kvs.map (·.2)) (fun _ => True) s1
  | _ => False
theorem repKV_get {K : PySem.W.Frag} {H : Hp} {ks : List (Key × D)} {ws : List (Key × V)} (r : RepKV K H ks ws) : ∀ {i : Nat} {k : Key} {v : V}, ws[i]? = some (k, v) → ∃ d, (ks.map (·.2))[i]? = some d ∧ Rep K H d v := by
  induction r with
  | nil => intro i k v h; simp at h
  | cons h t ih =>
    rename_i p q l1 l2
    intro i k v e
    cases i with
    | zero =>
      have : q = (k, v) := by simpa using e
      subst this
      exact ⟨p.2, by simp, h.2⟩
    | succ i =>
      obtain ⟨d, h1, h2⟩ := ih (i := i) (by simpa using e)
      exact ⟨d, by simpa using h1, h2⟩
theorem wd_vals {K : PySem.W.Frag} {J : Hid} {H0 : Hp} {d : Addr} {o : Obj} {kvs : List (Key × D)} {ws : List (Key × V)} (h : H0 d = some (.frz o (.dK ws))) (r : RepKV K H0 kvs ws) : WalkD K J YVal H0 (Itd d o ws) (kvs.map (·.2)) fun _ => True := by
  have hl : (kvs.map (·.2)).length = ws.length := by rw [List.length_map, repKV_len r]
  refine ⟨fun i H st hi e0 S hg => ?_, fun H st e0 S hg => ?_, fun i H st v H' hi e0 S hg hy => ?_⟩
  · exact walk_values.goes i H (by rw [← hl]; exact hi) (e0 _ _ _ h)
  · rw [hl]; exact walk_values.stops H (e0 _ _ _ h)
  · obtain ⟨rfl, k, hk⟩ := walk_values.yields i H v H' (by rw [← hl]; exact hi) (e0 _ _ _ h) hy
    obtain ⟨x, h1, h2⟩ := repKV_get r hk
    exact ⟨x, h1, Ext.refl _, S, Rep.ext e0 _ _ h2⟩
section
variable {J : Hid} {X : Cx} {tg e : Expr} {td : TED} {apos cpos : Pos}
theorem id_vals (he : PED J X e td) (hbase : attributeBase e "values" X.env (eval e X.env) = eval e X.env := by rfl) (hline : (apos.endLine == cpos.line) = true := by rfl) : PID J X YVal tg (.Call (.Attribute e "values" apos) [] [] cpos) (iValsD td) := by
  refine PI.imp (pi_values he hbase hline) fun σ H Rv h => ?_
  obtain ⟨ρ, st, R, re, S, h, q⟩ := h
  refine ⟨ρ, st, _, re, S, h, fun x s1 vx H1 hx e1 S1 rx => ?_⟩
  cases x <;> try exact (show False from hx).elim
  obtain ⟨kvs, hd, hx⟩ := hx
  unfold Rep at rx
  subst rx
  obtain ⟨ws, o, hw, r⟩ := S1.cell _ _ hd
  exact ⟨_, o, ws, rfl, hw, q _ _ s1 _ H1 hx e1 S1 (wd_vals hw r)⟩
end
/-! ### an expression that walks a dict -/
def tLockD (t : TED) : TED := fun ρ st R => ∃ d kvs, st d = some (.dic kvs) ∧ t ρ (put st d (.fzd kvs)) fun v s' => s' d = some (.fzd kvs) ∧ R v (put s' d (.dic kvs))
def Hid.as (J : Hid) (H0 : Hp) (h : J.ok H0) : Hid := ⟨fun H => ∀ a, J.at_ a → H a = H0 a, J.at_, fun H a ok z => by rw [ok a z]; exact J.live H0 a h z, fun H H' ok _ k a z => (k a z).trans (ok a z)⟩
section
variable {K : PySem.W.Frag} {H : Hp} {d : Addr} {od : Obj} {ws : List (Key × V)}
theorem unl {a : Addr} {o : Obj} {u : HO} (h : H d = some (.frz od (.dK ws))) (e : H a = some (.frz o u)) (n : ∀ ws, u ≠ .dK ws) : upd H d (.dK ws) a = some (.frz o u) := by
  rw [upd_ne fun z => ?_]
  · exact e
  · subst z
    rw [h] at e
    cases e
    exact n _ rfl
mutual
theorem Rep.unl (h : H d = some (.frz od (.dK ws))) : ∀ (x : D) (v : V), Rep K H x v → Rep K (upd H d (.dK ws)) x v
  | .non, _, h => h
  | .bl _, _, h => h
  | .int _, _, h => h
  | .str _, _, h => h
  | .tup ds, _, r => by
    unfold Rep at r ⊢
    obtain ⟨a, vs, e, s, r⟩ := r
    refine ⟨a, vs, e, ?_, Reps.unl h ds vs r⟩
    rcases s with ⟨ob, dd, s⟩ | s
    · exact .inl ⟨ob, dd, DL.unl h s fun _ z => by cases z⟩
    · exact .inr s
  | .ref _, _, h => h
  | .ro ds, _, r => by
    unfold Rep at r ⊢
    obtain ⟨a, vs, e, s, r⟩ := r
    refine ⟨a, vs, e, ?_, Reps.unl h ds vs r⟩
    rcases s with ⟨ob, s⟩ | s
    · exact .inl ⟨ob, DL.unl h s fun _ z => by cases z⟩
    · exact .inr s
theorem Reps.unl (h : H d = some (.frz od (.dK ws))) : ∀ (ds : List D) (vs : List V), Reps K H ds vs → Reps K (upd H d (.dK ws)) ds vs
  | [], _, h => h
  | x :: ds, _, r => by
    unfold Reps at r ⊢
    obtain ⟨v, r', e, h1, h2⟩ := r
    exact ⟨v, r', e, Rep.unl h x v h1, Reps.unl h ds r' h2⟩
end
theorem RepKV.unl (h : H d = some (.frz od (.dK ws))) {ks : List (Key × D)} {us : List (Key × V)} (r : RepKV K H ks us) : RepKV K (upd H d (.dK ws)) ks us :=
  Paired.mapP r fun _ _ q => ⟨q.1, Rep.unl h _ _ q.2⟩
theorem CellOk.unl (h : H d = Option.some (.frz od (.dK ws))) {a : Addr} {c : Cell} (ne : a ≠ d) (k : CellOk K H a c) : CellOk K (upd H d (.dK ws)) a c := by
  cases c with
  | lst xs => obtain ⟨vs, h1, h2⟩ := k; exact ⟨vs, by rw [upd_ne ne]; exact h1, Reps.unl h _ _ h2⟩
  | fz xs => obtain ⟨vs, o, h1, h2⟩ := k; exact ⟨vs, o, by rw [upd_ne ne]; exact h1, Reps.unl h _ _ h2⟩
  | dic kvs => obtain ⟨vs, h1, h2⟩ := k; exact ⟨vs, by rw [upd_ne ne]; exact h1, h2.unl h⟩
  | fzd kvs => obtain ⟨vs, o, h1, h2⟩ := k; exact ⟨vs, o, by rw [upd_ne ne]; exact h1, h2.unl h⟩
end
theorem ed_lock {J : Hid} {X : Cx} {e : Expr} {t : TED} (h : ∀ J', PED J' X e t) : PED J X e (tLockD t) := by
  refine ⟨fun pins s σ H Q I hw => ?_⟩
  obtain ⟨ρ, st, R, re, S, ⟨d, kvs, hd, ht⟩, q⟩ := hw
  obtain ⟨ws, hH, r⟩ := S.dic hd
  have nj : ¬ J.at_ d := fun z => by rw [S.sep d z] at hd; cases hd
  have ne : ∀ a, J.at_ a → a ≠ d := fun a z e => nj (e ▸ z)
  refine (pe_lock (h (J.as H S.hid))).run pins s σ H Q I ⟨d, .dK ws, hH, True.intro, fun od => ?_⟩
  have e0 : Ext H (upd H d (.frz od (.dK ws))) := Ext.dK hH
  refine ⟨ρ, put st d (.fzd kvs), _, re.ext e0, ⟨fun a c e => ?_, fun a z => upd_ne (ne a z), fun a z => by rw [put_ne (ne a z)]; exact S.sep a z⟩, ht, fun v s1 V H1 hv e1 S1 rv => ?_⟩
  · by_cases hne : a = d
    · subst hne
      rw [put_same] at e
      cases e
      exact ⟨ws, od, upd_same, r.ext e0⟩
    · rw [put_ne hne] at e
      exact (S.cell a c e).ext e0 (upd_ne hne)
  · obtain ⟨hs1, hv⟩ := hv
    have hl : H1 d = some (.frz od (.dK ws)) := e1 _ _ _ upd_same
    obtain ⟨ws', o', hl', r'⟩ := S1.cell d _ hs1
    rw [hl] at hl'
    cases hl'
    have ex : Ext H (upd H1 d (.dK ws)) := fun a o u e => by
      have na : a ≠ d := fun z => by subst z; rw [hH] at e; cases e
      rw [upd_ne na]
      exact e1 _ _ _ (e0 _ _ _ e)
    refine ⟨hl, q v _ V _ hv ex ⟨fun a c e => ?_, J.keep _ _ S.hid ex fun a z => ?_, fun a z => ?_⟩ (Rep.unl hl _ _ rv)⟩
    · by_cases hne : a = d
      · subst hne
        rw [put_same] at e
        cases e
        exact ⟨ws, upd_same, r'.unl hl⟩
      · rw [put_ne hne] at e
        exact (S1.cell a c e).unl hl hne
    · rw [upd_ne (ne a z)]
      exact S1.hid a z
    · rw [put_ne (ne a z)]
      exact S1.sep a z
section
variable {ρ : Rho} {st : Stor} {R : KD}
@[simp ↓] theorem x_setd (td ty tx : TED) : tSetdD td ty tx ρ st R = td ρ st fun x s1 => (match x with
  | .ref a => (∃ kvs, s1 a = some (.dic kvs)) ∧ ty ρ s1 fun y s2 => tx ρ s2 fun z s3 => ∃ kvs k, s3 a = some (.dic kvs) ∧ keyD y = some k ∧ kvs.length < sizeLine ∧ (∀ v, valD kvs k = some v → R v s3) ∧ (valD kvs k = none → R z (put s3 a (.dic (putD kvs k z))))
  | _ => False) := rfl
@[simp ↓] theorem x_vals (td : TED) {RI : List D → (Stor → Prop) → Stor → Prop} : iValsD td ρ st RI = td ρ st fun x s1 => (match x with
  | .ref a => ∃ kvs, s1 a = some (.fzd kvs) ∧ RI (kvs.map (·.2)) (fun _ => True) s1
  | _ => False) := rfl
@[simp ↓] theorem x_lock (t : TED) : tLockD t ρ st R = ∃ d kvs, st d = some (.dic kvs) ∧ t ρ (put st d (.fzd kvs)) fun v s' => s' d = some (.fzd kvs) ∧ R v (put s' d (.dic kvs)) := rfl
@[simp ↓] theorem y_max2XI {i j : Int} : dMax2X [.int i, .int j] st R = R (.int (if j > i then j else i)) st := rfl
@[simp ↓] theorem y_min2XI {i j : Int} : dMin2X [.int i, .int j] st R = R (.int (if j < i then j else i)) st := rfl
@[simp ↓] theorem y_max2XS {x y : Str} : dMax2X [.str x, .str y] st R = R (.str (if stLt x y = true then y else x)) st := rfl
@[simp ↓] theorem y_min2XS {x y : Str} : dMin2X [.str x, .str y] st R = R (.str (if stLt y x = true then y else x)) st := rfl
end
/-! ### any, all of a list of bools -/
def dAll (ds : List D) (st : Stor) (R : KD) : Prop := match ds with
  | [.ref a] => ∃ bs : List Bool, getL st a = some (bs.map .bl) ∧ R (.bl (bs.all id)) st
  | _ => False
def dAny (ds : List D) (st : Stor) (R : KD) : Prop := match ds with
  | [.ref a] => ∃ bs : List Bool, getL st a = some (bs.map .bl) ∧ R (.bl (bs.any id)) st
  | _ => False
theorem reps_bls {K : PySem.W.Frag} {H : Hp} : ∀ {bs : List Bool} {vs : List V}, Reps K H (bs.map D.bl) vs → vs = bs.map V.bl
  | [], _, h => h.inv_nil
  | b :: bs, _, h => by
    obtain ⟨v, r, rfl, h1, h2⟩ := h.inv
    unfold Rep at h1
    rw [h1, reps_bls h2]
    rfl
section
variable {J : Hid} {X : Cx} {e : Expr} {es : List Expr} {t : TAD} {p pos : Pos}
theorem cd_all (hc : X.calm = true) : CallD J X (.builtin "all") dAll := by
  refine CallR.imp (cr_all hc) fun vs H Q h => ?_
  obtain ⟨ds, st, R, rs, S, h, q⟩ := h
  match ds, h, rs with
  | [.ref a], h, rs =>
    obtain ⟨v, rfl, r⟩ := reps1 rs
    unfold Rep at r
    subst r
    obtain ⟨bs, hg, h⟩ := h
    obtain ⟨ws, t, r⟩ := S.getL hg
    rw [reps_bls r] at t
    exact ⟨_, bs, rfl, t, q _ st _ H h (Ext.refl H) S rep_bl⟩
theorem cd_any (hc : X.calm = true) : CallD J X (.builtin "any") dAny := by
  refine CallR.imp (cr_any hc) fun vs H Q h => ?_
  obtain ⟨ds, st, R, rs, S, h, q⟩ := h
  match ds, h, rs with
  | [.ref a], h, rs =>
    obtain ⟨v, rfl, r⟩ := reps1 rs
    unfold Rep at r
    subst r
    obtain ⟨bs, hg, h⟩ := h
    obtain ⟨ws, t, r⟩ := S.getL hg
    rw [reps_bls r] at t
    exact ⟨_, bs, rfl, t, q _ st _ H h (Ext.refl H) S rep_bl⟩
theorem bt_all : bootBuiltins "all" = some (.builtin "all") := by decide +kernel
theorem bt_any : bootBuiltins "any" = some (.builtin "any") := by decide +kernel
theorem ed_allD (m : NoG X.mg) (hc : X.calm = true) (ha : PAD J X (e :: es) t) (hg : Gl X "all" := by rfl) (he : starEach (e :: es) X.env = (false, eval e X.env) :: starEach es X.env := by rfl) (hpl : (backTo pos (starEach es X.env)).any (·.1) = false := by rfl) : PED J X (.Call (.Name "all" p) (e :: es) [] pos) (tCallD dAll t) :=
  ed_bltn (cd_all hc) m.all bt_all ha hg (by decide) (by decide) he hpl
theorem ed_anyD (m : NoG X.mg) (hc : X.calm = true) (ha : PAD J X (e :: es) t) (hg : Gl X "any" := by rfl) (he : starEach (e :: es) X.env = (false, eval e X.env) :: starEach es X.env := by rfl) (hpl : (backTo pos (starEach es X.env)).any (·.1) = false := by rfl) : PED J X (.Call (.Name "any" p) (e :: es) [] pos) (tCallD dAny t) :=
  ed_bltn (cd_any hc) m.any bt_any ha hg (by decide) (by decide) he hpl
end
theorem z_all {a : Addr} {bs : List Bool} {st : Stor} {R : KD} (g : getL st a = some (bs.map .bl)) : dAll [.ref a] st R = R (.bl (bs.all id)) st := by
  show (∃ _, _) = _
  refine propext ⟨fun ⟨cs, h1, h2⟩ => ?_, fun h => ⟨bs, g, h⟩⟩
  rw [g] at h1
  have e : bs = cs := by
    have := congrArg (Option.map (List.map fun d => match d with | D.bl b => b | _ => false)) h1
    simpa [Function.comp_def] using this
  rw [e]; exact h2
end DL
-- text DSM
set_option Elab.async false
set_option linter.all false
set_option maxRecDepth 100000
set_option maxHeartbeats 2000000
set_option exponentiation.threshold 10000
/-! DSM: names and numbers drawn, style B; two things told alike -/
namespace DR
open PySem PySem.Spec PyProof.Rows L2 DL DQ
theorem nodup_le {α : Type} [DecidableEq α] : ∀ (l m : List α), l.Nodup → (∀ x ∈ l, x ∈ m) → l.length ≤ m.length
  | [], _, _, _ => Nat.zero_le _
  | x :: l, m, hn, hs => by
    have hx := hs x List.mem_cons_self
    have hn' := List.nodup_cons.mp hn
    have := nodup_le l (m.erase x) hn'.2 fun y hy => (List.mem_erase_of_ne (fun z => by subst z; exact hn'.1 hy)).mpr (hs y (List.mem_cons_of_mem _ hy))
    rw [List.length_erase_of_mem hx] at this
    have := List.length_pos_of_mem hx
    simp; omega
theorem str_inj {a b : Str} (h : a.cps.toList = b.cps.toList) : a = b := by
  cases a; cases b
  simp only at h
  congr
  exact Array.toList_inj.mp h
theorem str_cancel {a b c : Str} (h : a ++ b = a ++ c) : b = c := by
  have e : (a ++ b).cps.toList = (a ++ c).cps.toList := by rw [h]
  have e1 : (a ++ b).cps.toList = a.cps.toList ++ b.cps.toList := TL.tl_append a b
  have e2 : (a ++ c).cps.toList = a.cps.toList ++ c.cps.toList := TL.tl_append a c
  rw [e1, e2] at e
  exact str_inj (List.append_cancel_left e)
theorem names_full {acc : List Str} {pre : Str} {m : Nat} (h : ∀ j, j < m → pre ++ natS j ∈ acc) : m ≤ acc.length := by
  have := nodup_le ((List.range m).map fun j => pre ++ natS j) acc ?_ fun x hx => ?_
  · simpa using this
  · refine List.pairwise_map.mpr (List.Pairwise.imp (fun {a b} hab z => ?_) List.nodup_range)
    exact hab (natS_inj (str_cancel z))
  · obtain ⟨j, hj, rfl⟩ := List.mem_map.mp hx
    exact h j (List.mem_range.mp hj)
theorem put_comm {st : Stor} {a b : Addr} {c d : Cell} (h : a ≠ b) : put (put st a c) b d = put (put st b d) a c := by
  funext x; unfold put
  by_cases h1 : x = a
  · subst h1; simp [h]
  · simp [h1]
/-- a new list, its place forgotten -/
theorem gen_put {st : Stor} {q : Addr} {c : Cell} {C : Stor → Prop} (hq : st q = none) (h : ∀ s2, Sub st s2 → s2 q = some c → C s2) : C (put st q c) := h _ (Sub.put hq) put_same
theorem al_add {st : Stor} {R : KD} {p q : Addr} {xs ys : List D} (h : st p = some (.lst xs)) (k : st q = some (.lst ys)) (hl : xs.length + ys.length ≤ 1000000) (hr : ∀ r s2, st r = none → Sub st s2 → s2 r = some (.lst (xs ++ ys)) → R (.ref r) s2) : dAdd (.ref p) (.ref q) st R :=
  ⟨xs, ys, h, k, size_small hl, fun r hn => hr r _ hn (Sub.put hn) put_same⟩
theorem al_append {st : Stor} {R : KD} {p : Addr} {xs : List D} {y : D} (h : st p = some (.lst xs)) (hl : xs.length < 1000000) (hr : R .non (put st p (.lst (xs ++ [y])))) : dAppend p [y] st R := by
  rw [z_append h (by rw [sizeLine_eq]; omega)]; exact hr
def sp_name (t : Addr) : SpD := sp1 fun x st R => x = .ref t ∧ ∀ s : Str, s.length ≤ 20 → R (.str s) st
def rd_name (t : Addr) : TSD := (sSeqD (sAsgD (tCD (.str (Str.ofString "abcdefghijklmnopqrstuvwxyz"))) (gNameD 1))
    (sSeqD (sAsgD (tOpD dAdd (tVarD 1) (tCD (.str (Str.ofString "0123456789")))) (gNameD 2))
    (sSeqD (sAsgD (tOpD dIx (tVarD 1) (tCallD (spDrawB t) (tConsD (tVarD 0) (tConsD (tCD (.int 26)) tNilD)))) (gNameD 3))
    (sSeqD (sForD (iRng1D (tConsD (tCallD (spDrawB t) (tConsD (tVarD 0) (tConsD (tCD (.int 8)) tNilD))) tNilD)) (gNameD 4) (sAsgD (tOpD dAdd (tVarD 3) (tOpD dIx (tVarD 2) (tCallD (spDrawB t) (tConsD (tVarD 0) (tConsD (tCD (.int 36)) tNilD))))) (gNameD 3)))
    (sRetD (tVarD 3))))))
theorem hs_name (t : Addr) : ∀ ds s R, sp_name t ds s R → rd_name t (endsD R) (startD 5 ds) s := by
  refine sp1.to fun x st R h => ?_
  obtain ⟨rfl, h⟩ := h
  show rd_name t (endsD R) [some (.ref t), none, none, none, none] st
  unfold rd_name
  have e1 : (Str.ofString "abcdefghijklmnopqrstuvwxyz").cps.toList.length = 26 := by decide +kernel
  have e2 : (Str.ofString "abcdefghijklmnopqrstuvwxyz" ++ Str.ofString "0123456789").cps.toList.length = 36 := by decide +kernel
  have e3 : (Str.ofString "abcdefghijklmnopqrstuvwxyz").length + (Str.ofString "0123456789").length = 36 := by decide +kernel
  have lc : ∀ c, (⟨#[c]⟩ : Str).length = 1 := fun _ => rfl
  simp [e3, sizeLine_eq]
  intro r r0 r1
  refine ixS_lit (m := 26) r0 (by omega) e1 fun c => ?_
  intro k k0 k1
  refine ⟨by omega, loop_keep (fun i ρ => ∃ (z : Str) (o : Option D), ρ = [some (.ref t), some (.str (Str.ofString "abcdefghijklmnopqrstuvwxyz")), some (.str (Str.ofString "abcdefghijklmnopqrstuvwxyz" ++ Str.ofString "0123456789")), some (.str z), o] ∧ z.length ≤ 1 + i) ⟨_, _, rfl, Nat.le_refl _⟩ trivial (fun i x ρ hx hQ N hN => ?_) fun ρ hQ => ?_⟩
  · obtain ⟨z, o, rfl, lz⟩ := hQ
    obtain ⟨q, rfl, hq, hi⟩ := rangeD_int hx
    simp
    intro u u0 u1
    refine ixS_lit (m := 36) u0 (by omega) e2 fun c => ?_
    simp [lc, sizeLine_eq]
    exact ⟨by omega, hN _ _ (Sub.refl _) ⟨_, _, rfl, by rw [len_append, lc]; omega⟩⟩
  · obtain ⟨z, o, rfl, lz⟩ := hQ
    rw [rangeD_len] at lz
    simp
    exact ⟨_, Sub.refl _, h z (by omega)⟩
/-- names, each one new -/
theorem names_loop {t p : Addr} {many : Int} {st : Stor} {E : EndsD} {pre : Str} {o3 o4 o5 : Option D} (m1 : many ≤ 100) (hpre : pre.length = 1)
    (h : ∀ (ps : List Str) (o3 o4 o5 : Option D), ps.Nodup → ps.length = many.toNat → (∀ s ∈ ps, s.length ≤ 20) → E.nx [some (.ref t), some (.int many), some (.ref p), o3, o4, o5] (put st p (.lst (ps.map .str)))) :
    loopD (fun _ => True) (gNameD 3) (sSeqD (sAsgD (tCallD (sp_name t) (tConsD (tVarD 0) tNilD)) (gNameD 4))
    (sSeqD (sForD (iRng1D (tConsD (tOpD dAdd (tVarD 1) (tCD (.int 1))) tNilD)) (gNameD 5) (sSeqD (sIfD (tTestD (tOpD dNotIn (tVarD 4) (tVarD 2))) sBreakD sNextD)
    (sAsgD (tOpD dAdd (tCD (.str pre)) (tCallD dStrI (tConsD (tVarD 5) tNilD))) (gNameD 4))))
    (sDropD (tMethD dAppend (tVarD 2) (tConsD (tVarD 4) tNilD))))) E (rangeD 0 many.toNat) [some (.ref t), some (.int many), some (.ref p), o3, o4, o5] (put st p (.lst [])) := by
  refine loop_list (fun i acc ρ => ∃ (o3 o4 o5 : Option D) (ps : List Str), ρ = [some (.ref t), some (.int many), some (.ref p), o3, o4, o5] ∧ acc = ps.map .str ∧ ps.length = i ∧ ps.Nodup ∧ ∀ s ∈ ps, s.length ≤ 20) ⟨o3, o4, o5, [], rfl, rfl, rfl, List.nodup_nil, fun s hs => by cases hs⟩ (fun _ => trivial) (fun i x acc ρ hx hQ N hN => ?_) fun acc ρ hQ => ?_
  · obtain ⟨o3, o4, o5, ps, rfl, rfl, pl, pn, p2⟩ := hQ
    obtain ⟨k, rfl, hk, hi⟩ := rangeD_int hx
    simp
    refine ⟨rfl, fun s0 hs0 => ?_⟩
    have ga : getL (put st p (.lst (ps.map D.str))) p = some (ps.map D.str) := getL_self
    have fin : ∀ (z : Str) (o5 : Option D), z.length ≤ 20 → z ∉ ps → dAppend p [.str z] (put st p (.lst (ps.map D.str))) fun x s1 => N [some (.ref t), some (.int many), some (.ref p), some (.int k), some (.str z), o5] s1 := fun z o5 hz hn => by
      rw [z_append put_same (show (ps.map D.str).length < sizeLine by rw [List.length_map, sizeLine_eq]; omega), put_put]
      refine hN (ps.map D.str ++ [.str z]) _ _ (Sub.refl _) ⟨_, _, _, ps ++ [z], rfl, by simp, by simp [pl], ?_, fun s hs => ?_⟩
      · refine List.nodup_append.mpr ⟨pn, by simp, fun a ha b hb => ?_⟩
        rw [List.mem_singleton.mp hb]
        intro e; subst e; exact hn ha
      · rcases List.mem_append.mp hs with hs | hs
        · exact p2 s hs
        · rw [List.mem_singleton.mp hs]; exact hz
    refine ⟨by omega, loop_keep (fun i' ρ => ∃ (z : Str) (o5 : Option D), ρ = [some (.ref t), some (.int many), some (.ref p), some (.int k), some (.str z), o5] ∧ z.length ≤ 20 ∧ (∀ j, j + 1 < i' → pre ++ natS j ∈ ps) ∧ ∀ j, j + 1 = i' → z = pre ++ natS j) ⟨_, _, rfl, by omega, fun j hj => by omega, fun j hj => by omega⟩ trivial (fun i' x ρ hx hQ M hM => ?_) fun ρ hQ => ?_⟩
    · obtain ⟨z, o5, rfl, lz, hj1, hj2⟩ := hQ
      obtain ⟨k', rfl, hk', hi'⟩ := rangeD_int hx
      have h5 : i' < 10 ^ 500 := Nat.lt_trans (show i' < 10 ^ 10 by omega) (by decide +kernel)
      have ek : k' = (i' : Int) := by omega
      subst ek
      simp [z_inStL ga, ga]
      by_cases hz : z ∈ ps
      · simp [hz, z_str h5]
        have := natS_len (n := i') (k := 10) (by decide) (by omega)
        refine ⟨by rw [hpre, sizeLine_eq]; omega, hM _ _ (Sub.refl _) ⟨_, _, rfl, by rw [len_append, hpre]; omega, fun j hj => ?_, fun j hj => ?_⟩⟩
        · by_cases e : j + 1 = i'
          · rw [← hj2 j e]; exact hz
          · exact hj1 j (by omega)
        · have : j = i' := by omega
          rw [this]
      · simp [hz]
        exact fin z _ lz hz
    · obtain ⟨z, o5, rfl, lz, hj1, hj2⟩ := hQ
      rw [rangeD_len] at hj1 hj2
      simp [ga]
      refine fin z _ lz fun hz => ?_
      have := names_full (acc := ps) (pre := pre) (m := many.toNat) fun j hj => by
        by_cases e : j + 1 = (many + 1).toNat
        · rw [← hj2 j e]; exact hz
        · exact hj1 j (by omega)
      omega
  · obtain ⟨o3, o4, o5, ps, rfl, rfl, pl, pn, p2⟩ := hQ
    rw [rangeD_len] at pl
    exact h ps _ _ _ pn pl p2
def sp_number (t : Addr) : SpD := sp2 fun x y st R => ∃ most : Int, x = .ref t ∧ y = .int most ∧ 12 ≤ most ∧ most < 2 ^ 61 ∧ ∀ r, 1 ≤ r → r ≤ most → R (.int r) st
def rd_number (t : Addr) : TSD := (sSeqD (sAsgD (tCallD (spDrawB t) (tConsD (tVarD 0) (tConsD (tCD (.int 4)) tNilD))) (gNameD 2))
    (sSeqD (sIfD (tTestD (tOpD dEq (tVarD 2) (tCD (.int 0)))) (sRetD (tCD (.int 1))) sNextD)
    (sSeqD (sIfD (tTestD (tOpD dEq (tVarD 2) (tCD (.int 1)))) (sRetD (tVarD 1)) sNextD)
    (sSeqD (sIfD (tTestD (tOpD dEq (tVarD 2) (tCD (.int 2)))) (sRetD (tOpD dAdd (tCD (.int 1)) (tCallD (spDrawB t) (tConsD (tVarD 0) (tConsD (tVarD 1) tNilD))))) sNextD)
    (sRetD (tOpD dAdd (tCD (.int 1)) (tCallD (spDrawB t) (tConsD (tVarD 0) (tConsD (tCD (.int 12)) tNilD)))))))))
theorem hs_number (t : Addr) : ∀ ds s R, sp_number t ds s R → rd_number t (endsD R) (startD 3 ds) s := by
  refine sp2.to fun x y st R h => ?_
  obtain ⟨most, rfl, rfl, m0, m1, h⟩ := h
  show rd_number t (endsD R) [some (.ref t), some (.int most), none] st
  unfold rd_number
  have fin : ∀ r, 1 ≤ r → r ≤ most → ∃ s2, DL.Sub s2 st ∧ R (.int r) s2 := fun r r0 r1 => ⟨st, Sub.refl _, h r r0 r1⟩
  simp
  intro r r0 r1
  split
  · exact fin _ (by omega) (by omega)
  · split
    · exact fin _ (by omega) (by omega)
    · split
      · exact ⟨by omega, fun u u0 u1 => fin _ (by omega) (by omega)⟩
      · exact fun u u0 u1 => fin _ (by omega) (by omega)
@[simp ↓] theorem x_num {t : Addr} {m : Int} {st : Stor} {R : KD} : sp_number t [.ref t, .int m] st R = (12 ≤ m ∧ m < 2 ^ 61 ∧ ∀ r, 1 ≤ r → r ≤ m → R (.int r) st) := propext ⟨fun ⟨m', _, e, h⟩ => by cases e; exact h, fun h => ⟨m, rfl, rfl, h⟩⟩
@[simp ↓] theorem x_name {t : Addr} {st : Stor} {R : KD} : sp_name t [.ref t] st R = ∀ s : Str, s.length ≤ 20 → R (.str s) st := propext ⟨fun h => h.2, fun h => ⟨rfl, h⟩⟩
/-! ### alike -/
def rd_sameI (n : Nat) : TSD := (sSeqD (sIfD (tTruD (tUnD (dIsi .tuple) (tVarD 1))) (sSeqD (sIfD (tOrD (tNotD (tTruD (tUnD (dIsi .tuple) (tVarD 0)))) (tTestD (tOpD dNe (tCallD dLen (tConsD (tVarD 0) tNilD)) (tCallD dLen (tConsD (tVarD 1) tNilD))))) (sRetD (tCD (.bl false))) sNextD)
    (sSeqD (sForD (iRng1D (tConsD (tCallD dLen (tConsD (tVarD 1) tNilD)) tNilD)) (gNameD 2) (sIfD (tNotD (tTruD (tCallD (spSameR false n) (tConsD (tOpD dIx (tVarD 0) (tVarD 2)) (tConsD (tOpD dIx (tVarD 1) (tVarD 2)) tNilD))))) (sRetD (tCD (.bl false))) sNextD))
    (sRetD (tCD (.bl true))))) sNextD)
    (sRetD (tAndVD (tUnD (dIsi .int) (tVarD 0)) (tAndVD (tNotVD (tUnD (dIsi .bool) (tVarD 0))) (tOpD dEq (tVarD 0) (tVarD 1))))))
def rd_sameS (n : Nat) : TSD := (sSeqD (sIfD (tTruD (tUnD (dIsi .tuple) (tVarD 1))) (sSeqD (sIfD (tOrD (tNotD (tTruD (tUnD (dIsi .tuple) (tVarD 0)))) (tTestD (tOpD dNe (tCallD dLen (tConsD (tVarD 0) tNilD)) (tCallD dLen (tConsD (tVarD 1) tNilD))))) (sRetD (tCD (.bl false))) sNextD)
    (sSeqD (sForD (iRng1D (tConsD (tCallD dLen (tConsD (tVarD 1) tNilD)) tNilD)) (gNameD 2) (sIfD (tNotD (tTruD (tCallD (spSameR true n) (tConsD (tOpD dIx (tVarD 0) (tVarD 2)) (tConsD (tOpD dIx (tVarD 1) (tVarD 2)) tNilD))))) (sRetD (tCD (.bl false))) sNextD))
    (sRetD (tCD (.bl true))))) sNextD)
    (sSeqD (sIfD (tTruD (tUnD (dIsi .str) (tVarD 1))) (sRetD (tAndVD (tUnD (dIsi .str) (tVarD 0)) (tOpD dEq (tVarD 0) (tVarD 1)))) sNextD)
    (sRetD (tAndVD (tUnD (dIsi .int) (tVarD 0)) (tAndVD (tNotVD (tUnD (dIsi .bool) (tVarD 0))) (tOpD dEq (tVarD 0) (tVarD 1)))))))
theorem same_loop {s : Bool} {n : Nat} {st : Stor} {xs : List D} {E : EndsD} {o : Option D} (hl : xs.length ≤ 1000) (hx : ∀ x ∈ xs, sameOk s n x) (h : ∀ o, E.nx [some (.tup xs), some (.tup xs), o] st) :
    loopD (fun _ => True) (gNameD 2) (sIfD (tNotD (tTruD (tCallD (spSameR s n) (tConsD (tOpD dIx (tVarD 0) (tVarD 2)) (tConsD (tOpD dIx (tVarD 1) (tVarD 2)) tNilD))))) (sRetD (tCD (.bl false))) sNextD) E (rangeD 0 xs.length) [some (.tup xs), some (.tup xs), o] st := by
  refine loop_keep (fun i ρ => ∃ o, ρ = [some (.tup xs), some (.tup xs), o]) ⟨_, rfl⟩ trivial (fun i x ρ hx' hQ N hN => ?_) fun ρ hQ => ?_
  · obtain ⟨o, rfl⟩ := hQ
    obtain ⟨k, rfl, hk, hi⟩ := rangeD_int hx'
    have e : xs[k.toNat]? = some xs[i] := by rw [show k.toNat = i by omega]; exact List.getElem?_eq_getElem hi
    simp [z_ixTi (show 0 ≤ k by omega) e]
    refine ⟨rfl, hx _ (List.getElem_mem hi), ?_⟩
    simp
    exact hN _ _ (Sub.refl _) ⟨_, rfl⟩
  · obtain ⟨o, rfl⟩ := hQ
    exact h o
theorem hs_sameI (n : Nat) : ∀ ds s R, spSameR false (n + 1) ds s R → rd_sameI n (endsD R) (startD 3 ds) s := by
  refine sp2.to fun x y st R h => ?_
  obtain ⟨rfl, h1, h⟩ := h
  show rd_sameI n (endsD R) [some x, some x, none] st
  unfold rd_sameI
  cases x with
  | tup xs =>
    have := h1.1
    simp
    refine ⟨by omega, same_loop h1.1 h1.2 fun o => ?_⟩
    simp
    exact ⟨_, Sub.refl _, h⟩
  | int i => simp; exact ⟨_, Sub.refl _, h⟩
  | str z => cases h1
  | non => exact (show False from h1).elim
  | bl b => exact (show False from h1).elim
  | ref a => exact (show False from h1).elim
  | ro xs => exact (show False from h1).elim
theorem hs_sameS (n : Nat) : ∀ ds s R, spSameR true (n + 1) ds s R → rd_sameS n (endsD R) (startD 3 ds) s := by
  refine sp2.to fun x y st R h => ?_
  obtain ⟨rfl, h1, h⟩ := h
  show rd_sameS n (endsD R) [some x, some x, none] st
  unfold rd_sameS
  cases x with
  | tup xs =>
    have := h1.1
    simp
    refine ⟨by omega, same_loop h1.1 h1.2 fun o => ?_⟩
    simp
    exact ⟨_, Sub.refl _, h⟩
  | int i => simp; exact ⟨_, Sub.refl _, h⟩
  | str z => simp; exact ⟨_, Sub.refl _, h⟩
  | non => exact (show False from h1).elim
  | bl b => exact (show False from h1).elim
  | ref a => exact (show False from h1).elim
  | ro xs => exact (show False from h1).elim
end DR
-- text K11S
set_option Elab.async false
set_option linter.all false
set_option maxRecDepth 100000
set_option maxHeartbeats 2000000
/-! K11S: what the defs of k11 promise -/
namespace K11
open PySem PySem.Spec PyProof.Rows L2 DL DR DG
structure Lk where
  a : Nat
  b : Nat
  c : D
  d : Int
  e : Int
def nm (ps : List Str) (i : Nat) : Str := ps[i]?.getD Str.empty
def lkD (ps : List Str) (l : Lk) : D := .tup [.str (nm ps l.a), .str (nm ps l.b), l.c, .int l.d, .int l.e]
def lsD (ps : List Str) (ls : List Lk) : D := .tup (ls.map (lkD ps))
def ssD (ss : List (List Int)) : D := .tup (ss.map inD)
def gD (ps : List Str) (ls : List Lk) (ss : List (List Int)) : D := .tup [stD ps, lsD ps ls, ssD ss]
def edges (ls : List Lk) : Edges := ls.map fun l => (l.a, l.b)
structure GL (ps : List Str) (ls : List Lk) : Prop where
  pl : PlOk ps
  n1 : 1 ≤ ps.length
  so : ∀ i j, i < j → j < ps.length → stLt (nm ps i) (nm ps j) = true
  ll : ls.length ≤ 40
  lb : ∀ l ∈ ls, l.a < ps.length ∧ l.b < ps.length
noncomputable abbrev hung (n : Nat) (E : Edges) : Bool := wholeB n E
theorem hung_iff {n : Nat} {E : Edges} : hung n E = true ↔ ∀ x, x < n → Conn E 0 x := wholeB_iff
def live (ps : Edges) (is : List Int) : Nat → Edges
  | 0 => []
  | i + 1 => live ps is i ++ (match ps[i]? with | some e => if (i : Int) ∈ is then [] else [e] | none => [])
def liveL (ls : List Lk) (is : List Int) : Edges := live (edges ls) is ls.length
def idx (ps : List Str) (p : Str) : Nat := ps.idxOf p
def hdD (ps : List Str) (h : Nat → Nat) : List (Key × D) := plK ps fun q => .str (nm ps (h (idx ps q)))
def nI (is : List Nat) : List Int := is.map fun (i : Nat) => (i : Int)
def lotD (o : List Nat) : D := inD (nI o)
def pairD (p : Nat × Nat) : D := .tup [.int (p.1 : Nat), .int (p.2 : Nat)]
def PairsOk (n : Nat) (ps : List (Nat × Nat)) : Prop := ∀ p ∈ ps, p.1 < n ∧ p.2 < n
def natsD (is : List Nat) : List D := is.map fun (i : Nat) => D.int (i : Int)
def OutOk (st : Stor) (z : D) (is : List Int) : Prop := z = inD is ∨ ∃ o, z = .ref o ∧ getL st o = some (is.map .int)
def LkOk (st : Stor) (y : D) (ps : List Str) (ls : List Lk) : Prop := y = lsD ps ls ∨ ∃ a, y = .ref a ∧ getL st a = some (ls.map (lkD ps))
/-- the wiring's number at a link -/
def wf (w : List Int) (i : Nat) : Int := w[i]?.getD 0
structure WOk (n : Nat) (E : Edges) (w : List Int) : Prop where
  l : w.length = E.length
  b : ∀ x ∈ w, -1 ≤ x ∧ x ≤ 1000000000000
  f : Forest n (eT E (rigT E (wf w)))
  c : Whole n (dropE E (absT E (wf w)))
noncomputable def treesL (n : Nat) (E : Edges) (w : List Int) : List (List Nat) := (progU n E (wf w) E.length).map (joinT E (wf w))
noncomputable def treesD (n : Nat) (E : Edges) (w : List Int) : D := .tup (sortD ((treesL n E w).map lotD))
def prodW (w : List Int) (T : List Nat) : Int := T.foldl (fun p j => if wf w j = -1 then p else p * wf w j) 1
noncomputable def flowW (E : Edges) (T : List Nat) (a b : Nat) (i : Nat) : Int :=
  if i ∈ T then (if ringB E (T.filter fun j => decide (j ≠ i)) (a, b) = true then 0 else if ringB E (T.filter fun j => decide (j ≠ i)) ((E[i]?.getD (0, 0)).1, a) = true then 1 else -1) else 0
noncomputable def flowL (E : Edges) (T : List Nat) (a b : Nat) : List Int := (List.range E.length).map (flowW E T a b)
def sp_heads_by : SpD := sp3 fun x y z st R => ∃ (ps : List Str) (ls : List Lk) (is : List Int), x = stD ps ∧ LkOk st y ps ls ∧ OutOk st z is ∧ GL ps ls ∧ ∀ p h, st p = none → Heads ps.length (liveL ls is) h → R (.ref p) (put st p (.dic (hdD ps h)))
def sp_hangs_by : SpD := sp3 fun x y z st R => ∃ (ps : List Str) (ls : List Lk) (is : List Int), x = stD ps ∧ y = lsD ps ls ∧ OutOk st z is ∧ GL ps ls ∧ R (.bl (hung ps.length (liveL ls is))) st
def sp_closes_ring : SpD := sp3 fun x y z st R => ∃ (ps : List Str) (ls : List Lk) (ss : List (List Int)) (T : List Nat) (i : Nat) (l : Lk), x = gD ps ls ss ∧ y = lotD T ∧ z = .int (i : Nat) ∧ GL ps ls ∧ T.length ≤ 40 ∧ (∀ j ∈ T, j < ls.length) ∧ ls[i]? = some l ∧ R (.bl (ringB (edges ls) T (l.a, l.b))) st
def sp_trees_of : SpD := sp2 fun x y st R => ∃ (ps : List Str) (ls : List Lk) (ss : List (List Int)) (w : List Int), x = gD ps ls ss ∧ y = inD w ∧ GL ps ls ∧ ls.length ≤ 16 ∧ WOk ps.length (edges ls) w ∧ R (treesD ps.length (edges ls) w) st
def sp_tree_product : SpD := sp2 fun x y st R => ∃ (w : List Int) (T : List Nat), x = inD w ∧ y = lotD T ∧ (∀ j ∈ T, j < w.length) ∧ (∀ x ∈ w, -1 ≤ x ∧ x ≤ 1000000000000) ∧ R (.int (prodW w T)) st
def sp_tree_flow : SpD := sp4 fun x y z u st R => ∃ (ps : List Str) (ls : List Lk) (ss : List (List Int)) (T : List Nat) (a b : Nat), x = gD ps ls ss ∧ y = lotD T ∧ z = .str (nm ps a) ∧ u = .str (nm ps b) ∧ GL ps ls ∧ T.length ≤ 40 ∧ (∀ j ∈ T, j < ls.length) ∧ a < ps.length ∧ b < ps.length ∧ R (inD (flowL (edges ls) T a b)) st
abbrev sp__law_tape : SpD := spTape
abbrev sp__law_draw (t : Addr) : SpD := spDraw t
abbrev sp0__law_draw (i : tAIdx) : SpD := spDraw0 i.1 i.2
abbrev sp__law_same : SpD := spSame
def sp__law_names (t : Addr) : SpD := sp2 fun x y st R => ∃ many : Int, x = .ref t ∧ y = .int many ∧ 1 ≤ many ∧ many ≤ 9 ∧ ∀ p (ps : List Str), st p = none → ps.length = many.toNat → ps.Nodup → R (.ref p) (put st p (.lst (ps.map .str)))
def sp__law_apart : SpD := sp3 fun x y z st R => ∃ (n : Nat) (e : Addr) (ps : Edges) (is : List Int), x = .int (n : Nat) ∧ y = .ref e ∧ OutOk st z is ∧ 1 ≤ n ∧ n ≤ 9 ∧ getL st e = some (ps.map pairD) ∧ PairsOk n ps ∧ ps.length ≤ 40 ∧
  ∀ p (gs : List Int), st p = none → Labels n gs (live ps is ps.length) → R (.ref p) (put st p (.lst (gs.map .int)))
def sp__law_whole_out : SpD := sp3 fun x y z st R => ∃ (n : Nat) (e : Addr) (ps : Edges) (is : List Int), x = .int (n : Nat) ∧ y = .ref e ∧ OutOk st z is ∧ 1 ≤ n ∧ n ≤ 9 ∧ getL st e = some (ps.map pairD) ∧ PairsOk n ps ∧ ps.length ≤ 40 ∧ R (.bl (hung n (live ps is ps.length))) st
def sp__law_admittance (t : Addr) : SpD := sp1 fun x st R => x = .ref t ∧ ∀ v, R v st
def sp__law_room (t : Addr) : SpD := sp1 fun x st R => x = .ref t ∧ ∀ i : Int, R (.int i) st
def sp__law_order (t : Addr) : SpD := sp2 fun x y st R => ∃ n : Nat, x = .ref t ∧ y = .int (n : Nat) ∧ n ≤ 100 ∧ ∀ p (is : List Nat), st p = none → is.Perm (List.range n) → R (.ref p) (put st p (.lst (natsD is)))
def sp__law_ends (t : Addr) : SpD := sp3 fun x y z st R => ∃ (n : Nat) (links : Int), x = .ref t ∧ y = .int (n : Nat) ∧ z = .int links ∧ 2 ≤ n ∧ n ≤ 9 ∧ 0 ≤ links ∧ links ≤ 20 ∧
  ∀ p (ps : Edges), st p = none → ps.length = n - 1 + (links.toNat - (n - 1)) → PairsOk n ps → Build n ps → R (.ref p) (put st p (.lst (ps.map pairD)))
def sp__law_states (t : Addr) : SpD := sp4 fun x y z u st R => ∃ (n : Nat) (most : Int) (e : Addr) (ps : Edges), x = .ref t ∧ y = .int (n : Nat) ∧ z = .ref e ∧ u = .int most ∧ 1 ≤ n ∧ n ≤ 9 ∧ getL st e = some (ps.map pairD) ∧ PairsOk n ps ∧ ps.length ≤ 40 ∧ 0 ≤ most ∧ most ≤ 5 ∧
  ∀ p (ss : List (List Int)), st p = none → ss.length ≤ 20 → [] ∈ ss → (∀ s ∈ ss, s.length ≤ 40) → R (.ref p) (put st p (.lst (ss.map inD)))
structure SOk (ss : List (List Int)) : Prop where
  z : ss[0]? = some []
  l : ss.length ≤ 20
  s : ∀ s ∈ ss, s.length ≤ 40
def sp__law_grid (t : Addr) : SpD := sp4 fun x y z u st R => ∃ (n : Nat) (links most : Int), x = .ref t ∧ y = .int (n : Nat) ∧ z = .int links ∧ u = .int most ∧ 1 ≤ n ∧ n ≤ 9 ∧ 0 ≤ links ∧ links ≤ 20 ∧ 0 ≤ most ∧ most ≤ 5 ∧
  ∀ ps ls ss, GL ps ls → SOk ss → ps.length = n → ls.length ≤ n - 1 + (links.toNat - (n - 1)) → (1 < n → ls.length = n - 1 + (links.toNat - (n - 1))) → Build n (edges ls) → R (gD ps ls ss) st
def sp__law_read : SpD := sp1 fun x st R => ∃ (ps : List Str) (ls : List Lk) (ss : List (List Int)), x = gD ps ls ss ∧ GL ps ls ∧ ∀ p, st p = none → R (.ref p) (put st p (.lst ((edges ls).map pairD)))
def sp__law_trees : SpD := sp2 fun x y st R => ∃ (ps : List Str) (ls : List Lk) (ss : List (List Int)) (w : List Int), x = gD ps ls ss ∧ y = inD w ∧ GL ps ls ∧ ls.length ≤ 12 ∧ WOk ps.length (edges ls) w ∧ R (treesD ps.length (edges ls) w) st
def sp__law_product : SpD := sp2 fun x y st R => ∃ (w : List Int) (T : List Nat), x = inD w ∧ y = lotD T ∧ (∀ j ∈ T, j < w.length ∧ wf w j ≠ 0) ∧ (∀ x ∈ w, -1 ≤ x ∧ x ≤ 1000000000000) ∧ R (.int (prodW w T)) st
def sp__law_flow : SpD := sp4 fun x y z u st R => ∃ (ps : List Str) (ls : List Lk) (ss : List (List Int)) (T : List Nat) (a b : Nat), x = gD ps ls ss ∧ y = lotD T ∧ z = .int (a : Nat) ∧ u = .int (b : Nat) ∧ GL ps ls ∧ T.length ≤ 40 ∧ (∀ j ∈ T, j < ls.length) ∧ a < ps.length ∧ b < ps.length ∧ R (inD (flowL (edges ls) T a b)) st
def sp__law_worth (t : Addr) : SpD := sp1 fun x st R => x = .ref t ∧ ∀ i : Int, 1 ≤ i → i ≤ 1000000000000 → R (.int i) st
def sp__law_wiring (t : Addr) : SpD := sp2 fun x y st R => ∃ (ps : List Str) (ls : List Lk) (ss : List (List Int)), x = .ref t ∧ y = gD ps ls ss ∧ GL ps ls ∧ ls.length ≤ 20 ∧ Build ps.length (edges ls) ∧ ∀ w, WOk ps.length (edges ls) w → R (inD w) st
/-- links by pairs, either way round -/
def Flip (E F : Edges) : Prop := E.length = F.length ∧ ∀ (i : Nat) (e f : Nat × Nat), E[i]? = some e → F[i]? = some f → e = f ∨ e = (f.2, f.1)
def tripD (k : Nat × Nat × List D) : D := .tup (.int (k.1 : Nat) :: .int (k.2.1 : Nat) :: k.2.2)
def sp__law_linked (t : Addr) : SpD := sp3 fun x y z st R => ∃ (ps : List Str) (a b : Addr) (rs : List (Nat × Nat × List D)), x = .ref t ∧ y = .ref a ∧ z = .ref b ∧ getL st a = some (ps.map .str) ∧ getL st b = some (rs.map tripD) ∧ PlOk ps ∧ 1 ≤ ps.length ∧ (∀ i j, i < j → j < ps.length → stLt (nm ps i) (nm ps j) = true) ∧ rs.length ≤ 40 ∧ (∀ r ∈ rs, r.1 < ps.length ∧ r.2.1 < ps.length) ∧
  ∀ ls, GL ps ls → Flip (edges ls) (rs.map fun r => (r.1, r.2.1)) → R (gD ps ls [[]]) st
/-- each pair of places once -/
def allPairs (n : Nat) : Edges := (List.range n).flatMap fun i => ((List.range n).filter fun j => decide (i < j)).map fun j => (i, j)
def sp__law_web (t : Addr) : SpD := sp2 fun x y st R => ∃ n : Nat, x = .ref t ∧ y = .int (n : Nat) ∧ 3 ≤ n ∧ n ≤ 5 ∧ ∀ (ps : List Str) (ls : List Lk) (F : Edges), GL ps ls → ps.length = n → F.Perm (allPairs n) → Flip (edges ls) F → R (gD ps ls [[]]) st
/-- a ring through all places, its links in any sequence -/
def RingOk (n : Nat) (E : Edges) : Prop := ∃ (ord : List Nat) (F : Edges), ord.Perm (List.range n) ∧ F.Perm ((List.range n).map fun k => (ord[k]?.getD 0, ord[(k + 1) % n]?.getD 0)) ∧ Flip E F
def sp__law_ring (t : Addr) : SpD := sp2 fun x y st R => ∃ n : Nat, x = .ref t ∧ y = .int (n : Nat) ∧ 3 ≤ n ∧ n ≤ 9 ∧ ∀ (ps : List Str) (ls : List Lk), GL ps ls → ps.length = n → RingOk n (edges ls) → R (gD ps ls [[]]) st
noncomputable def scD (ps : List Str) (ls : List Lk) (ss : List (List Int)) (w : List Int) : D := .tup [gD ps ls ss, inD w, treesD ps.length (edges ls) w]
structure ScOk (ps : List Str) (ls : List Lk) (w : List Int) : Prop where
  gl : GL ps ls
  l16 : ls.length ≤ 16
  ok : WOk ps.length (edges ls) w
  t : (treesL ps.length (edges ls) w).length ≤ 2000
def sp__law_ring_scene (t : Addr) : SpD := sp2 fun x y st R => ∃ n : Nat, x = .ref t ∧ y = .int (n : Nat) ∧ 3 ≤ n ∧ n ≤ 9 ∧ ∀ (ps : List Str) (ls : List Lk) (w : List Int), ScOk ps ls w → R (scD ps ls [[]] w) st
def sp__law_bundles (t : Addr) : SpD := sp3 fun x y z st R => ∃ (a : Addr) (zs : List Nat) (r : Int), x = .ref t ∧ y = .ref a ∧ z = .int r ∧ getL st a = some (natsD zs) ∧ 1 ≤ zs.length ∧ zs.length ≤ 8 ∧ (∀ s ∈ zs, 1 ≤ s) ∧ zs.sum ≤ 16 ∧ zs.foldl (· * ·) 1 ≤ 400 ∧ 2 ≤ r ∧ r ≤ 30 ∧
  ∀ (ps : List Str) (ls : List Lk) (w : List Int), ScOk ps ls w → R (scD ps ls [[]] w) st
def sp__law_asked (t : Addr) : SpD := sp2 fun x y st R => ∃ (ps : List Str) (ls : List Lk) (ss : List (List Int)) (w : List Int), x = .ref t ∧ y = scD ps ls ss w ∧ ScOk ps ls w ∧ R (.bl true) st
def sp_law : SpD := sp1 fun x st R => ∃ ns : List Int, x = .ro (ns.map .int) ∧ ns.length ≤ 63 ∧ (∀ z ∈ ns, Builtin.Int.intBits z ≤ 1048576) ∧ st = (fun _ => none) ∧ ∀ st', R (.bl true) st'
@[simp ↓] theorem c_room {t : Addr} {st : Stor} {R : KD} : sp__law_room t [.ref t] st R = ∀ i : Int, R (.int i) st := propext ⟨fun h => h.2, fun h => ⟨rfl, h⟩⟩
@[simp ↓] theorem c_adm {t : Addr} {st : Stor} {R : KD} : sp__law_admittance t [.ref t] st R = ∀ v, R v st := propext ⟨fun h => h.2, fun h => ⟨rfl, h⟩⟩
theorem start {K : PySem.W.Frag} {H : Hp} {a : Addr} {ns : List Int} (hl : ns.length ≤ 63) (hb : ∀ z ∈ ns, Builtin.Int.intBits z ≤ 1048576) (hO : Only H) (hS : SqL K H a (ns.map V.int)) : spUp K Hid.none sp_law [.ref a] H (fun v _ => v = .bl true) fun _ _ _ => False := by
  refine script_up hO hS (R := fun d _ => d = .bl true) ⟨ns, rfl, hl, hb, rfl, fun _ => rfl⟩ ?_
  rintro d st' v H' rfl _ _ r
  unfold Rep at r
  exact r
section
variable {st : Stor} {R : KD} {ps : List Str} {ls : List Lk} {ss : List (List Int)} {l : Lk}
@[simp ↓] theorem x_gd0 : dIx (gD ps ls ss) (.int 0) st R = R (stD ps) st := z_ix0
@[simp ↓] theorem x_gd1 : dIx (gD ps ls ss) (.int 1) st R = R (lsD ps ls) st := z_ix1
@[simp ↓] theorem x_gd2 : dIx (gD ps ls ss) (.int 2) st R = R (ssD ss) st := z_ix2
@[simp ↓] theorem x_lk0 : dIx (lkD ps l) (.int 0) st R = R (.str (nm ps l.a)) st := z_ix0
@[simp ↓] theorem x_lk1 : dIx (lkD ps l) (.int 1) st R = R (.str (nm ps l.b)) st := z_ix1
@[simp ↓] theorem x_lsS {RI : List D → (Stor → Prop) → Stor → Prop} : seqD (lsD ps ls) st RI = RI (ls.map (lkD ps)) (fun _ => True) st := rfl
@[simp ↓] theorem x_lsE {RI : List (List D) → (Stor → Prop) → Stor → Prop} : enuD (lsD ps ls) st RI = RI (enumD 0 (ls.map (lkD ps))) (fun _ => True) st := rfl
@[simp ↓] theorem x_lsL : dLen [lsD ps ls] st R = R (.int (ls.length : Nat)) st := by unfold lsD; rw [y_lenT, List.length_map]
@[simp ↓] theorem x_ssL : dLen [ssD ss] st R = R (.int (ss.length : Nat)) st := by unfold ssD; rw [y_lenT, List.length_map]
@[simp ↓] theorem x_stE {RI : List (List D) → (Stor → Prop) → Stor → Prop} : enuD (stD ps) st RI = RI (enumD 0 (ps.map .str)) (fun _ => True) st := rfl
@[simp ↓] theorem x_gdT {t : TGsD} {ρ : Rho} {RE : Rho → Stor → Prop} : gTupD 3 t (gD ps ls ss) ρ st RE = t [stD ps, lsD ps ls, ssD ss] ρ st RE := propext ⟨fun h => h.2, fun h => ⟨rfl, h⟩⟩
end
theorem nm_get {ps : List Str} {i : Nat} (h : i < ps.length) : ps[i]? = some (nm ps i) := by unfold nm; rw [List.getElem?_eq_getElem h]; rfl
theorem nm_of {ps : List Str} {i : Nat} {s : Str} (h : ps[i]? = some s) : nm ps i = s := by unfold nm; rw [h]; rfl
theorem nm_inj {ps : List Str} (hn : ps.Nodup) {i j : Nat} (hi : i < ps.length) (hj : j < ps.length) (e : nm ps i = nm ps j) : i = j := by
  have h1 := nm_get hi
  have h2 := nm_get hj
  rw [e] at h1
  obtain ⟨_, e1⟩ := List.getElem?_eq_some_iff.mp h1
  obtain ⟨_, e2⟩ := List.getElem?_eq_some_iff.mp h2
  have pw := List.pairwise_iff_getElem.mp hn
  rcases Nat.lt_trichotomy i j with q | q | q
  · exact absurd (e1.trans e2.symm) (pw i j hi hj q)
  · exact q
  · exact absurd (e2.trans e1.symm) (pw j i hj hi q)
end K11
-- text K11R
set_option Elab.async false
set_option linter.all false
set_option maxRecDepth 100000
set_option maxHeartbeats 4000000
/-! K11R: the text of k11_trees_of_wirings: its defs, their scopes, what each reads as (printed by gen.py) -/
namespace K11
open PySem PySem.Spec PyProof.Rows L2 DL

def topS (i : Nat) : Stmt := PySem.Challenge.pw_paidwhatever_k11_trees_of_wirings.main.body.getD i (.Pass ⟨0, 0, 0, 0⟩)
abbrev s_heads_by : Stmt := topS 1
abbrev N_heads_by : List Str := ["places", "links", "out", "heads", "place", "number", "link", "low", "high"]
theorem sc_heads_by : FnScope N_heads_by ["places", "links", "out"] (defScope s_heads_by) := ⟨rfl, rfl, rfl, by decide +kernel, rfl, by decide +kernel, by decide +kernel⟩
theorem st_heads_by (a0 a1 a2 : D) : startD N_heads_by.length [a0, a1, a2] = [some a0, some a1, some a2, none, none, none, none, none, none] := rfl
def rd_heads_by : TSD := (sSeqD (sAsgD (tDcD (iSeqD (tVarD 0)) (gNameD 4) tYesD (tVarD 4) (tVarD 4) [4]) (gNameD 3))
    (sSeqD (sForD (iEnumD (tVarD 1)) (gTup' 2 (gConsD (gNameD 5) (gConsD (gNameD 6) gNilD))) (sSeqD (sIfD (tOrD (tTestD (tOpD dIn (tVarD 5) (tVarD 2))) (tTestD (tOpD dEq (tOpD dDget (tVarD 3) (tOpD dIx (tVarD 6) (tCD (.int 0)))) (tOpD dDget (tVarD 3) (tOpD dIx (tVarD 6) (tCD (.int 1))))))) sContD sNextD)
    (sSeqD (sAsgD (tCallD dMin2X (tConsD (tOpD dDget (tVarD 3) (tOpD dIx (tVarD 6) (tCD (.int 0)))) (tConsD (tOpD dDget (tVarD 3) (tOpD dIx (tVarD 6) (tCD (.int 1)))) tNilD))) (gNameD 7))
    (sSeqD (sAsgD (tCallD dMax2X (tConsD (tOpD dDget (tVarD 3) (tOpD dIx (tVarD 6) (tCD (.int 0)))) (tConsD (tOpD dDget (tVarD 3) (tOpD dIx (tVarD 6) (tCD (.int 1)))) tNilD))) (gNameD 8))
    (sForD (iSeqD (tVarD 0)) (gNameD 4) (sIfD (tTestD (tOpD dEq (tOpD dDget (tVarD 3) (tVarD 4)) (tVarD 8))) (sAsgD (tVarD 7) (gSubD (tVarD 3) (tVarD 4) dSetD)) sNextD))))))
    (sRetD (tVarD 3))))
abbrev s_hangs_by : Stmt := topS 2
abbrev N_hangs_by : List Str := ["places", "links", "out", "heads", "place"]
theorem sc_hangs_by : FnScope N_hangs_by ["places", "links", "out"] (defScope s_hangs_by) := ⟨rfl, rfl, rfl, by decide +kernel, rfl, by decide +kernel, by decide +kernel⟩
theorem st_hangs_by (a0 a1 a2 : D) : startD N_hangs_by.length [a0, a1, a2] = [some a0, some a1, some a2, none, none] := rfl
def rd_hangs_by : TSD := (sSeqD (sAsgD (tCallD sp_heads_by (tConsD (tVarD 0) (tConsD (tVarD 1) (tConsD (tVarD 2) tNilD)))) (gNameD 3))
    (sRetD (tCallD dAll (tConsD (tLcD (iSeqD (tVarD 0)) (gNameD 4) tYesD (tOpD dEq (tOpD dDget (tVarD 3) (tVarD 4)) (tOpD dIx (tVarD 0) (tCD (.int 0)))) [4]) tNilD))))
abbrev s_closes_ring : Stmt := topS 4
abbrev N_closes_ring : List Str := ["grid", "taken", "number", "places", "links", "_", "heads", "kept"]
theorem sc_closes_ring : FnScope N_closes_ring ["grid", "taken", "number"] (defScope s_closes_ring) := ⟨rfl, rfl, rfl, by decide +kernel, rfl, by decide +kernel, by decide +kernel⟩
theorem st_closes_ring (a0 a1 a2 : D) : startD N_closes_ring.length [a0, a1, a2] = [some a0, some a1, some a2, none, none, none, none, none] := rfl
def rd_closes_ring : TSD := (sSeqD (sAsgD (tVarD 0) (gTupD 3 (gConsD (gNameD 3) (gConsD (gNameD 4) (gConsD (gNameD 5) gNilD)))))
    (sSeqD (sAsgD (tCallD sp_heads_by (tConsD (tVarD 3) (tConsD (tLcD (iSeqD (tVarD 1)) (gNameD 7) tYesD (tOpD dIx (tVarD 4) (tVarD 7)) [7]) (tConsD (tTupD tNilD) tNilD)))) (gNameD 6))
    (sRetD (tOpD dEq (tOpD dDget (tVarD 6) (tOpD dIx (tOpD dIx (tVarD 4) (tVarD 2)) (tCD (.int 0)))) (tOpD dDget (tVarD 6) (tOpD dIx (tOpD dIx (tVarD 4) (tVarD 2)) (tCD (.int 1))))))))
abbrev s_trees_of : Stmt := topS 5
abbrev N_trees_of : List Str := ["grid", "wiring", "places", "links", "_", "rigid", "number", "admittance", "absent", "partial", "further", "taken", "skipped", "ring"]
theorem sc_trees_of : FnScope N_trees_of ["grid", "wiring"] (defScope s_trees_of) := ⟨rfl, rfl, rfl, by decide +kernel, rfl, by decide +kernel, by decide +kernel⟩
theorem st_trees_of (a0 a1 : D) : startD N_trees_of.length [a0, a1] = [some a0, some a1, none, none, none, none, none, none, none, none, none, none, none, none] := rfl
def rk_trees_of_0 : TSD := (sIfD (tOrD (tTruD (tVarD 13)) (tTruD (tCallD sp_hangs_by (tConsD (tVarD 2) (tConsD (tVarD 3) (tConsD (tOpD dAdd (tVarD 12) (tTupD (tConsD (tVarD 6) tNilD))) tNilD)))))) (sDropD (tMethD dAppend (tVarD 10) (tConsD (tTupD (tConsD (tVarD 11) (tConsD (tOpD dAdd (tVarD 12) (tTupD (tConsD (tVarD 6) tNilD))) tNilD))) tNilD))) sNextD)
theorem ru_trees_of_0 {E : EndsD} {ρ : Rho} {st : Stor} : rk_trees_of_0 E ρ st = (sIfD (tOrD (tTruD (tVarD 13)) (tTruD (tCallD sp_hangs_by (tConsD (tVarD 2) (tConsD (tVarD 3) (tConsD (tOpD dAdd (tVarD 12) (tTupD (tConsD (tVarD 6) tNilD))) tNilD)))))) (sDropD (tMethD dAppend (tVarD 10) (tConsD (tTupD (tConsD (tVarD 11) (tConsD (tOpD dAdd (tVarD 12) (tTupD (tConsD (tVarD 6) tNilD))) tNilD))) tNilD))) sNextD) E ρ st := rfl
def rd_trees_of : TSD := (sSeqD (sAsgD (tVarD 0) (gTupD 3 (gConsD (gNameD 2) (gConsD (gNameD 3) (gConsD (gNameD 4) gNilD)))))
    (sSeqD (sAsgD (tForget (tCallD dTuple (tConsD (tLcD (iEnumD (tVarD 1)) (gTup' 2 (gConsD (gNameD 6) (gConsD (gNameD 7) gNilD))) (tTestD (tOpD dEq (tVarD 7) (tUnD dNeg (tCD (.int 1))))) (tVarD 6) [6, 7]) tNilD))) (gNameD 5))
    (sSeqD (sAsgD (tForget (tCallD dTuple (tConsD (tLcD (iEnumD (tVarD 1)) (gTup' 2 (gConsD (gNameD 6) (gConsD (gNameD 7) gNilD))) (tTestD (tOpD dEq (tVarD 7) (tCD (.int 0)))) (tVarD 6) [6, 7]) tNilD))) (gNameD 8))
    (sSeqD (sAsgD (tLstD (tConsD (tTupD (tConsD (tVarD 5) (tConsD (tVarD 8) tNilD))) tNilD)) (gNameD 9))
    (sSeqD (sForD (iEnumD (tVarD 1)) (gTup' 2 (gConsD (gNameD 6) (gConsD (gNameD 7) gNilD))) (sSeqD (sIfD (tTestD (tOpD dLe (tVarD 7) (tCD (.int 0)))) sContD sNextD)
    (sSeqD (sAsgD (tLstD tNilD) (gNameD 10))
    (sSeqD (sForD (iSeqD (tVarD 9)) (gTupD 2 (gConsD (gNameD 11) (gConsD (gNameD 12) gNilD))) (sSeqD (sAsgD (tCallD sp_closes_ring (tConsD (tVarD 0) (tConsD (tVarD 11) (tConsD (tVarD 6) tNilD)))) (gNameD 13))
    (sSeqD (sIfD (tNotD (tTruD (tVarD 13))) (sDropD (tMethD dAppend (tVarD 10) (tConsD (tTupD (tConsD (tOpD dAdd (tVarD 11) (tTupD (tConsD (tVarD 6) tNilD))) (tConsD (tVarD 12) tNilD))) tNilD))) sNextD)
    rk_trees_of_0)))
    (sAsgD (tVarD 10) (gNameD 9))))))
    (sRetD (tForget (tCallD dTuple (tConsD (tCallD dSorted (tConsD (tLcD (iSeqD (tVarD 9)) (gTupD 2 (gConsD (gNameD 11) (gConsD (gNameD 4) gNilD))) tYesD (tForget (tCallD dTuple (tConsD (tCallD dSorted (tConsD (tVarD 11) tNilD)) tNilD))) [11, 4]) tNilD)) tNilD)))))))))
abbrev s_tree_product : Stmt := topS 6
abbrev N_tree_product : List Str := ["wiring", "tree", "product", "number"]
theorem sc_tree_product : FnScope N_tree_product ["wiring", "tree"] (defScope s_tree_product) := ⟨rfl, rfl, rfl, by decide +kernel, rfl, by decide +kernel, by decide +kernel⟩
theorem st_tree_product (a0 a1 : D) : startD N_tree_product.length [a0, a1] = [some a0, some a1, none, none] := rfl
def rd_tree_product : TSD := (sSeqD (sAsgD (tCD (.int 1)) (gNameD 2))
    (sSeqD (sForD (iSeqD (tVarD 1)) (gNameD 3) (sIfD (tTestD (tOpD dNe (tOpD dIx (tVarD 0) (tVarD 3)) (tUnD dNeg (tCD (.int 1))))) (sAsgD (tOpD dMul (tVarD 2) (tOpD dIx (tVarD 0) (tVarD 3))) (gNameD 2)) sNextD))
    (sRetD (tVarD 2))))
abbrev s_tree_flow : Stmt := topS 7
abbrev N_tree_flow : List Str := ["grid", "tree", "place", "other", "places", "links", "_", "flow", "number", "link", "carried", "heads", "kept"]
theorem sc_tree_flow : FnScope N_tree_flow ["grid", "tree", "place", "other"] (defScope s_tree_flow) := ⟨rfl, rfl, rfl, by decide +kernel, rfl, by decide +kernel, by decide +kernel⟩
theorem st_tree_flow (a0 a1 a2 a3 : D) : startD N_tree_flow.length [a0, a1, a2, a3] = [some a0, some a1, some a2, some a3, none, none, none, none, none, none, none, none, none] := rfl
def rk_tree_flow_0 : TSD := (sDropD (tMethD dAppend (tVarD 7) (tConsD (tVarD 10) tNilD)))
theorem ru_tree_flow_0 {E : EndsD} {ρ : Rho} {st : Stor} : rk_tree_flow_0 E ρ st = (sDropD (tMethD dAppend (tVarD 7) (tConsD (tVarD 10) tNilD))) E ρ st := rfl
def rd_tree_flow : TSD := (sSeqD (sAsgD (tVarD 0) (gTupD 3 (gConsD (gNameD 4) (gConsD (gNameD 5) (gConsD (gNameD 6) gNilD)))))
    (sSeqD (sAsgD (tLstD tNilD) (gNameD 7))
    (sSeqD (sForD (iEnumD (tVarD 5)) (gTup' 2 (gConsD (gNameD 8) (gConsD (gNameD 9) gNilD))) (sSeqD (sAsgD (tCD (.int 0)) (gNameD 10))
    (sSeqD (sIfD (tTestD (tOpD dIn (tVarD 8) (tVarD 1))) (sSeqD (sAsgD (tCallD sp_heads_by (tConsD (tVarD 4) (tConsD (tLcD (iSeqD (tVarD 1)) (gNameD 12) (tTestD (tOpD dNe (tVarD 12) (tVarD 8))) (tOpD dIx (tVarD 5) (tVarD 12)) [12]) (tConsD (tTupD tNilD) tNilD)))) (gNameD 11))
    (sIfD (tTestD (tOpD dNe (tOpD dDget (tVarD 11) (tVarD 2)) (tOpD dDget (tVarD 11) (tVarD 3)))) (sSeqD (sAsgD (tUnD dNeg (tCD (.int 1))) (gNameD 10))
    (sIfD (tTestD (tOpD dEq (tOpD dDget (tVarD 11) (tOpD dIx (tVarD 9) (tCD (.int 0)))) (tOpD dDget (tVarD 11) (tVarD 2)))) (sAsgD (tCD (.int 1)) (gNameD 10)) sNextD)) sNextD)) sNextD)
    rk_tree_flow_0)))
    (sRetD (tForget (tCallD dTuple (tConsD (tVarD 7) tNilD)))))))
abbrev s__law_tape : Stmt := topS 9
abbrev N__law_tape : List Str := ["script", "great", "cell", "mixed"]
theorem sc__law_tape : FnScope N__law_tape ["script"] (defScope s__law_tape) := ⟨rfl, rfl, rfl, by decide +kernel, rfl, by decide +kernel, by decide +kernel⟩
theorem st__law_tape (a0 : D) : startD N__law_tape.length [a0] = [some a0, none, none, none] := rfl
def rd__law_tape : TSD := (sSeqD (sAsgD (tLcD (iSeqD (tVarD 0)) (gNameD 2) (tTestD (tOpD dGe (tCallD dAbs (tConsD (tVarD 2) tNilD)) (tCD (.int 1000000000000000000)))) (tOpD dAdd (tOpD dMul (tCD (.int 2)) (tCallD dAbs (tConsD (tVarD 2) tNilD))) (tCallD dInt (tConsD (tOpD dLt (tVarD 2) (tCD (.int 0))) tNilD))) [2]) (gNameD 1))
    (sSeqD (sAsgD (tCD (.int 23606)) (gNameD 3))
    (sSeqD (sForD (iSeqD (tVarD 0)) (gNameD 2) (sAsgD (tOpD dMod (tCallD dInt (tConsD (tOpD dAdd (tOpD dAdd (tOpD dMul (tVarD 3) (tCD (.int 6906969069012345671))) (tVarD 2)) (tCD (.int 9007199254740881))) tNilD)) (tCD (.int 2305843009213693951))) (gNameD 3)))
    (sRetD (tLstD (tConsD (tVarD 1) (tConsD (tVarD 3) tNilD)))))))
abbrev s__law_draw : Stmt := topS 10
abbrev N__law_draw : List Str := ["tape", "many", "number", "rest", "mixed"]
theorem sc__law_draw : FnScope N__law_draw ["tape", "many"] (defScope s__law_draw) := ⟨rfl, rfl, rfl, by decide +kernel, rfl, by decide +kernel, by decide +kernel⟩
theorem st__law_draw (a0 a1 : D) : startD N__law_draw.length [a0, a1] = [some a0, some a1, none, none, none] := rfl
def rk__law_draw_0 : TSD := (sRetD (tOpD dMod (tCallD dInt (tConsD (tVarD 2) tNilD)) (tVarD 1)))
theorem ru__law_draw_0 {E : EndsD} {ρ : Rho} {st : Stor} : rk__law_draw_0 E ρ st = (sRetD (tOpD dMod (tCallD dInt (tConsD (tVarD 2) tNilD)) (tVarD 1))) E ρ st := rfl
def rk__law_draw_1 : TSD := (sSeqD (sAsgD (tOpD dMod (tCallD dInt (tConsD (tOpD dAdd (tOpD dMul (tOpD dIx (tVarD 0) (tCD (.int 1))) (tCD (.int 6906969069012345671))) (tCD (.int 9007199254740881))) tNilD)) (tCD (.int 2305843009213693951))) (gNameD 4))
    (sSeqD (sAsgD (tVarD 4) (gSubD (tVarD 0) (tCD (.int 1)) dSetL))
    (sRetD (tOpD dMod (tCallD dInt (tConsD (tOpD dFdiv (tVarD 4) (tCD (.int 98317))) tNilD)) (tVarD 1)))))
theorem ru__law_draw_1 {E : EndsD} {ρ : Rho} {st : Stor} : rk__law_draw_1 E ρ st = (sSeqD (sAsgD (tOpD dMod (tCallD dInt (tConsD (tOpD dAdd (tOpD dMul (tOpD dIx (tVarD 0) (tCD (.int 1))) (tCD (.int 6906969069012345671))) (tCD (.int 9007199254740881))) tNilD)) (tCD (.int 2305843009213693951))) (gNameD 4))
    (sSeqD (sAsgD (tVarD 4) (gSubD (tVarD 0) (tCD (.int 1)) dSetL))
    (sRetD (tOpD dMod (tCallD dInt (tConsD (tOpD dFdiv (tVarD 4) (tCD (.int 98317))) tNilD)) (tVarD 1))))) E ρ st := rfl
def rd__law_draw : TSD := (sSeqD (sIfD (tTestD (tOpD dGt (tCallD dLen (tConsD (tOpD dIx (tVarD 0) (tCD (.int 0))) tNilD)) (tCD (.int 0)))) (sSeqD (sAsgD (tOpD dIx (tOpD dIx (tVarD 0) (tCD (.int 0))) (tCD (.int 0))) (gNameD 2))
    (sSeqD (sAsgD (tOpD dFdiv (tVarD 2) (tVarD 1)) (gNameD 3))
    (sSeqD (sAsgD (tVarD 3) (gSubD (tOpD dIx (tVarD 0) (tCD (.int 0))) (tCD (.int 0)) dSetL))
    (sSeqD (sIfD (tTestD (tOpD dEq (tVarD 3) (tCD (.int 0)))) (sDropD (tMethD dPopAt (tOpD dIx (tVarD 0) (tCD (.int 0))) (tConsD (tCD (.int 0)) tNilD))) sNextD)
    rk__law_draw_0)))) sNextD)
    rk__law_draw_1)
abbrev s__law_same : Stmt := topS 11
abbrev N__law_same : List Str := ["due", "told", "work", "pair", "one", "other", "k"]
theorem sc__law_same : FnScope N__law_same ["due", "told"] (defScope s__law_same) := ⟨rfl, rfl, rfl, by decide +kernel, rfl, by decide +kernel, by decide +kernel⟩
theorem st__law_same (a0 a1 : D) : startD N__law_same.length [a0, a1] = [some a0, some a1, none, none, none, none, none] := rfl
def rd__law_same : TSD := (sSeqD (sAsgD (tLstD (tConsD (tTupD (tConsD (tVarD 0) (tConsD (tVarD 1) tNilD))) tNilD)) (gNameD 2))
    (sSeqD (sWhileD (tTestD (tOpD dGt (tCallD dLen (tConsD (tVarD 2) tNilD)) (tCD (.int 0)))) (sSeqD (sAsgD (tMethD dPop (tVarD 2) tNilD) (gNameD 3))
    (sSeqD (sAsgD (tOpD dIx (tVarD 3) (tCD (.int 0))) (gNameD 4))
    (sSeqD (sAsgD (tOpD dIx (tVarD 3) (tCD (.int 1))) (gNameD 5))
    (sIfD (tTestD (tOpD (dIsN false) (tVarD 4) (tCD .non))) (sIfD (tTestD (tOpD (dIsN true) (tVarD 5) (tCD .non))) (sRetD (tCD (.bl false))) sNextD) (sIfD (tTruD (tUnD (dIsi .bool) (tVarD 4))) (sIfD (tOrD (tNotD (tTruD (tUnD (dIsi .bool) (tVarD 5)))) (tTestD (tOpD dNe (tVarD 4) (tVarD 5)))) (sRetD (tCD (.bl false))) sNextD) (sIfD (tTruD (tUnD (dIsi .int) (tVarD 4))) (sIfD (tOrD (tTruD (tUnD (dIsi .bool) (tVarD 5))) (tOrD (tNotD (tTruD (tUnD (dIsi .int) (tVarD 5)))) (tTestD (tOpD dNe (tVarD 4) (tVarD 5))))) (sRetD (tCD (.bl false))) sNextD) (sIfD (tTruD (tUnD (dIsi .str) (tVarD 4))) (sIfD (tOrD (tNotD (tTruD (tUnD (dIsi .str) (tVarD 5)))) (tTestD (tOpD dNe (tVarD 4) (tVarD 5)))) (sRetD (tCD (.bl false))) sNextD) (sIfD (tTruD (tUnD (dIsi .tuple) (tVarD 4))) (sSeqD (sIfD (tOrD (tNotD (tTruD (tUnD (dIsi .tuple) (tVarD 5)))) (tTestD (tOpD dNe (tCallD dLen (tConsD (tVarD 4) tNilD)) (tCallD dLen (tConsD (tVarD 5) tNilD))))) (sRetD (tCD (.bl false))) sNextD)
    (sDropD (tMethD dExtend (tVarD 2) (tConsD (tLcD (iRng1D (tConsD (tCallD dLen (tConsD (tVarD 4) tNilD)) tNilD)) (gNameD 6) tYesD (tTupD (tConsD (tOpD dIx (tVarD 4) (tVarD 6)) (tConsD (tOpD dIx (tVarD 5) (tVarD 6)) tNilD))) [6]) tNilD)))) (sSeqD (sIfD (tOrD (tNotD (tTruD (tUnD (dIsi .list) (tVarD 5)))) (tTestD (tOpD dNe (tCallD dLen (tConsD (tVarD 4) tNilD)) (tCallD dLen (tConsD (tVarD 5) tNilD))))) (sRetD (tCD (.bl false))) sNextD)
    (sDropD (tMethD dExtend (tVarD 2) (tConsD (tLcD (iRng1D (tConsD (tCallD dLen (tConsD (tVarD 4) tNilD)) tNilD)) (gNameD 6) tYesD (tTupD (tConsD (tOpD dIx (tVarD 4) (tVarD 6)) (tConsD (tOpD dIx (tVarD 5) (tVarD 6)) tNilD))) [6]) tNilD)))))))))))))
    (sRetD (tCD (.bl true)))))
abbrev s__law_names : Stmt := topS 12
abbrev N__law_names : List Str := ["tape", "many", "names", "turn", "name", "place", "other"]
theorem sc__law_names : FnScope N__law_names ["tape", "many"] (defScope s__law_names) := ⟨rfl, rfl, rfl, by decide +kernel, rfl, by decide +kernel, by decide +kernel⟩
theorem st__law_names (a0 a1 : D) : startD N__law_names.length [a0, a1] = [some a0, some a1, none, none, none, none, none] := rfl
def rk__law_names_0 (t : Addr) : TSD := (sDropD (tMethD dAppend (tVarD 2) (tConsD (tVarD 4) tNilD)))
theorem ru__law_names_0 {t : Addr} {E : EndsD} {ρ : Rho} {st : Stor} : rk__law_names_0 t E ρ st = (sDropD (tMethD dAppend (tVarD 2) (tConsD (tVarD 4) tNilD))) E ρ st := rfl
def rd__law_names (t : Addr) : TSD := (sSeqD (sAsgD (tLstD tNilD) (gNameD 2))
    (sSeqD (sForD (iRng1D (tConsD (tVarD 1) tNilD)) (gNameD 3) (sSeqD (sAsgD (tOpD dIx (tCD (.str (Str.ofString "abcpqz"))) (tCallD (sp__law_draw t) (tConsD (tVarD 0) (tConsD (tCD (.int 6)) tNilD)))) (gNameD 4))
    (sSeqD (sForD (iRng1D (tConsD (tOpD dIx (tLstD (tConsD (tCD (.int 0)) (tConsD (tCD (.int 1)) (tConsD (tCD (.int 1)) (tConsD (tCD (.int 2)) (tConsD (tCD (.int 7)) tNilD)))))) (tCallD (sp__law_draw t) (tConsD (tVarD 0) (tConsD (tCD (.int 5)) tNilD)))) tNilD)) (gNameD 5) (sAsgD (tOpD dAdd (tVarD 4) (tOpD dIx (tCD (.str (Str.ofString "a0bz9"))) (tCallD (sp__law_draw t) (tConsD (tVarD 0) (tConsD (tCD (.int 5)) tNilD))))) (gNameD 4)))
    (sSeqD (sForD (iRng1D (tConsD (tOpD dAdd (tVarD 1) (tCD (.int 1))) tNilD)) (gNameD 6) (sSeqD (sIfD (tTestD (tOpD dNotIn (tVarD 4) (tVarD 2))) sBreakD sNextD)
    (sAsgD (tOpD dAdd (tCD (.str (Str.ofString "n"))) (tCallD dStrI (tConsD (tVarD 6) tNilD))) (gNameD 4))))
    (rk__law_names_0 t)))))
    (sRetD (tVarD 2))))
abbrev s__law_apart : Stmt := topS 13
abbrev N__law_apart : List Str := ["many", "ends", "out", "group", "k", "at", "one", "other", "label"]
theorem sc__law_apart : FnScope N__law_apart ["many", "ends", "out"] (defScope s__law_apart) := ⟨rfl, rfl, rfl, by decide +kernel, rfl, by decide +kernel, by decide +kernel⟩
theorem st__law_apart (a0 a1 a2 : D) : startD N__law_apart.length [a0, a1, a2] = [some a0, some a1, some a2, none, none, none, none, none, none] := rfl
def rd__law_apart : TSD := (sSeqD (sAsgD (tLcD (iRng1D (tConsD (tVarD 0) tNilD)) (gNameD 4) tYesD (tVarD 4) [4]) (gNameD 3))
    (sSeqD (sForD (iRng1D (tConsD (tCallD dLen (tConsD (tVarD 1) tNilD)) tNilD)) (gNameD 5) (sSeqD (sAsgD (tOpD dIx (tVarD 3) (tOpD dIx (tOpD dIx (tVarD 1) (tVarD 5)) (tCD (.int 0)))) (gNameD 6))
    (sSeqD (sAsgD (tOpD dIx (tVarD 3) (tOpD dIx (tOpD dIx (tVarD 1) (tVarD 5)) (tCD (.int 1)))) (gNameD 7))
    (sIfD (tAndD (tTestD (tOpD dNotIn (tVarD 5) (tVarD 2))) (tTestD (tOpD dNe (tVarD 6) (tVarD 7)))) (sAsgD (tLcD (iSeqD (tVarD 3)) (gNameD 8) tYesD (tOpD dAdd (tVarD 6) (tOpD dMul (tOpD dSub (tVarD 8) (tVarD 6)) (tCallD dInt (tConsD (tOpD dNe (tVarD 8) (tVarD 7)) tNilD)))) [8]) (gNameD 3)) sNextD))))
    (sRetD (tVarD 3))))
abbrev s__law_whole_out : Stmt := topS 14
abbrev N__law_whole_out : List Str := ["many", "ends", "out", "group"]
theorem sc__law_whole_out : FnScope N__law_whole_out ["many", "ends", "out"] (defScope s__law_whole_out) := ⟨rfl, rfl, rfl, by decide +kernel, rfl, by decide +kernel, by decide +kernel⟩
theorem st__law_whole_out (a0 a1 a2 : D) : startD N__law_whole_out.length [a0, a1, a2] = [some a0, some a1, some a2, none] := rfl
def rd__law_whole_out : TSD := (sSeqD (sAsgD (tCallD sp__law_apart (tConsD (tVarD 0) (tConsD (tVarD 1) (tConsD (tVarD 2) tNilD)))) (gNameD 3))
    (sRetD (tOpD dEq (tMethD dCount (tVarD 3) (tConsD (tOpD dIx (tVarD 3) (tCD (.int 0))) tNilD)) (tVarD 0))))
abbrev s__law_admittance : Stmt := topS 15
abbrev N__law_admittance : List Str := ["tape", "kind", "low"]
theorem sc__law_admittance : FnScope N__law_admittance ["tape"] (defScope s__law_admittance) := ⟨rfl, rfl, rfl, by decide +kernel, rfl, by decide +kernel, by decide +kernel⟩
theorem st__law_admittance (a0 : D) : startD N__law_admittance.length [a0] = [some a0, none, none] := rfl
def rd__law_admittance (t : Addr) : TSD := (sSeqD (sAsgD (tCallD (sp__law_draw t) (tConsD (tVarD 0) (tConsD (tCD (.int 6)) tNilD))) (gNameD 1))
    (sSeqD (sIfD (tTestD (tOpD dEq (tVarD 1) (tCD (.int 0)))) (sRetD (tCD .non)) sNextD)
    (sSeqD (sIfD (tTestD (tOpD dLt (tVarD 1) (tCD (.int 3)))) (sSeqD (sAsgD (tOpD dAdd (tCD (.int 1)) (tCallD (sp__law_draw t) (tConsD (tVarD 0) (tConsD (tCD (.int 6)) tNilD)))) (gNameD 2))
    (sRetD (tTupD (tConsD (tVarD 2) (tConsD (tVarD 2) tNilD))))) sNextD)
    (sSeqD (sIfD (tTestD (tOpD dEq (tVarD 1) (tCD (.int 3)))) (sSeqD (sAsgD (tOpD dAdd (tCD (.int 1)) (tCallD (sp__law_draw t) (tConsD (tVarD 0) (tConsD (tCD (.int 6)) tNilD)))) (gNameD 2))
    (sRetD (tTupD (tConsD (tVarD 2) (tConsD (tOpD dAdd (tVarD 2) (tCallD (sp__law_draw t) (tConsD (tVarD 0) (tConsD (tCD (.int 5)) tNilD)))) tNilD))))) sNextD)
    (sSeqD (sAsgD (tOpD dAdd (tCD (.int 1)) (tCallD (sp__law_draw t) (tConsD (tVarD 0) (tConsD (tCD (.int 1000)) tNilD)))) (gNameD 2))
    (sRetD (tTupD (tConsD (tVarD 2) (tConsD (tOpD dAdd (tVarD 2) (tCallD (sp__law_draw t) (tConsD (tVarD 0) (tConsD (tOpD dSub (tCD (.int 1001)) (tVarD 2)) tNilD)))) tNilD)))))))))
abbrev s__law_room : Stmt := topS 16
abbrev N__law_room : List Str := ["tape"]
theorem sc__law_room : FnScope N__law_room ["tape"] (defScope s__law_room) := ⟨rfl, rfl, rfl, by decide +kernel, rfl, by decide +kernel, by decide +kernel⟩
theorem st__law_room (a0 : D) : startD N__law_room.length [a0] = [some a0] := rfl
def rd__law_room (t : Addr) : TSD := (sRetD (tOpD dIx (tLstD (tConsD (tCallD (sp__law_draw t) (tConsD (tVarD 0) (tConsD (tCD (.int 9)) tNilD))) (tConsD (tCD (.int 0)) (tConsD (tOpD dSub (tCD (.int 1000000)) (tCallD (sp__law_draw t) (tConsD (tVarD 0) (tConsD (tCD (.int 2)) tNilD)))) (tConsD (tCallD (sp__law_draw t) (tConsD (tVarD 0) (tConsD (tCD (.int 1000001)) tNilD))) tNilD))))) (tCallD (sp__law_draw t) (tConsD (tVarD 0) (tConsD (tCD (.int 4)) tNilD)))))
abbrev s__law_ends : Stmt := topS 17
abbrev N__law_ends : List Str := ["tape", "many", "links", "order", "ends", "k", "turn", "one", "told", "at", "pair"]
theorem sc__law_ends : FnScope N__law_ends ["tape", "many", "links"] (defScope s__law_ends) := ⟨rfl, rfl, rfl, by decide +kernel, rfl, by decide +kernel, by decide +kernel⟩
theorem st__law_ends (a0 a1 a2 : D) : startD N__law_ends.length [a0, a1, a2] = [some a0, some a1, some a2, none, none, none, none, none, none, none, none] := rfl
def rk__law_ends_0 (t : Addr) : TSD := (sDropD (tMethD dAppend (tVarD 8) (tConsD (tVarD 10) tNilD)))
theorem ru__law_ends_0 {t : Addr} {E : EndsD} {ρ : Rho} {st : Stor} : rk__law_ends_0 t E ρ st = (sDropD (tMethD dAppend (tVarD 8) (tConsD (tVarD 10) tNilD))) E ρ st := rfl
def rd__law_ends (t : Addr) : TSD := (sSeqD (sAsgD (tCallD (sp__law_order t) (tConsD (tVarD 0) (tConsD (tVarD 1) tNilD))) (gNameD 3))
    (sSeqD (sAsgD (tLstD tNilD) (gNameD 4))
    (sSeqD (sForD (iRng2D (tConsD (tCD (.int 1)) (tConsD (tVarD 1) tNilD))) (gNameD 5) (sDropD (tMethD dAppend (tVarD 4) (tConsD (tTupD (tConsD (tOpD dIx (tVarD 3) (tVarD 5)) (tConsD (tOpD dIx (tVarD 3) (tCallD (sp__law_draw t) (tConsD (tVarD 0) (tConsD (tVarD 5) tNilD)))) tNilD))) tNilD))))
    (sSeqD (sForD (iRng1D (tConsD (tOpD dSub (tVarD 2) (tCallD dLen (tConsD (tVarD 4) tNilD))) tNilD)) (gNameD 6) (sSeqD (sAsgD (tCallD (sp__law_draw t) (tConsD (tVarD 0) (tConsD (tVarD 1) tNilD))) (gNameD 7))
    (sDropD (tMethD dAppend (tVarD 4) (tConsD (tTupD (tConsD (tVarD 7) (tConsD (tOpD dMod (tCallD dInt (tConsD (tOpD dAdd (tOpD dAdd (tVarD 7) (tCD (.int 1))) (tCallD (sp__law_draw t) (tConsD (tVarD 0) (tConsD (tOpD dSub (tVarD 1) (tCD (.int 1))) tNilD)))) tNilD)) (tVarD 1)) tNilD))) tNilD)))))
    (sSeqD (sAsgD (tLstD tNilD) (gNameD 8))
    (sSeqD (sForD (iSeqD (tCallD (sp__law_order t) (tConsD (tVarD 0) (tConsD (tCallD dLen (tConsD (tVarD 4) tNilD)) tNilD)))) (gNameD 9) (sSeqD (sAsgD (tOpD dIx (tVarD 4) (tVarD 9)) (gNameD 10))
    (sSeqD (sIfD (tTestD (tOpD dEq (tCallD (sp__law_draw t) (tConsD (tVarD 0) (tConsD (tCD (.int 2)) tNilD))) (tCD (.int 1)))) (sAsgD (tTupD (tConsD (tOpD dIx (tVarD 10) (tCD (.int 1))) (tConsD (tOpD dIx (tVarD 10) (tCD (.int 0))) tNilD))) (gNameD 10)) sNextD)
    (rk__law_ends_0 t))))
    (sRetD (tVarD 8))))))))
abbrev s__law_order : Stmt := topS 18
abbrev N__law_order : List Str := ["tape", "many", "left", "k", "order", "turn"]
theorem sc__law_order : FnScope N__law_order ["tape", "many"] (defScope s__law_order) := ⟨rfl, rfl, rfl, by decide +kernel, rfl, by decide +kernel, by decide +kernel⟩
theorem st__law_order (a0 a1 : D) : startD N__law_order.length [a0, a1] = [some a0, some a1, none, none, none, none] := rfl
def rd__law_order (t : Addr) : TSD := (sSeqD (sAsgD (tLcD (iRng1D (tConsD (tVarD 1) tNilD)) (gNameD 3) tYesD (tVarD 3) [3]) (gNameD 2))
    (sSeqD (sAsgD (tLstD tNilD) (gNameD 4))
    (sSeqD (sForD (iRng1D (tConsD (tVarD 1) tNilD)) (gNameD 5) (sDropD (tMethD dAppend (tVarD 4) (tConsD (tMethD dPopAt (tVarD 2) (tConsD (tCallD (sp__law_draw t) (tConsD (tVarD 0) (tConsD (tCallD dLen (tConsD (tVarD 2) tNilD)) tNilD))) tNilD)) tNilD))))
    (sRetD (tVarD 4)))))
abbrev s__law_states : Stmt := topS 19
abbrev N__law_states : List Str := ["tape", "many", "ends", "most", "states", "turn", "out", "at"]
theorem sc__law_states : FnScope N__law_states ["tape", "many", "ends", "most"] (defScope s__law_states) := ⟨rfl, rfl, rfl, by decide +kernel, rfl, by decide +kernel, by decide +kernel⟩
theorem st__law_states (a0 a1 a2 a3 : D) : startD N__law_states.length [a0, a1, a2, a3] = [some a0, some a1, some a2, some a3, none, none, none, none] := rfl
def rd__law_states (t : Addr) : TSD := (sSeqD (sAsgD (tLstD (tConsD (tTupD tNilD) tNilD)) (gNameD 4))
    (sSeqD (sForD (iRng1D (tConsD (tOpD dMul (tCD (.int 3)) (tVarD 3)) tNilD)) (gNameD 5) (sSeqD (sAsgD (tLcD (iRng1D (tConsD (tCallD dLen (tConsD (tVarD 2) tNilD)) tNilD)) (gNameD 7) (tTestD (tOpD dEq (tCallD (sp__law_draw t) (tConsD (tVarD 0) (tConsD (tOpD dAdd (tCD (.int 3)) (tOpD dMod (tVarD 5) (tCD (.int 3)))) tNilD))) (tCD (.int 0)))) (tVarD 7) [7]) (gNameD 6))
    (sIfD (tAndD (tTestD (tOpD dLe (tCallD dLen (tConsD (tVarD 4) tNilD)) (tVarD 3))) (tAndD (tTestD (tOpD dNotIn (tForget (tCallD dTuple (tConsD (tVarD 6) tNilD))) (tVarD 4))) (tTruD (tCallD sp__law_whole_out (tConsD (tVarD 1) (tConsD (tVarD 2) (tConsD (tVarD 6) tNilD))))))) (sDropD (tMethD dAppend (tVarD 4) (tConsD (tForget (tCallD dTuple (tConsD (tVarD 6) tNilD))) tNilD))) sNextD)))
    (sRetD (tVarD 4))))
abbrev s__law_grid : Stmt := topS 20
abbrev N__law_grid : List Str := ["tape", "many", "links", "most", "names", "ends", "rows", "pair"]
theorem sc__law_grid : FnScope N__law_grid ["tape", "many", "links", "most"] (defScope s__law_grid) := ⟨rfl, rfl, rfl, by decide +kernel, rfl, by decide +kernel, by decide +kernel⟩
theorem st__law_grid (a0 a1 a2 a3 : D) : startD N__law_grid.length [a0, a1, a2, a3] = [some a0, some a1, some a2, some a3, none, none, none, none] := rfl
def rk__law_grid_0 (t : Addr) : TSD := (sSeqD (sAsgD (tLstD tNilD) (gNameD 6))
    (sSeqD (sForD (iSeqD (tVarD 5)) (gNameD 7) (sDropD (tMethD dAppend (tVarD 6) (tConsD (tTupD (tConsD (tOpD dIx (tVarD 4) (tOpD dIx (tVarD 7) (tCD (.int 0)))) (tConsD (tOpD dIx (tVarD 4) (tOpD dIx (tVarD 7) (tCD (.int 1)))) (tConsD (tCallD (sp__law_admittance t) (tConsD (tVarD 0) tNilD)) (tConsD (tCallD (sp__law_room t) (tConsD (tVarD 0) tNilD)) (tConsD (tCallD (sp__law_room t) (tConsD (tVarD 0) tNilD)) tNilD)))))) tNilD))))
    (sRetD (tTupD (tConsD (tForget (tCallD dTuple (tConsD (tVarD 4) tNilD))) (tConsD (tForget (tCallD dTuple (tConsD (tVarD 6) tNilD))) (tConsD (tForget (tCallD dTuple (tConsD (tCallD dSorted (tConsD (tCallD (sp__law_states t) (tConsD (tVarD 0) (tConsD (tVarD 1) (tConsD (tVarD 5) (tConsD (tVarD 3) tNilD))))) tNilD)) tNilD))) tNilD)))))))
theorem ru__law_grid_0 {t : Addr} {E : EndsD} {ρ : Rho} {st : Stor} : rk__law_grid_0 t E ρ st = (sSeqD (sAsgD (tLstD tNilD) (gNameD 6))
    (sSeqD (sForD (iSeqD (tVarD 5)) (gNameD 7) (sDropD (tMethD dAppend (tVarD 6) (tConsD (tTupD (tConsD (tOpD dIx (tVarD 4) (tOpD dIx (tVarD 7) (tCD (.int 0)))) (tConsD (tOpD dIx (tVarD 4) (tOpD dIx (tVarD 7) (tCD (.int 1)))) (tConsD (tCallD (sp__law_admittance t) (tConsD (tVarD 0) tNilD)) (tConsD (tCallD (sp__law_room t) (tConsD (tVarD 0) tNilD)) (tConsD (tCallD (sp__law_room t) (tConsD (tVarD 0) tNilD)) tNilD)))))) tNilD))))
    (sRetD (tTupD (tConsD (tForget (tCallD dTuple (tConsD (tVarD 4) tNilD))) (tConsD (tForget (tCallD dTuple (tConsD (tVarD 6) tNilD))) (tConsD (tForget (tCallD dTuple (tConsD (tCallD dSorted (tConsD (tCallD (sp__law_states t) (tConsD (tVarD 0) (tConsD (tVarD 1) (tConsD (tVarD 5) (tConsD (tVarD 3) tNilD))))) tNilD)) tNilD))) tNilD))))))) E ρ st := rfl
def rd__law_grid (t : Addr) : TSD := (sSeqD (sAsgD (tCallD dSorted (tConsD (tCallD (sp__law_names t) (tConsD (tVarD 0) (tConsD (tVarD 1) tNilD))) tNilD)) (gNameD 4))
    (sSeqD (sAsgD (tLstD tNilD) (gNameD 5))
    (sSeqD (sIfD (tTestD (tOpD dGt (tVarD 1) (tCD (.int 1)))) (sAsgD (tCallD (sp__law_ends t) (tConsD (tVarD 0) (tConsD (tVarD 1) (tConsD (tVarD 2) tNilD)))) (gNameD 5)) sNextD)
    (rk__law_grid_0 t))))
abbrev s__law_read : Stmt := topS 21
abbrev N__law_read : List Str := ["grid", "link"]
theorem sc__law_read : FnScope N__law_read ["grid"] (defScope s__law_read) := ⟨rfl, rfl, rfl, by decide +kernel, rfl, by decide +kernel, by decide +kernel⟩
theorem st__law_read (a0 : D) : startD N__law_read.length [a0] = [some a0, none] := rfl
def rd__law_read : TSD := (sRetD (tLcD (iSeqD (tOpD dIx (tVarD 0) (tCD (.int 1)))) (gNameD 1) tYesD (tTupD (tConsD (tIndexD (tOpD dIx (tVarD 0) (tCD (.int 0))) (tConsD (tOpD dIx (tVarD 1) (tCD (.int 0))) tNilD)) (tConsD (tIndexD (tOpD dIx (tVarD 0) (tCD (.int 0))) (tConsD (tOpD dIx (tVarD 1) (tCD (.int 1))) tNilD)) tNilD))) [1]))
abbrev s__law_trees : Stmt := topS 22
abbrev N__law_trees : List Str := ["grid", "wiring", "ends", "rows", "k", "at", "longer", "row", "one", "other", "label"]
theorem sc__law_trees : FnScope N__law_trees ["grid", "wiring"] (defScope s__law_trees) := ⟨rfl, rfl, rfl, by decide +kernel, rfl, by decide +kernel, by decide +kernel⟩
theorem st__law_trees (a0 a1 : D) : startD N__law_trees.length [a0, a1] = [some a0, some a1, none, none, none, none, none, none, none, none, none] := rfl
def rk__law_trees_0 : TSD := (sIfD (tAndD (tTestD (tOpD dNe (tOpD dIx (tVarD 1) (tVarD 5)) (tCD (.int 0)))) (tTestD (tOpD dNe (tVarD 8) (tVarD 9)))) (sDropD (tMethD dAppend (tVarD 6) (tConsD (tTupD (tConsD (tOpD dAdd (tOpD dIx (tVarD 7) (tCD (.int 0))) (tTupD (tConsD (tVarD 5) tNilD))) (tConsD (tLcD (iSeqD (tOpD dIx (tVarD 7) (tCD (.int 1)))) (gNameD 10) tYesD (tOpD dAdd (tVarD 8) (tOpD dMul (tOpD dSub (tVarD 10) (tVarD 8)) (tCallD dInt (tConsD (tOpD dNe (tVarD 10) (tVarD 9)) tNilD)))) [10]) tNilD))) tNilD))) sNextD)
theorem ru__law_trees_0 {E : EndsD} {ρ : Rho} {st : Stor} : rk__law_trees_0 E ρ st = (sIfD (tAndD (tTestD (tOpD dNe (tOpD dIx (tVarD 1) (tVarD 5)) (tCD (.int 0)))) (tTestD (tOpD dNe (tVarD 8) (tVarD 9)))) (sDropD (tMethD dAppend (tVarD 6) (tConsD (tTupD (tConsD (tOpD dAdd (tOpD dIx (tVarD 7) (tCD (.int 0))) (tTupD (tConsD (tVarD 5) tNilD))) (tConsD (tLcD (iSeqD (tOpD dIx (tVarD 7) (tCD (.int 1)))) (gNameD 10) tYesD (tOpD dAdd (tVarD 8) (tOpD dMul (tOpD dSub (tVarD 10) (tVarD 8)) (tCallD dInt (tConsD (tOpD dNe (tVarD 10) (tVarD 9)) tNilD)))) [10]) tNilD))) tNilD))) sNextD) E ρ st := rfl
def rd__law_trees : TSD := (sSeqD (sAsgD (tCallD sp__law_read (tConsD (tVarD 0) tNilD)) (gNameD 2))
    (sSeqD (sAsgD (tLstD (tConsD (tTupD (tConsD (tTupD tNilD) (tConsD (tLcD (iRng1D (tConsD (tCallD dLen (tConsD (tOpD dIx (tVarD 0) (tCD (.int 0))) tNilD)) tNilD)) (gNameD 4) tYesD (tVarD 4) [4]) tNilD))) tNilD)) (gNameD 3))
    (sSeqD (sForD (iRng1D (tConsD (tCallD dLen (tConsD (tVarD 2) tNilD)) tNilD)) (gNameD 5) (sSeqD (sAsgD (tLstD tNilD) (gNameD 6))
    (sSeqD (sForD (iSeqD (tVarD 3)) (gNameD 7) (sSeqD (sAsgD (tOpD dIx (tOpD dIx (tVarD 7) (tCD (.int 1))) (tOpD dIx (tOpD dIx (tVarD 2) (tVarD 5)) (tCD (.int 0)))) (gNameD 8))
    (sSeqD (sAsgD (tOpD dIx (tOpD dIx (tVarD 7) (tCD (.int 1))) (tOpD dIx (tOpD dIx (tVarD 2) (tVarD 5)) (tCD (.int 1)))) (gNameD 9))
    (sSeqD (sIfD (tTestD (tOpD dNe (tOpD dIx (tVarD 1) (tVarD 5)) (tUnD dNeg (tCD (.int 1))))) (sDropD (tMethD dAppend (tVarD 6) (tConsD (tVarD 7) tNilD))) sNextD)
    rk__law_trees_0))))
    (sAsgD (tVarD 6) (gNameD 3)))))
    (sRetD (tForget (tCallD dTuple (tConsD (tCallD dSorted (tConsD (tLcD (iSeqD (tVarD 3)) (gNameD 7) (tTestD (tOpD dEq (tCallD dLen (tConsD (tOpD dIx (tVarD 7) (tCD (.int 0))) tNilD)) (tOpD dSub (tCallD dLen (tConsD (tOpD dIx (tVarD 0) (tCD (.int 0))) tNilD)) (tCD (.int 1))))) (tOpD dIx (tVarD 7) (tCD (.int 0))) [7]) tNilD)) tNilD)))))))
abbrev s__law_product : Stmt := topS 23
abbrev N__law_product : List Str := ["wiring", "tree", "product", "at"]
theorem sc__law_product : FnScope N__law_product ["wiring", "tree"] (defScope s__law_product) := ⟨rfl, rfl, rfl, by decide +kernel, rfl, by decide +kernel, by decide +kernel⟩
theorem st__law_product (a0 a1 : D) : startD N__law_product.length [a0, a1] = [some a0, some a1, none, none] := rfl
def rd__law_product : TSD := (sSeqD (sAsgD (tCD (.int 1)) (gNameD 2))
    (sSeqD (sForD (iSeqD (tVarD 1)) (gNameD 3) (sIfD (tTestD (tOpD dGt (tOpD dIx (tVarD 0) (tVarD 3)) (tCD (.int 0)))) (sAsgD (tOpD dMul (tVarD 2) (tOpD dIx (tVarD 0) (tVarD 3))) (gNameD 2)) sNextD))
    (sRetD (tVarD 2))))
abbrev s__law_flow : Stmt := topS 24
abbrev N__law_flow : List Str := ["grid", "tree", "first", "second", "ends", "told", "at", "out", "k", "labels"]
theorem sc__law_flow : FnScope N__law_flow ["grid", "tree", "first", "second"] (defScope s__law_flow) := ⟨rfl, rfl, rfl, by decide +kernel, rfl, by decide +kernel, by decide +kernel⟩
theorem st__law_flow (a0 a1 a2 a3 : D) : startD N__law_flow.length [a0, a1, a2, a3] = [some a0, some a1, some a2, some a3, none, none, none, none, none, none] := rfl
def rd__law_flow : TSD := (sSeqD (sAsgD (tCallD sp__law_read (tConsD (tVarD 0) tNilD)) (gNameD 4))
    (sSeqD (sAsgD (tLstD tNilD) (gNameD 5))
    (sSeqD (sForD (iRng1D (tConsD (tCallD dLen (tConsD (tVarD 4) tNilD)) tNilD)) (gNameD 6) (sSeqD (sAsgD (tLcD (iRng1D (tConsD (tCallD dLen (tConsD (tVarD 4) tNilD)) tNilD)) (gNameD 8) (tOrD (tTestD (tOpD dNotIn (tVarD 8) (tVarD 1))) (tTestD (tOpD dEq (tVarD 8) (tVarD 6)))) (tVarD 8) [8]) (gNameD 7))
    (sSeqD (sAsgD (tCallD sp__law_apart (tConsD (tCallD dLen (tConsD (tOpD dIx (tVarD 0) (tCD (.int 0))) tNilD)) (tConsD (tVarD 4) (tConsD (tVarD 7) tNilD)))) (gNameD 9))
    (sIfD (tOrD (tTestD (tOpD dNotIn (tVarD 6) (tVarD 1))) (tTestD (tOpD dEq (tOpD dIx (tVarD 9) (tVarD 2)) (tOpD dIx (tVarD 9) (tVarD 3))))) (sDropD (tMethD dAppend (tVarD 5) (tConsD (tCD (.int 0)) tNilD))) (sIfD (tTestD (tOpD dEq (tOpD dIx (tVarD 9) (tOpD dIx (tOpD dIx (tVarD 4) (tVarD 6)) (tCD (.int 0)))) (tOpD dIx (tVarD 9) (tVarD 2)))) (sDropD (tMethD dAppend (tVarD 5) (tConsD (tCD (.int 1)) tNilD))) (sDropD (tMethD dAppend (tVarD 5) (tConsD (tUnD dNeg (tCD (.int 1))) tNilD))))))))
    (sRetD (tForget (tCallD dTuple (tConsD (tVarD 5) tNilD)))))))
abbrev s__law_worth : Stmt := topS 25
abbrev N__law_worth : List Str := ["tape", "kind"]
theorem sc__law_worth : FnScope N__law_worth ["tape"] (defScope s__law_worth) := ⟨rfl, rfl, rfl, by decide +kernel, rfl, by decide +kernel, by decide +kernel⟩
theorem st__law_worth (a0 : D) : startD N__law_worth.length [a0] = [some a0, none] := rfl
def rd__law_worth (t : Addr) : TSD := (sSeqD (sAsgD (tCallD (sp__law_draw t) (tConsD (tVarD 0) (tConsD (tCD (.int 4)) tNilD))) (gNameD 1))
    (sSeqD (sIfD (tTestD (tOpD dLt (tVarD 1) (tCD (.int 2)))) (sRetD (tOpD dAdd (tCD (.int 1)) (tCallD (sp__law_draw t) (tConsD (tVarD 0) (tConsD (tCD (.int 6)) tNilD))))) sNextD)
    (sSeqD (sIfD (tTestD (tOpD dEq (tVarD 1) (tCD (.int 2)))) (sRetD (tOpD dAdd (tCD (.int 1)) (tCallD (sp__law_draw t) (tConsD (tVarD 0) (tConsD (tCD (.int 1000)) tNilD))))) sNextD)
    (sRetD (tOpD dSub (tCD (.int 1000000000000)) (tCallD (sp__law_draw t) (tConsD (tVarD 0) (tConsD (tCD (.int 900000000000)) tNilD))))))))
abbrev s__law_wiring : Stmt := topS 26
abbrev N__law_wiring : List Str := ["tape", "grid", "many", "ends", "out", "rigid", "wiring", "at", "kind", "bound", "k", "labels"]
theorem sc__law_wiring : FnScope N__law_wiring ["tape", "grid"] (defScope s__law_wiring) := ⟨rfl, rfl, rfl, by decide +kernel, rfl, by decide +kernel, by decide +kernel⟩
theorem st__law_wiring (a0 a1 : D) : startD N__law_wiring.length [a0, a1] = [some a0, some a1, none, none, none, none, none, none, none, none, none, none] := rfl
def rd__law_wiring (t : Addr) : TSD := (sSeqD (sAsgD (tCallD dLen (tConsD (tOpD dIx (tVarD 1) (tCD (.int 0))) tNilD)) (gNameD 2))
    (sSeqD (sAsgD (tCallD sp__law_read (tConsD (tVarD 1) tNilD)) (gNameD 3))
    (sSeqD (sAsgD (tLstD tNilD) (gNameD 4))
    (sSeqD (sAsgD (tLstD tNilD) (gNameD 5))
    (sSeqD (sAsgD (tLstD tNilD) (gNameD 6))
    (sSeqD (sForD (iRng1D (tConsD (tCallD dLen (tConsD (tVarD 3) tNilD)) tNilD)) (gNameD 7) (sSeqD (sAsgD (tCallD (sp__law_draw t) (tConsD (tVarD 0) (tConsD (tCD (.int 4)) tNilD))) (gNameD 8))
    (sSeqD (sAsgD (tLcD (iRng1D (tConsD (tCallD dLen (tConsD (tVarD 3) tNilD)) tNilD)) (gNameD 10) (tTestD (tOpD dNotIn (tVarD 10) (tVarD 5))) (tVarD 10) [10]) (gNameD 9))
    (sSeqD (sAsgD (tCallD sp__law_apart (tConsD (tVarD 2) (tConsD (tVarD 3) (tConsD (tVarD 9) tNilD)))) (gNameD 11))
    (sIfD (tAndD (tTestD (tOpD dEq (tVarD 8) (tCD (.int 0)))) (tTruD (tCallD sp__law_whole_out (tConsD (tVarD 2) (tConsD (tVarD 3) (tConsD (tOpD dAdd (tVarD 4) (tLstD (tConsD (tVarD 7) tNilD))) tNilD)))))) (sSeqD (sDropD (tMethD dAppend (tVarD 4) (tConsD (tVarD 7) tNilD)))
    (sDropD (tMethD dAppend (tVarD 6) (tConsD (tCD (.int 0)) tNilD)))) (sIfD (tAndD (tTestD (tOpD dEq (tVarD 8) (tCD (.int 1)))) (tTestD (tOpD dNe (tOpD dIx (tVarD 11) (tOpD dIx (tOpD dIx (tVarD 3) (tVarD 7)) (tCD (.int 0)))) (tOpD dIx (tVarD 11) (tOpD dIx (tOpD dIx (tVarD 3) (tVarD 7)) (tCD (.int 1))))))) (sSeqD (sDropD (tMethD dAppend (tVarD 5) (tConsD (tVarD 7) tNilD)))
    (sDropD (tMethD dAppend (tVarD 6) (tConsD (tUnD dNeg (tCD (.int 1))) tNilD)))) (sDropD (tMethD dAppend (tVarD 6) (tConsD (tCallD (sp__law_worth t) (tConsD (tVarD 0) tNilD)) tNilD)))))))))
    (sRetD (tForget (tCallD dTuple (tConsD (tVarD 6) tNilD))))))))))
abbrev s__law_linked : Stmt := topS 27
abbrev N__law_linked : List Str := ["tape", "names", "pairs", "links", "pair", "row"]
theorem sc__law_linked : FnScope N__law_linked ["tape", "names", "pairs"] (defScope s__law_linked) := ⟨rfl, rfl, rfl, by decide +kernel, rfl, by decide +kernel, by decide +kernel⟩
theorem st__law_linked (a0 a1 a2 : D) : startD N__law_linked.length [a0, a1, a2] = [some a0, some a1, some a2, none, none, none] := rfl
def rk__law_linked_0 (t : Addr) : TSD := (sDropD (tMethD dAppend (tVarD 3) (tConsD (tTupD (tConsD (tOpD dIx (tVarD 1) (tOpD dIx (tVarD 5) (tCD (.int 0)))) (tConsD (tOpD dIx (tVarD 1) (tOpD dIx (tVarD 5) (tCD (.int 1)))) (tConsD (tCallD (sp__law_admittance t) (tConsD (tVarD 0) tNilD)) (tConsD (tCallD (sp__law_room t) (tConsD (tVarD 0) tNilD)) (tConsD (tCallD (sp__law_room t) (tConsD (tVarD 0) tNilD)) tNilD)))))) tNilD)))
theorem ru__law_linked_0 {t : Addr} {E : EndsD} {ρ : Rho} {st : Stor} : rk__law_linked_0 t E ρ st = (sDropD (tMethD dAppend (tVarD 3) (tConsD (tTupD (tConsD (tOpD dIx (tVarD 1) (tOpD dIx (tVarD 5) (tCD (.int 0)))) (tConsD (tOpD dIx (tVarD 1) (tOpD dIx (tVarD 5) (tCD (.int 1)))) (tConsD (tCallD (sp__law_admittance t) (tConsD (tVarD 0) tNilD)) (tConsD (tCallD (sp__law_room t) (tConsD (tVarD 0) tNilD)) (tConsD (tCallD (sp__law_room t) (tConsD (tVarD 0) tNilD)) tNilD)))))) tNilD))) E ρ st := rfl
def rd__law_linked (t : Addr) : TSD := (sSeqD (sAsgD (tLstD tNilD) (gNameD 3))
    (sSeqD (sForD (iSeqD (tVarD 2)) (gNameD 4) (sSeqD (sAsgD (tVarD 4) (gNameD 5))
    (sSeqD (sIfD (tTestD (tOpD dEq (tCallD (sp__law_draw t) (tConsD (tVarD 0) (tConsD (tCD (.int 2)) tNilD))) (tCD (.int 1)))) (sAsgD (tTupD (tConsD (tOpD dIx (tVarD 4) (tCD (.int 1))) (tConsD (tOpD dIx (tVarD 4) (tCD (.int 0))) tNilD))) (gNameD 5)) sNextD)
    (rk__law_linked_0 t))))
    (sRetD (tTupD (tConsD (tForget (tCallD dTuple (tConsD (tVarD 1) tNilD))) (tConsD (tForget (tCallD dTuple (tConsD (tVarD 3) tNilD))) (tConsD (tTupD (tConsD (tTupD tNilD) tNilD)) tNilD)))))))
abbrev s__law_web : Stmt := topS 28
abbrev N__law_web : List Str := ["tape", "many", "pairs", "one", "other", "order", "k"]
theorem sc__law_web : FnScope N__law_web ["tape", "many"] (defScope s__law_web) := ⟨rfl, rfl, rfl, by decide +kernel, rfl, by decide +kernel, by decide +kernel⟩
theorem st__law_web (a0 a1 : D) : startD N__law_web.length [a0, a1] = [some a0, some a1, none, none, none, none, none] := rfl
def rd__law_web (t : Addr) : TSD := (sSeqD (sAsgD (tLstD tNilD) (gNameD 2))
    (sSeqD (sForD (iRng1D (tConsD (tVarD 1) tNilD)) (gNameD 3) (sAsgD (tOpD dAdd (tVarD 2) (tLcD (iRng2D (tConsD (tOpD dAdd (tVarD 3) (tCD (.int 1))) (tConsD (tVarD 1) tNilD))) (gNameD 4) tYesD (tTupD (tConsD (tVarD 3) (tConsD (tVarD 4) tNilD))) [4])) (gNameD 2)))
    (sSeqD (sAsgD (tCallD (sp__law_order t) (tConsD (tVarD 0) (tConsD (tCallD dLen (tConsD (tVarD 2) tNilD)) tNilD))) (gNameD 5))
    (sRetD (tCallD (sp__law_linked t) (tConsD (tVarD 0) (tConsD (tCallD dSorted (tConsD (tCallD (sp__law_names t) (tConsD (tVarD 0) (tConsD (tVarD 1) tNilD))) tNilD)) (tConsD (tLcD (iSeqD (tVarD 5)) (gNameD 6) tYesD (tOpD dIx (tVarD 2) (tVarD 6)) [6]) tNilD))))))))
abbrev s__law_ring : Stmt := topS 29
abbrev N__law_ring : List Str := ["tape", "many", "order", "pairs", "k"]
theorem sc__law_ring : FnScope N__law_ring ["tape", "many"] (defScope s__law_ring) := ⟨rfl, rfl, rfl, by decide +kernel, rfl, by decide +kernel, by decide +kernel⟩
theorem st__law_ring (a0 a1 : D) : startD N__law_ring.length [a0, a1] = [some a0, some a1, none, none, none] := rfl
def rd__law_ring (t : Addr) : TSD := (sSeqD (sAsgD (tCallD (sp__law_order t) (tConsD (tVarD 0) (tConsD (tVarD 1) tNilD))) (gNameD 2))
    (sSeqD (sAsgD (tLcD (iRng1D (tConsD (tVarD 1) tNilD)) (gNameD 4) tYesD (tTupD (tConsD (tOpD dIx (tVarD 2) (tVarD 4)) (tConsD (tOpD dIx (tVarD 2) (tOpD dMod (tCallD dInt (tConsD (tOpD dAdd (tVarD 4) (tCD (.int 1))) tNilD)) (tVarD 1))) tNilD))) [4]) (gNameD 3))
    (sRetD (tCallD (sp__law_linked t) (tConsD (tVarD 0) (tConsD (tCallD dSorted (tConsD (tCallD (sp__law_names t) (tConsD (tVarD 0) (tConsD (tVarD 1) tNilD))) tNilD)) (tConsD (tLcD (iSeqD (tCallD (sp__law_order t) (tConsD (tVarD 0) (tConsD (tVarD 1) tNilD)))) (gNameD 4) tYesD (tOpD dIx (tVarD 3) (tVarD 4)) [4]) tNilD)))))))
abbrev s__law_ring_scene : Stmt := topS 30
abbrev N__law_ring_scene : List Str := ["tape", "many", "grid", "wiring", "at", "trees", "k"]
theorem sc__law_ring_scene : FnScope N__law_ring_scene ["tape", "many"] (defScope s__law_ring_scene) := ⟨rfl, rfl, rfl, by decide +kernel, rfl, by decide +kernel, by decide +kernel⟩
theorem st__law_ring_scene (a0 a1 : D) : startD N__law_ring_scene.length [a0, a1] = [some a0, some a1, none, none, none, none, none] := rfl
def rd__law_ring_scene (t : Addr) : TSD := (sSeqD (sAsgD (tCallD (sp__law_ring t) (tConsD (tVarD 0) (tConsD (tVarD 1) tNilD))) (gNameD 2))
    (sSeqD (sAsgD (tLstD tNilD) (gNameD 3))
    (sSeqD (sForD (iRng1D (tConsD (tVarD 1) tNilD)) (gNameD 4) (sSeqD (sDropD (tMethD dAppend (tVarD 3) (tConsD (tCallD (sp__law_worth t) (tConsD (tVarD 0) tNilD)) tNilD)))
    (sIfD (tAndD (tTestD (tOpD dEq (tCallD (sp__law_draw t) (tConsD (tVarD 0) (tConsD (tCD (.int 4)) tNilD))) (tCD (.int 0)))) (tTestD (tOpD dLt (tMethD dCount (tVarD 3) (tConsD (tUnD dNeg (tCD (.int 1))) tNilD)) (tOpD dSub (tVarD 1) (tCD (.int 2)))))) (sAsgD (tUnD dNeg (tCD (.int 1))) (gSubD (tVarD 3) (tVarD 4) dSetL)) sNextD)))
    (sSeqD (sAsgD (tLstD tNilD) (gNameD 5))
    (sSeqD (sForD (iRng1D (tConsD (tVarD 1) tNilD)) (gNameD 4) (sIfD (tTestD (tOpD dGt (tOpD dIx (tVarD 3) (tVarD 4)) (tCD (.int 0)))) (sDropD (tMethD dAppend (tVarD 5) (tConsD (tForget (tCallD dTuple (tConsD (tLcD (iRng1D (tConsD (tVarD 1) tNilD)) (gNameD 6) (tTestD (tOpD dNe (tVarD 6) (tVarD 4))) (tVarD 6) [6]) tNilD))) tNilD))) sNextD))
    (sRetD (tTupD (tConsD (tVarD 2) (tConsD (tForget (tCallD dTuple (tConsD (tVarD 3) tNilD))) (tConsD (tForget (tCallD dTuple (tConsD (tCallD dSorted (tConsD (tVarD 5) tNilD)) tNilD))) tNilD))))))))))
abbrev s__law_bundles : Stmt := topS 31
abbrev N__law_bundles : List Str := ["tape", "sizes", "rare", "many", "order", "pairs", "k", "mixed", "grid", "wiring", "pair", "rows", "group", "at", "kind", "longer", "row"]
theorem sc__law_bundles : FnScope N__law_bundles ["tape", "sizes", "rare"] (defScope s__law_bundles) := ⟨rfl, rfl, rfl, by decide +kernel, rfl, by decide +kernel, by decide +kernel⟩
theorem st__law_bundles (a0 a1 a2 : D) : startD N__law_bundles.length [a0, a1, a2] = [some a0, some a1, some a2, none, none, none, none, none, none, none, none, none, none, none, none, none, none] := rfl
def rk__law_bundles_0 (t : Addr) : TSD := (sSeqD (sAsgD (tLstD tNilD) (gNameD 15))
    (sSeqD (sForD (iSeqD (tVarD 12)) (gNameD 13) (sAsgD (tOpD dAdd (tVarD 15) (tLcD (iSeqD (tVarD 11)) (gNameD 16) tYesD (tForget (tCallD dTuple (tConsD (tCallD dSorted (tConsD (tOpD dAdd (tVarD 16) (tTupD (tConsD (tVarD 13) tNilD))) tNilD)) tNilD))) [16])) (gNameD 15)))
    (sAsgD (tVarD 15) (gNameD 11))))
theorem ru__law_bundles_0 {t : Addr} {E : EndsD} {ρ : Rho} {st : Stor} : rk__law_bundles_0 t E ρ st = (sSeqD (sAsgD (tLstD tNilD) (gNameD 15))
    (sSeqD (sForD (iSeqD (tVarD 12)) (gNameD 13) (sAsgD (tOpD dAdd (tVarD 15) (tLcD (iSeqD (tVarD 11)) (gNameD 16) tYesD (tForget (tCallD dTuple (tConsD (tCallD dSorted (tConsD (tOpD dAdd (tVarD 16) (tTupD (tConsD (tVarD 13) tNilD))) tNilD)) tNilD))) [16])) (gNameD 15)))
    (sAsgD (tVarD 15) (gNameD 11)))) E ρ st := rfl
def rd__law_bundles (t : Addr) : TSD := (sSeqD (sAsgD (tOpD dAdd (tCallD dLen (tConsD (tVarD 1) tNilD)) (tCD (.int 1))) (gNameD 3))
    (sSeqD (sAsgD (tCallD (sp__law_order t) (tConsD (tVarD 0) (tConsD (tVarD 3) tNilD))) (gNameD 4))
    (sSeqD (sAsgD (tLstD tNilD) (gNameD 5))
    (sSeqD (sForD (iRng1D (tConsD (tCallD dLen (tConsD (tVarD 1) tNilD)) tNilD)) (gNameD 6) (sAsgD (tOpD dAdd (tVarD 5) (tOpD dMul (tLstD (tConsD (tTupD (tConsD (tOpD dIx (tVarD 4) (tVarD 6)) (tConsD (tOpD dIx (tVarD 4) (tOpD dAdd (tVarD 6) (tCD (.int 1)))) (tConsD (tVarD 6) tNilD)))) tNilD)) (tOpD dIx (tVarD 1) (tVarD 6)))) (gNameD 5)))
    (sSeqD (sAsgD (tLcD (iSeqD (tCallD (sp__law_order t) (tConsD (tVarD 0) (tConsD (tCallD dLen (tConsD (tVarD 5) tNilD)) tNilD)))) (gNameD 6) tYesD (tOpD dIx (tVarD 5) (tVarD 6)) [6]) (gNameD 7))
    (sSeqD (sAsgD (tCallD (sp__law_linked t) (tConsD (tVarD 0) (tConsD (tCallD dSorted (tConsD (tCallD (sp__law_names t) (tConsD (tVarD 0) (tConsD (tVarD 3) tNilD))) tNilD)) (tConsD (tVarD 7) tNilD)))) (gNameD 8))
    (sSeqD (sAsgD (tLcD (iSeqD (tVarD 7)) (gNameD 10) tYesD (tCallD (sp__law_worth t) (tConsD (tVarD 0) tNilD)) [10]) (gNameD 9))
    (sSeqD (sAsgD (tLstD (tConsD (tTupD tNilD) tNilD)) (gNameD 11))
    (sSeqD (sForD (iRng1D (tConsD (tCallD dLen (tConsD (tVarD 1) tNilD)) tNilD)) (gNameD 6) (sSeqD (sAsgD (tLcD (iRng1D (tConsD (tCallD dLen (tConsD (tVarD 7) tNilD)) tNilD)) (gNameD 13) (tTestD (tOpD dEq (tOpD dIx (tOpD dIx (tVarD 7) (tVarD 13)) (tCD (.int 2))) (tVarD 6))) (tVarD 13) [13]) (gNameD 12))
    (sSeqD (sAsgD (tCallD (sp__law_draw t) (tConsD (tVarD 0) (tConsD (tVarD 2) tNilD))) (gNameD 14))
    (sSeqD (sIfD (tAndD (tTestD (tOpD dEq (tVarD 14) (tCD (.int 0)))) (tTestD (tOpD dGt (tCallD dLen (tConsD (tVarD 12) tNilD)) (tCD (.int 1))))) (sAsgD (tCD (.int 0)) (gSubD (tVarD 9) (tMethD dPopAt (tVarD 12) (tConsD (tCallD (sp__law_draw t) (tConsD (tVarD 0) (tConsD (tCallD dLen (tConsD (tVarD 12) tNilD)) tNilD))) tNilD)) dSetL)) (sIfD (tTestD (tOpD dEq (tVarD 14) (tCD (.int 1)))) (sSeqD (sAsgD (tLstD (tConsD (tOpD dIx (tVarD 12) (tCallD (sp__law_draw t) (tConsD (tVarD 0) (tConsD (tCallD dLen (tConsD (tVarD 12) tNilD)) tNilD)))) tNilD)) (gNameD 12))
    (sAsgD (tUnD dNeg (tCD (.int 1))) (gSubD (tVarD 9) (tOpD dIx (tVarD 12) (tCD (.int 0))) dSetL))) sNextD))
    (rk__law_bundles_0 t)))))
    (sRetD (tTupD (tConsD (tVarD 8) (tConsD (tForget (tCallD dTuple (tConsD (tVarD 9) tNilD))) (tConsD (tForget (tCallD dTuple (tConsD (tCallD dSorted (tConsD (tVarD 11) tNilD)) tNilD))) tNilD))))))))))))))
abbrev s__law_asked : Stmt := topS 32
abbrev N__law_asked : List Str := ["tape", "scene", "grid", "told", "turn", "tree", "first", "second", "pair", "due"]
theorem sc__law_asked : FnScope N__law_asked ["tape", "scene"] (defScope s__law_asked) := ⟨rfl, rfl, rfl, by decide +kernel, rfl, by decide +kernel, by decide +kernel⟩
theorem st__law_asked (a0 a1 : D) : startD N__law_asked.length [a0, a1] = [some a0, some a1, none, none, none, none, none, none, none, none] := rfl
def rd__law_asked (t : Addr) : TSD := (sSeqD (sAsgD (tOpD dIx (tVarD 1) (tCD (.int 0))) (gNameD 2))
    (sSeqD (sAsgD (tCallD sp_trees_of (tConsD (tVarD 2) (tConsD (tOpD dIx (tVarD 1) (tCD (.int 1))) tNilD))) (gNameD 3))
    (sSeqD (sIfD (tNotD (tTruD (tCallD sp__law_same (tConsD (tOpD dIx (tVarD 1) (tCD (.int 2))) (tConsD (tVarD 3) tNilD))))) (sRetD (tCD (.bl false))) sNextD)
    (sSeqD (sForD (iRng1D (tConsD (tCD (.int 3)) tNilD)) (gNameD 4) (sSeqD (sAsgD (tOpD dIx (tOpD dIx (tVarD 1) (tCD (.int 2))) (tCallD (sp__law_draw t) (tConsD (tVarD 0) (tConsD (tCallD dLen (tConsD (tOpD dIx (tVarD 1) (tCD (.int 2))) tNilD)) tNilD)))) (gNameD 5))
    (sSeqD (sIfD (tNotD (tTruD (tCallD sp__law_same (tConsD (tCallD sp__law_product (tConsD (tOpD dIx (tVarD 1) (tCD (.int 1))) (tConsD (tVarD 5) tNilD))) (tConsD (tCallD sp_tree_product (tConsD (tOpD dIx (tVarD 1) (tCD (.int 1))) (tConsD (tVarD 5) tNilD))) tNilD))))) (sRetD (tCD (.bl false))) sNextD)
    (sSeqD (sAsgD (tCallD (sp__law_draw t) (tConsD (tVarD 0) (tConsD (tCallD dLen (tConsD (tOpD dIx (tVarD 2) (tCD (.int 0))) tNilD)) tNilD))) (gNameD 6))
    (sSeqD (sAsgD (tCallD (sp__law_draw t) (tConsD (tVarD 0) (tConsD (tCallD dLen (tConsD (tOpD dIx (tVarD 2) (tCD (.int 0))) tNilD)) tNilD))) (gNameD 7))
    (sForD (iSeqD (tTupD (tConsD (tTupD (tConsD (tVarD 6) (tConsD (tVarD 7) tNilD))) (tConsD (tTupD (tConsD (tVarD 7) (tConsD (tVarD 6) tNilD))) (tConsD (tTupD (tConsD (tVarD 6) (tConsD (tVarD 6) tNilD))) (tConsD (tTupD (tConsD (tCD (.int 0)) (tConsD (tOpD dSub (tCallD dLen (tConsD (tOpD dIx (tVarD 2) (tCD (.int 0))) tNilD)) (tCD (.int 1))) tNilD))) tNilD)))))) (gNameD 8) (sSeqD (sAsgD (tCallD sp__law_flow (tConsD (tVarD 2) (tConsD (tVarD 5) (tConsD (tOpD dIx (tVarD 8) (tCD (.int 0))) (tConsD (tOpD dIx (tVarD 8) (tCD (.int 1))) tNilD))))) (gNameD 9))
    (sIfD (tNotD (tTruD (tCallD sp__law_same (tConsD (tVarD 9) (tConsD (tCallD sp_tree_flow (tConsD (tVarD 2) (tConsD (tVarD 5) (tConsD (tOpD dIx (tOpD dIx (tVarD 2) (tCD (.int 0))) (tOpD dIx (tVarD 8) (tCD (.int 0)))) (tConsD (tOpD dIx (tOpD dIx (tVarD 2) (tCD (.int 0))) (tOpD dIx (tVarD 8) (tCD (.int 1)))) tNilD))))) tNilD))))) (sRetD (tCD (.bl false))) sNextD))))))))
    (sRetD (tCD (.bl true)))))))
abbrev s_law : Stmt := topS 33
abbrev N_law : List Str := ["script", "tape", "plain", "scenes", "turn", "wiring", "many", "web", "worths", "link", "rare", "sizes", "one", "scene"]
theorem sc_law : FnScope N_law ["script"] (defScope s_law) := ⟨rfl, rfl, rfl, by decide +kernel, rfl, by decide +kernel, by decide +kernel⟩
theorem st_law (a0 : D) : startD N_law.length [a0] = [some a0, none, none, none, none, none, none, none, none, none, none, none, none, none] := rfl
def rk_law_0 (t : Addr) : TSD := (sSeqD (sAsgD (tCallD dSorted (tConsD (tCallD (sp__law_names t) (tConsD (tVarD 1) (tConsD (tCD (.int 1)) tNilD))) tNilD)) (gNameD 12))
    (sSeqD (sDropD (tMethD dAppend (tVarD 3) (tConsD (tTupD (tConsD (tTupD (tConsD (tForget (tCallD dTuple (tConsD (tVarD 12) tNilD))) (tConsD (tTupD tNilD) (tConsD (tTupD (tConsD (tTupD tNilD) tNilD)) tNilD)))) (tConsD (tTupD tNilD) (tConsD (tTupD (tConsD (tTupD tNilD) tNilD)) tNilD)))) tNilD)))
    (sSeqD (sForD (iSeqD (tOpD dAdd (tVarD 3) (tSlD dSl (tVarD 3) tNoD (tPartD (tCD (.int 1)))))) (gNameD 13) (sIfD (tNotD (tTruD (tCallD (sp__law_asked t) (tConsD (tVarD 1) (tConsD (tVarD 13) tNilD))))) (sRetD (tCD (.bl false))) sNextD))
    (sRetD (tCD (.bl true))))))
theorem ru_law_0 {t : Addr} {E : EndsD} {ρ : Rho} {st : Stor} : rk_law_0 t E ρ st = (sSeqD (sAsgD (tCallD dSorted (tConsD (tCallD (sp__law_names t) (tConsD (tVarD 1) (tConsD (tCD (.int 1)) tNilD))) tNilD)) (gNameD 12))
    (sSeqD (sDropD (tMethD dAppend (tVarD 3) (tConsD (tTupD (tConsD (tTupD (tConsD (tForget (tCallD dTuple (tConsD (tVarD 12) tNilD))) (tConsD (tTupD tNilD) (tConsD (tTupD (tConsD (tTupD tNilD) tNilD)) tNilD)))) (tConsD (tTupD tNilD) (tConsD (tTupD (tConsD (tTupD tNilD) tNilD)) tNilD)))) tNilD)))
    (sSeqD (sForD (iSeqD (tOpD dAdd (tVarD 3) (tSlD dSl (tVarD 3) tNoD (tPartD (tCD (.int 1)))))) (gNameD 13) (sIfD (tNotD (tTruD (tCallD (sp__law_asked t) (tConsD (tVarD 1) (tConsD (tVarD 13) tNilD))))) (sRetD (tCD (.bl false))) sNextD))
    (sRetD (tCD (.bl true)))))) E ρ st := rfl
def rk_law_1 (t : Addr) : TSD := (sSeqD (sAsgD (tCallD (sp__law_web t) (tConsD (tVarD 1) (tConsD (tVarD 6) tNilD))) (gNameD 7))
    (sSeqD (sAsgD (tForget (tCallD dTuple (tConsD (tLcD (iSeqD (tOpD dIx (tVarD 7) (tCD (.int 1)))) (gNameD 9) tYesD (tCallD (sp__law_worth t) (tConsD (tVarD 1) tNilD)) [9]) tNilD))) (gNameD 8))
    (sSeqD (sDropD (tMethD dAppend (tVarD 3) (tConsD (tTupD (tConsD (tVarD 7) (tConsD (tVarD 8) (tConsD (tCallD sp__law_trees (tConsD (tVarD 7) (tConsD (tVarD 8) tNilD))) tNilD)))) tNilD)))
    (sSeqD (sIfD (tTestD (tOpD dNe (tCallD dLen (tConsD (tOpD dIx (tOpD dIx (tVarD 3) (tCD (.int 3))) (tCD (.int 2))) tNilD)) (tOpD dIx (tLstD (tConsD (tCD (.int 0)) (tConsD (tCD (.int 0)) (tConsD (tCD (.int 0)) (tConsD (tCD (.int 3)) (tConsD (tCD (.int 16)) (tConsD (tCD (.int 125)) tNilD))))))) (tVarD 6)))) (sRetD (tCD (.bl false))) sNextD)
    (sSeqD (sAsgD (tCallD (sp__law_draw t) (tConsD (tVarD 1) (tConsD (tCD (.int 13)) tNilD))) (gNameD 10))
    (sSeqD (sIfD (tTestD (tOpD dEq (tVarD 10) (tCD (.int 11)))) (sSeqD (sAsgD (tOpD dIx (tLstD (tConsD (tLstD (tConsD (tCD (.int 3)) (tConsD (tCD (.int 3)) (tConsD (tCD (.int 3)) (tConsD (tCD (.int 3)) (tConsD (tCD (.int 4)) tNilD)))))) (tConsD (tLstD (tConsD (tCD (.int 4)) (tConsD (tCD (.int 4)) (tConsD (tCD (.int 4)) (tConsD (tCD (.int 4)) tNilD))))) (tConsD (tLstD (tConsD (tCD (.int 5)) (tConsD (tCD (.int 4)) (tConsD (tCD (.int 4)) (tConsD (tCD (.int 3)) tNilD))))) (tConsD (tOpD dMul (tLstD (tConsD (tCD (.int 2)) tNilD)) (tCD (.int 8))) tNilD))))) (tCallD (sp__law_draw t) (tConsD (tVarD 1) (tConsD (tCD (.int 4)) tNilD)))) (gNameD 11))
    (sDropD (tMethD dAppend (tVarD 3) (tConsD (tCallD (sp__law_bundles t) (tConsD (tVarD 1) (tConsD (tVarD 11) (tConsD (tCD (.int 30)) tNilD)))) tNilD)))) (sIfD (tTestD (tOpD dEq (tVarD 10) (tCD (.int 5)))) (sDropD (tMethD dAppend (tVarD 3) (tConsD (tCallD (sp__law_bundles t) (tConsD (tVarD 1) (tConsD (tOpD dIx (tLstD (tConsD (tLstD (tConsD (tCD (.int 16)) tNilD)) (tConsD (tLstD (tConsD (tCD (.int 5)) (tConsD (tCD (.int 1)) (tConsD (tCD (.int 4)) (tConsD (tCD (.int 1)) (tConsD (tCD (.int 5)) tNilD)))))) (tConsD (tLstD (tConsD (tCD (.int 2)) (tConsD (tCD (.int 2)) (tConsD (tCD (.int 1)) (tConsD (tCD (.int 2)) (tConsD (tCD (.int 2)) (tConsD (tCD (.int 1)) tNilD))))))) tNilD)))) (tCallD (sp__law_draw t) (tConsD (tVarD 1) (tConsD (tCD (.int 3)) tNilD)))) (tConsD (tCD (.int 5)) tNilD)))) tNilD))) (sDropD (tMethD dAppend (tVarD 3) (tConsD (tCallD (sp__law_bundles t) (tConsD (tVarD 1) (tConsD (tLstD (tConsD (tOpD dAdd (tCD (.int 2)) (tCallD (sp__law_draw t) (tConsD (tVarD 1) (tConsD (tCD (.int 2)) tNilD)))) (tConsD (tOpD dAdd (tCD (.int 2)) (tCallD (sp__law_draw t) (tConsD (tVarD 1) (tConsD (tCD (.int 2)) tNilD)))) tNilD))) (tConsD (tCD (.int 4)) tNilD)))) tNilD)))))
    (rk_law_0 t)))))))
theorem ru_law_1 {t : Addr} {E : EndsD} {ρ : Rho} {st : Stor} : rk_law_1 t E ρ st = (sSeqD (sAsgD (tCallD (sp__law_web t) (tConsD (tVarD 1) (tConsD (tVarD 6) tNilD))) (gNameD 7))
    (sSeqD (sAsgD (tForget (tCallD dTuple (tConsD (tLcD (iSeqD (tOpD dIx (tVarD 7) (tCD (.int 1)))) (gNameD 9) tYesD (tCallD (sp__law_worth t) (tConsD (tVarD 1) tNilD)) [9]) tNilD))) (gNameD 8))
    (sSeqD (sDropD (tMethD dAppend (tVarD 3) (tConsD (tTupD (tConsD (tVarD 7) (tConsD (tVarD 8) (tConsD (tCallD sp__law_trees (tConsD (tVarD 7) (tConsD (tVarD 8) tNilD))) tNilD)))) tNilD)))
    (sSeqD (sIfD (tTestD (tOpD dNe (tCallD dLen (tConsD (tOpD dIx (tOpD dIx (tVarD 3) (tCD (.int 3))) (tCD (.int 2))) tNilD)) (tOpD dIx (tLstD (tConsD (tCD (.int 0)) (tConsD (tCD (.int 0)) (tConsD (tCD (.int 0)) (tConsD (tCD (.int 3)) (tConsD (tCD (.int 16)) (tConsD (tCD (.int 125)) tNilD))))))) (tVarD 6)))) (sRetD (tCD (.bl false))) sNextD)
    (sSeqD (sAsgD (tCallD (sp__law_draw t) (tConsD (tVarD 1) (tConsD (tCD (.int 13)) tNilD))) (gNameD 10))
    (sSeqD (sIfD (tTestD (tOpD dEq (tVarD 10) (tCD (.int 11)))) (sSeqD (sAsgD (tOpD dIx (tLstD (tConsD (tLstD (tConsD (tCD (.int 3)) (tConsD (tCD (.int 3)) (tConsD (tCD (.int 3)) (tConsD (tCD (.int 3)) (tConsD (tCD (.int 4)) tNilD)))))) (tConsD (tLstD (tConsD (tCD (.int 4)) (tConsD (tCD (.int 4)) (tConsD (tCD (.int 4)) (tConsD (tCD (.int 4)) tNilD))))) (tConsD (tLstD (tConsD (tCD (.int 5)) (tConsD (tCD (.int 4)) (tConsD (tCD (.int 4)) (tConsD (tCD (.int 3)) tNilD))))) (tConsD (tOpD dMul (tLstD (tConsD (tCD (.int 2)) tNilD)) (tCD (.int 8))) tNilD))))) (tCallD (sp__law_draw t) (tConsD (tVarD 1) (tConsD (tCD (.int 4)) tNilD)))) (gNameD 11))
    (sDropD (tMethD dAppend (tVarD 3) (tConsD (tCallD (sp__law_bundles t) (tConsD (tVarD 1) (tConsD (tVarD 11) (tConsD (tCD (.int 30)) tNilD)))) tNilD)))) (sIfD (tTestD (tOpD dEq (tVarD 10) (tCD (.int 5)))) (sDropD (tMethD dAppend (tVarD 3) (tConsD (tCallD (sp__law_bundles t) (tConsD (tVarD 1) (tConsD (tOpD dIx (tLstD (tConsD (tLstD (tConsD (tCD (.int 16)) tNilD)) (tConsD (tLstD (tConsD (tCD (.int 5)) (tConsD (tCD (.int 1)) (tConsD (tCD (.int 4)) (tConsD (tCD (.int 1)) (tConsD (tCD (.int 5)) tNilD)))))) (tConsD (tLstD (tConsD (tCD (.int 2)) (tConsD (tCD (.int 2)) (tConsD (tCD (.int 1)) (tConsD (tCD (.int 2)) (tConsD (tCD (.int 2)) (tConsD (tCD (.int 1)) tNilD))))))) tNilD)))) (tCallD (sp__law_draw t) (tConsD (tVarD 1) (tConsD (tCD (.int 3)) tNilD)))) (tConsD (tCD (.int 5)) tNilD)))) tNilD))) (sDropD (tMethD dAppend (tVarD 3) (tConsD (tCallD (sp__law_bundles t) (tConsD (tVarD 1) (tConsD (tLstD (tConsD (tOpD dAdd (tCD (.int 2)) (tCallD (sp__law_draw t) (tConsD (tVarD 1) (tConsD (tCD (.int 2)) tNilD)))) (tConsD (tOpD dAdd (tCD (.int 2)) (tCallD (sp__law_draw t) (tConsD (tVarD 1) (tConsD (tCD (.int 2)) tNilD)))) tNilD))) (tConsD (tCD (.int 4)) tNilD)))) tNilD)))))
    (rk_law_0 t))))))) E ρ st := rfl
def rd_law1 : TSD := (sAsgD (tCallD sp__law_tape (tConsD (tVarD 0) tNilD)) (gNameD 1))
def rd_law2 (t : Addr) : TSD := (sSeqD (sAsgD (tCallD (sp__law_grid t) (tConsD (tVarD 1) (tConsD (tOpD dAdd (tCD (.int 2)) (tCallD (sp__law_draw t) (tConsD (tVarD 1) (tConsD (tCD (.int 3)) tNilD)))) (tConsD (tOpD dAdd (tCD (.int 2)) (tCallD (sp__law_draw t) (tConsD (tVarD 1) (tConsD (tCD (.int 5)) tNilD)))) (tConsD (tCD (.int 2)) tNilD))))) (gNameD 2))
    (sSeqD (sAsgD (tLstD tNilD) (gNameD 3))
    (sSeqD (sForD (iRng1D (tConsD (tCD (.int 2)) tNilD)) (gNameD 4) (sSeqD (sAsgD (tCallD (sp__law_wiring t) (tConsD (tVarD 1) (tConsD (tVarD 2) tNilD))) (gNameD 5))
    (sDropD (tMethD dAppend (tVarD 3) (tConsD (tTupD (tConsD (tVarD 2) (tConsD (tVarD 5) (tConsD (tCallD sp__law_trees (tConsD (tVarD 2) (tConsD (tVarD 5) tNilD))) tNilD)))) tNilD)))))
    (sSeqD (sDropD (tMethD dAppend (tVarD 3) (tConsD (tCallD (sp__law_ring_scene t) (tConsD (tVarD 1) (tConsD (tOpD dAdd (tCD (.int 3)) (tCallD (sp__law_draw t) (tConsD (tVarD 1) (tConsD (tCD (.int 7)) tNilD)))) tNilD))) tNilD)))
    (sSeqD (sAsgD (tOpD dAdd (tCD (.int 3)) (tCallD (sp__law_draw t) (tConsD (tVarD 1) (tConsD (tCD (.int 2)) tNilD)))) (gNameD 6))
    (sSeqD (sIfD (tTestD (tOpD dEq (tCallD (sp__law_draw t) (tConsD (tVarD 1) (tConsD (tCD (.int 7)) tNilD))) (tCD (.int 4)))) (sAsgD (tCD (.int 5)) (gNameD 6)) sNextD)
    (rk_law_1 t)))))))
def rd_law : TSD := sHideD tAAs tAOk rd_law1 (fun i => rd_law2 i.1)
end K11
-- text K11P1
set_option Elab.async false
set_option linter.all false
set_option maxRecDepth 100000
set_option maxHeartbeats 2000000
set_option exponentiation.threshold 10000
/-! K11P1 -/
namespace K11
open PySem PySem.Spec PyProof.Rows L2 DL DR DG
theorem hs__law_draw (i : tAIdx) : ∀ ds s R, sp0__law_draw i ds s R → rd__law_draw (endsD R) (startD N__law_draw.length ds) s := hsDraw (by decide) (by decide) (by decide) (by decide) i
theorem hs__law_tape : ∀ ds s R, sp__law_tape ds s R → rd__law_tape (endsD R) (startD N__law_tape.length ds) s := hsTape (by decide) (by decide) (by decide) (by decide)
theorem hs__law_same : ∀ ds s R, sp__law_same ds s R → rd__law_same (endsD R) (startD N__law_same.length ds) s := hsSame
theorem hs__law_room (t : Addr) : ∀ ds s R, sp__law_room t ds s R → rd__law_room t (endsD R) (startD N__law_room.length ds) s := by
  refine sp1.to fun x st R h => ?_
  obtain ⟨rfl, h⟩ := h
  rw [st__law_room]; unfold rd__law_room
  simp [sizeLine_eq]
  intro r _ _ r1 _ _ r2 _ _ p hp i h0 h1
  refine ixL_all getL_put h0 (by simpa using h1) fun x hx => ?_
  have : ∃ j : Int, x = .int j := by
    simp at hx
    rcases hx with rfl | rfl | rfl | rfl <;> exact ⟨_, rfl⟩
  obtain ⟨j, rfl⟩ := this
  exact ⟨st, Sub.put hp, h j⟩
theorem hs__law_admittance (t : Addr) : ∀ ds s R, sp__law_admittance t ds s R → rd__law_admittance t (endsD R) (startD N__law_admittance.length ds) s := by
  refine sp1.to fun x st R h => ?_
  obtain ⟨rfl, h⟩ := h
  rw [st__law_admittance]; unfold rd__law_admittance
  simp [sizeLine_eq]
  intro r _ _
  have two : ∀ i j : Int, ∃ s2, DL.Sub s2 st ∧ R (.tup [.int i, .int j]) s2 := fun i j => ⟨st, Sub.refl _, h _⟩
  split
  · exact ⟨st, Sub.refl _, h _⟩
  · split
    · exact fun _ _ _ => two _ _
    · split
      · exact fun _ _ _ _ _ _ => two _ _
      · exact fun r _ _ => ⟨by omega, by omega, fun _ _ _ => two _ _⟩
theorem hs__law_names (t : Addr) : ∀ ds s R, sp__law_names t ds s R → rd__law_names t (endsD R) (startD N__law_names.length ds) s := by
  refine sp2.to fun x y st R h => ?_
  obtain ⟨many, rfl, rfl, m0, m1, h⟩ := h
  rw [st__law_names]; unfold rd__law_names
  have e1 : (Str.ofString "n").length = 1 := by decide +kernel
  simp [sizeLine_eq]
  intro p hp
  refine ⟨by omega, loop_list (fun i acc ρ => ∃ (o3 o4 o5 o6 : Option D) (ps : List Str), ρ = [some (.ref t), some (.int many), some (.ref p), o3, o4, o5, o6] ∧ acc = ps.map .str ∧ ps.length = i ∧ ps.Nodup) ⟨none, none, none, none, [], rfl, rfl, rfl, List.nodup_nil⟩ (fun _ => trivial) (fun i x acc ρ hx hQ N hN => ?_) fun acc ρ hQ => ?_⟩
  · obtain ⟨hi, rfl⟩ := rangeD_get hx
    obtain ⟨o3, o4, o5, o6, ps, rfl, rfl, pl, pn⟩ := hQ
    simp [sizeLine_eq]
    intro r r0 r1
    refine ixS_lit (m := 6) r0 r1 (by decide +kernel) fun c p2 hp2 r2 r20 r21 => ?_
    refine ixL_all getL_put r20 (by simpa using r21) fun x hx => ?_
    have : ∃ k : Int, x = .int k ∧ 0 ≤ k ∧ k ≤ 7 := by
      simp at hx
      rcases hx with rfl | rfl | rfl | rfl <;> exact ⟨_, rfl, by decide, by decide⟩
    obtain ⟨k, rfl, k0, k1⟩ := this
    simp
    have np : p ≠ p2 := fun z => by subst z; rw [put_same] at hp2; cases hp2
    rw [put_is_none] at hp2
    refine ⟨by omega, loop_keep (fun i' ρ => ∃ (z : Str) (o5 : Option D), ρ = [some (.ref t), some (.int many), some (.ref p), some (.int (i : Nat)), some (.str z), o5, o6] ∧ z.length ≤ 1 + i') ⟨_, _, rfl, Nat.le_refl _⟩ trivial (fun i' x ρ hx hQ M hM => ?_) fun ρ hQ => ?_⟩
    · obtain ⟨z, o5, rfl, lz⟩ := hQ
      simp
      intro q q0 q1
      refine ixS_lit (m := 5) q0 q1 (by decide +kernel) fun c => ?_
      simp [sizeLine_eq]
      have lc : (⟨#[c]⟩ : Str).length = 1 := rfl
      have hi' : i' < 7 := by
        have := (rangeD_get hx).1
        omega
      refine ⟨by omega, hM _ _ (Sub.refl _) ⟨_, _, rfl, ?_⟩⟩
      rw [len_append]
      omega
    · obtain ⟨z, o5, rfl, lz⟩ := hQ
      rw [rangeD_len] at lz
      simp
      have ga : getL (put (put st p (.lst (ps.map .str))) p2 (.lst [.int 0, .int 1, .int 1, .int 2, .int 7])) p = some (ps.map D.str) := by rw [getL_ne np]; exact getL_self
      have sa : (put (put st p (.lst (ps.map .str))) p2 (.lst [.int 0, .int 1, .int 1, .int 2, .int 7])) p = some (.lst (ps.map D.str)) := by rw [put_ne np]; exact put_same
      have sub2 : ∀ c, DL.Sub (put st p c) (put (put (put st p (.lst (ps.map .str))) p2 (.lst [.int 0, .int 1, .int 1, .int 2, .int 7])) p c) := fun c => ((Sub.put hp).putN hp2.2 |>.putN hp).at put_same
      generalize put (put st p (.lst (ps.map D.str))) p2 (.lst [.int 0, .int 1, .int 1, .int 2, .int 7]) = s2 at ga sa sub2
      have fin : ∀ (z : Str) (o6 : Option D), z ∉ ps → dAppend p [.str z] s2 fun x s1 => N [some (.ref t), some (.int many), some (.ref p), some (.int (i : Nat)), some (.str z), o5, o6] s1 := fun z o6 hn => by
        rw [z_append sa (show (ps.map D.str).length < sizeLine by rw [List.length_map, sizeLine_eq]; omega)]
        refine hN (ps.map D.str ++ [.str z]) _ _ (sub2 _) ⟨_, _, _, _, ps ++ [z], rfl, by simp, by simp [pl], ?_⟩
        refine List.nodup_append.mpr ⟨pn, by simp, fun a ha b hb => ?_⟩
        rw [List.mem_singleton.mp hb]
        intro e; subst e; exact hn ha
      refine ⟨by omega, loop_keep (fun i' ρ => ∃ (z : Str) (o6 : Option D), ρ = [some (.ref t), some (.int many), some (.ref p), some (.int (i : Nat)), some (.str z), o5, o6] ∧ (∀ j, j + 1 < i' → Str.ofString "n" ++ natS j ∈ ps) ∧ ∀ j, j + 1 = i' → z = Str.ofString "n" ++ natS j) ⟨_, _, rfl, fun j hj => by omega, fun j hj => by omega⟩ trivial (fun i' x ρ hx hQ M hM => ?_) fun ρ hQ => ?_⟩
      · obtain ⟨z, o6, rfl, hj1, hj2⟩ := hQ
        obtain ⟨k', rfl, hk', hi'⟩ := rangeD_int hx
        have ek : k' = (i' : Int) := by omega
        subst ek
        have h5 : i' < 10 ^ 500 := Nat.lt_trans (show i' < 10 ^ 10 by omega) (by decide +kernel)
        simp [z_inStL ga, ga, ↓ru__law_names_0]
        by_cases hz : z ∈ ps
        · simp [hz, z_str h5]
          have := natS_len (n := i') (k := 10) (by decide) (by omega)
          refine ⟨by rw [e1, sizeLine_eq]; omega, hM _ _ (Sub.refl _) ⟨_, _, rfl, fun j hj => ?_, fun j hj => ?_⟩⟩
          · by_cases e : j + 1 = i'
            · rw [← hj2 j e]; exact hz
            · exact hj1 j (by omega)
          · have : j = i' := by omega
            rw [this]
        · simp [hz]
          exact fin z _ hz
      · obtain ⟨z, o6, rfl, hj1, hj2⟩ := hQ
        rw [rangeD_len] at hj1 hj2
        simp [ga, ↓ru__law_names_0]
        refine fin z _ fun hz => ?_
        have := names_full (acc := ps) (pre := Str.ofString "n") (m := many.toNat) fun j hj => by
          by_cases e : j + 1 = (many + 1).toNat
          · rw [← hj2 j e]; exact hz
          · exact hj1 j (by omega)
        omega
  · obtain ⟨o3, o4, o5, o6, ps, rfl, rfl, pl, pn⟩ := hQ
    rw [rangeD_len] at pl
    simp
    exact ⟨_, Sub.refl _, h p ps hp pl pn⟩
theorem natsD_get {is : List Nat} {i : Nat} {a : Nat} (h : is[i]? = some a) : (natsD is)[i]? = some (.int (a : Int)) := by unfold natsD; rw [List.getElem?_map, h]; rfl
theorem range_nats (n : Nat) : rangeD 0 n = natsD (List.range n) := rangeD_ints n
theorem hs__law_order (t : Addr) : ∀ ds s R, sp__law_order t ds s R → rd__law_order t (endsD R) (startD N__law_order.length ds) s := by
  refine sp2.to fun x y st R h => ?_
  obtain ⟨n, rfl, rfl, m1, h⟩ := h
  rw [st__law_order]; unfold rd__law_order
  simp [sizeLine_eq]
  refine ⟨by omega, fun p hp => comp_range (by simp) (by rw [sizeLine_eq]; omega) fun q hq => ?_⟩
  rw [put_is_none] at hq
  refine ⟨by omega, loop_any (fun i ρ s' => ∃ (o : Option D) (left acc : List Nat), ρ = [some (.ref t), some (.int (n : Nat)), some (.ref p), none, some (.ref q), o] ∧ DL.Sub st s' ∧ s' p = some (.lst (natsD left)) ∧ s' q = some (.lst (natsD acc)) ∧ left.length + i = n ∧ acc.length = i ∧ (left ++ acc).Perm (List.range n))
    ⟨none, List.range n, [], rfl, ((Sub.put hp).put2 (put_is_none.mpr hq)), by rw [← range_nats, put_ne hq.1.symm]; exact put_same, put_same, by simp, rfl, by simp⟩ (fun _ _ _ _ => trivial) (fun i x ρ s' hx hP N hN => ?_) fun ρ s' hP => ?_⟩
  · obtain ⟨hi, rfl⟩ := rangeD_get hx
    obtain ⟨o, left, acc, rfl, sub, sp, sq, l1, l2, pm⟩ := hP
    have gp := getL_some sp
    have gq := getL_some sq
    have nl : (natsD left).length = left.length := by simp [natsD]
    simp [gp, gq, z_len gp, nl]
    refine ⟨by omega, by omega, fun r r0 r1 => ?_⟩
    have hr : r.toNat < left.length := by omega
    refine ⟨_, r.toNat, .int (left[r.toNat] : Nat), sp, by rw [nl]; exact ixN_i r0 r1, natsD_get (List.getElem?_eq_getElem hr), ?_⟩
    have nqp : q ≠ p := hq.1
    refine ⟨natsD acc, by rw [put_ne nqp]; exact sq, by simp [natsD, sizeLine_eq]; omega, hN _ _ _ (Sub.refl _) ⟨_, left.eraseIdx r.toNat, acc ++ [left[r.toNat]], rfl, (sub.putN hp).putN hq.2, ?_, ?_, ?_, ?_, ?_⟩⟩
    · rw [put_ne nqp.symm, put_same]; unfold natsD; rw [map_erase]
    · rw [put_same]; simp [natsD]
    · rw [List.length_eraseIdx_of_lt hr]; omega
    · simp [l2]
    · have p1 := L2.erase_perm left r.toNat _ (List.getElem?_eq_getElem hr)
      refine List.Perm.trans ?_ pm
      rw [← List.append_assoc]
      refine List.perm_append_comm.trans ?_
      show (left[r.toNat] :: (left.eraseIdx r.toNat ++ acc)).Perm _
      rw [← List.cons_append]
      exact p1.append_right acc
  · obtain ⟨o, left, acc, rfl, sub, sp, sq, l1, l2, pm⟩ := hP
    simp
    rw [rangeD_len] at l1 l2
    have e : left = [] := List.eq_nil_of_length_eq_zero (by omega)
    subst e
    exact ⟨_, sub.at sq, h q acc hq.2 (by simpa using pm)⟩
end K11
-- text K11P2
set_option Elab.async false
set_option linter.all false
set_option maxRecDepth 100000
set_option maxHeartbeats 2000000
set_option exponentiation.threshold 10000
/-! K11P2 -/
namespace K11
open PySem PySem.Spec PyProof.Rows L2 DL DR DG
theorem z_notOut {st : Stor} {R : KD} {z : D} {is : List Int} {x : Int} {n : Bool} (h : OutOk st z is) : dInB n (.int x) z st R = R (.bl (n ^^ decide (x ∈ is))) st := by
  rcases h with rfl | ⟨o, rfl, g⟩
  · exact x_inIn
  · rw [z_in g, any_int]; simp
theorem OutOk.sub {st s' : Stor} {z : D} {is : List Int} (h : OutOk st z is) (sub : DL.Sub st s') : OutOk s' z is := by
  rcases h with h | ⟨o, h, g⟩
  · exact .inl h
  · exact .inr ⟨o, h, getL_sub sub g⟩
theorem live_len (ps : Edges) (is : List Int) : ∀ i, (live ps is i).length ≤ i
  | 0 => Nat.le_refl _
  | i + 1 => by
    have := live_len ps is i
    unfold live
    cases ps[i]? with
    | none => simp; omega
    | some e => simp; split <;> simp <;> omega
theorem hs__law_apart : ∀ ds s R, sp__law_apart ds s R → rd__law_apart (endsD R) (startD N__law_apart.length ds) s := by
  refine sp3.to fun x y z st R h => ?_
  obtain ⟨n, e, ps, is, rfl, rfl, ho, m0, m1, he, hp, hl, h⟩ := h
  rw [st__law_apart]; unfold rd__law_apart
  simp [sizeLine_eq]
  refine ⟨by omega, fun p hp0 => comp_range (by simp) (by rw [sizeLine_eq]; omega) ?_⟩
  have nep : e ≠ p := fun z => by subst z; unfold getL at he; rw [hp0] at he; cases he
  have he1 : ∀ c, getL (put st p c) e = some (ps.map pairD) := fun c => by rw [getL_ne nep]; exact he
  rw [z_len (he1 _)]
  refine ⟨by simp; omega, ?_⟩
  refine loop_any (fun i ρ s' => ∃ (g : Addr) (gs : List Int) (o1 o2 o3 o4 : Option D), ρ = [some (.int (n : Nat)), some (.ref e), some z, some (.ref g), none, o1, o2, o3, o4] ∧ DL.Sub st s' ∧ s' g = some (.lst (gs.map .int)) ∧ st g = none ∧ Labels n gs (live ps is i))
    ⟨p, (List.range n).map (fun (i : Nat) => (i : Int)), none, none, none, none, rfl, Sub.put hp0, by rw [← rangeD_map]; exact put_same, hp0, labels_start n⟩ (fun _ _ _ _ => trivial) (fun i x ρ s' hx hP N hN => ?_) fun ρ s' hP => ?_
  · obtain ⟨hi, rfl⟩ := rangeD_get hx
    obtain ⟨g, gs, o1, o2, o3, o4, rfl, sub, sg, g0, gl⟩ := hP
    have gg := getL_some sg
    have hi2 : i < ps.length := by simpa using hi
    have sube : getL s' e = some (ps.map pairD) := getL_sub sub he
    have subo := ho.sub sub
    have gi : (ps.map pairD)[i]? = some (pairD ps[i]) := by simp [hi2]
    have b := hp _ (List.getElem_mem hi2)
    have lv : live ps is (i + 1) = live ps is i ++ if (i : Int) ∈ is then [] else [ps[i]] := by
      show live ps is i ++ (match ps[i]? with | some e => if (i : Int) ∈ is then [] else [e] | none => []) = _
      rw [List.getElem?_eq_getElem hi2]
    generalize ps[i] = ab at gi b lv
    obtain ⟨a, c⟩ := ab
    simp only at b
    obtain ⟨y1, k1⟩ : ∃ w, gs[a]? = some w := ⟨gs[a]'(by rw [gl.1]; exact b.1), List.getElem?_eq_getElem _⟩
    obtain ⟨y2, k2⟩ : ∃ w, gs[c]? = some w := ⟨gs[c]'(by rw [gl.1]; exact b.2), List.getElem?_eq_getElem _⟩
    have k1' : (gs.map D.int)[a]? = some (.int y1) := by rw [List.getElem?_map, k1]; rfl
    have k2' : (gs.map D.int)[c]? = some (.int y2) := by rw [List.getElem?_map, k2]; rfl
    simp [z_ixL sube gi, pairD, z_ixL gg k1', z_ixL gg k2', z_notOut subo]
    have keep : ∀ (ρ5 ρ6 ρ7 ρ8 : Option D), Labels n gs (live ps is (i + 1)) → N [some (.int (n : Nat)), some (.ref e), some z, some (.ref g), none, ρ5, ρ6, ρ7, ρ8] s' := fun ρ5 ρ6 ρ7 ρ8 q => hN _ _ _ (Sub.refl _) ⟨g, gs, ρ5, ρ6, ρ7, ρ8, rfl, sub, sg, g0, q⟩
    by_cases hin : (i : Int) ∈ is
    · simp [hin]
      exact keep _ _ _ _ (by rw [lv, if_pos hin, List.append_nil]; exact gl)
    · rw [if_neg hin] at lv
      by_cases heq : y1 = y2
      · simp [hin, heq]
        exact keep _ _ _ _ (by rw [lv]; exact labels_keep gl b.1 b.2 (by rw [k1, k2, heq]))
      · simp [hin, heq]
        refine Eq.mpr (z_seq gg) fun p2 hp2 => ?_
        have ng : g ≠ p2 := ne_put sg hp2
        refine comp_keep (fun i acc => acc = ((gs.take i).map fun w => if w = y2 then y1 else w).map D.int) (by simp [sizeLine_eq]; have := gl.1; omega) (by simp) (fun acc => by rw [getL_ne ng]; exact gg) (fun i acc q => by subst q; simp; omega) (fun j x acc hx q Y Z hY hZ => ?_) fun acc q => ?_
        · subst q
          obtain ⟨k, hk, rfl⟩ : ∃ n, gs[j]? = some n ∧ .int n = x := by simpa using hx
          by_cases hk2 : k = y2
          · simp [hk2, dInt]
            refine ⟨mul_r (by decide) (by decide), hY _ _ (Sub.refl _ |> fun q => by simpa using q) ?_⟩
            rw [take_snoc hk]; simp [hk2]
          · simp [hk2, dInt]
            refine ⟨mul_r (by decide) (by decide), ?_⟩
            have : y1 + (k - y1) = k := by omega
            rw [this]
            refine hY _ _ (Sub.refl _ |> fun q => by simpa using q) ?_
            rw [take_snoc hk]; simp [hk2]
        · subst q
          rw [List.length_map, List.take_length]
          have g2 := sub_none sub hp2
          refine hN _ _ _ (Sub.refl _) ⟨p2, _, _, _, _, _, rfl, sub.putN g2, put_same, g2, ?_⟩
          rw [lv]
          refine labels_join gl b.1 b.2 k1 k2 (by simp; exact gl.1) fun x w hw => ?_
          rw [List.getElem?_map, hw]; rfl
  · obtain ⟨g, gs, o1, o2, o3, o4, rfl, sub, sg, g0, gl⟩ := hP
    rw [rangeD_len] at gl
    simp at gl
    simp
    exact ⟨_, sub.at sg, h g gs g0 gl⟩
theorem hs__law_whole_out : ∀ ds s R, sp__law_whole_out ds s R → rd__law_whole_out (endsD R) (startD N__law_whole_out.length ds) s := by
  refine sp3.to fun x y z st R h => ?_
  obtain ⟨n, e, ps, is, rfl, rfl, ho, m0, m1, he, hp, hl, h⟩ := h
  rw [st__law_whole_out]; unfold rd__law_whole_out
  simp
  refine ⟨n, e, ps, is, rfl, rfl, ho, m0, m1, he, hp, hl, fun p gs hp0 hg => ?_⟩
  have hgl := hg.1
  cases gs with
  | nil => simp at hgl; omega
  | cons g gs =>
    have pu : pureDs (D.int g :: gs.map D.int) = true := pureDs_ints (g :: gs)
    simp [z_ixL0 (a := D.int g) (xs := gs.map D.int) (getL_self (a := p)), z_count getL_self (Okd.int (i := g)) pu]
    have cnt : gs.countP ((fun y => deq y (D.int g)) ∘ D.int) + 1 = n ↔ hung n (live ps is ps.length) = true := by
      rw [hung_iff]
      have h0 : ((g :: gs).map D.int).countP (fun y => deq y (.int g)) = (g :: gs).length ↔ ∀ x ∈ g :: gs, x = g := by
        have e : ((g :: gs).map D.int).length = (g :: gs).length := by simp
        rw [← e, List.countP_eq_length]
        simp
      have h1 : ((g :: gs).map D.int).countP (fun y => deq y (.int g)) = gs.countP ((fun y => deq y (D.int g)) ∘ D.int) + 1 := by
        rw [List.countP_map, List.countP_cons]
        simp
      rw [← h1, ← hgl, h0]
      constructor
      · intro hx x hxn
        have hx0 : (g :: gs)[0]? = some g := rfl
        rw [← hg.2 0 x (by omega) (by rw [← hgl]; exact hxn), hx0]
        rw [List.getElem?_eq_getElem hxn]
        rw [hx _ (List.getElem_mem hxn)]
      · intro hx x hxm
        obtain ⟨j, hj⟩ := List.getElem?_of_mem hxm
        have hjl := (List.getElem?_eq_some_iff.mp hj).1
        have := (hg.2 0 j (by omega) (by rw [← hgl]; exact hjl)).mpr (hx j hjl)
        rw [hj] at this
        exact (Option.some.inj this).symm
    have e2 : decide (((gs.countP ((fun y => deq y (D.int g)) ∘ D.int) : Nat) : Int) + 1 = (n : Int)) = hung n (live ps is ps.length) := by
      rw [Bool.eq_iff_iff, decide_eq_true_iff, ← cnt]
      omega
    rw [e2]
    exact ⟨_, Sub.put hp0, h⟩
end K11
-- text K11P3
set_option Elab.async false
set_option linter.all false
set_option maxRecDepth 100000
set_option maxHeartbeats 2000000
set_option exponentiation.threshold 10000
/-! K11P3 -/
namespace K11
open PySem PySem.Spec PyProof.Rows L2 DL DR DG
def Bld (ord : List Nat) (E : Edges) (m : Nat) : Prop := ∀ k x, 1 ≤ k → k ≤ m → ord[k]? = some x → ∃ j y, j < k ∧ ord[j]? = some y ∧ Adj E x y
theorem Bld.mono {ord : List Nat} {E F : Edges} {m : Nat} (h : Bld ord E m) (hs : ∀ x y, Adj E x y → Adj F x y) : Bld ord F m := fun k x h1 h2 h3 => let ⟨j, y, a, b, c⟩ := h k x h1 h2 h3; ⟨j, y, a, b, hs _ _ c⟩
theorem adj_app {E F : Edges} {x y : Nat} (h : Adj E x y) : Adj (E ++ F) x y := h.elim (fun h => .inl (List.mem_append_left _ h)) fun h => .inr (List.mem_append_left _ h)
theorem hs__law_ends (t : Addr) : ∀ ds s R, sp__law_ends t ds s R → rd__law_ends t (endsD R) (startD N__law_ends.length ds) s := by
  refine sp3.to fun x y z st R h => ?_
  obtain ⟨n, links, rfl, rfl, rfl, m0, m1, l0, l1, h⟩ := h
  rw [st__law_ends]; unfold rd__law_ends
  simp
  refine ⟨n, rfl, rfl, by omega, fun p ord hp hor => fun q hq => ⟨by omega, ?_⟩⟩
  rw [put_is_none] at hq
  have hol : ord.length = n := by rw [hor.length_eq]; simp
  have hlt : ∀ x ∈ ord, x < n := fun x hx => List.mem_range.mp (hor.mem_iff.mp hx)
  have go : getL (put st p (.lst (natsD ord))) p = some (natsD ord) := getL_self
  refine loop_list (fun i acc ρ => ∃ (o5 : Option D) (ps : Edges), ρ = [some (.ref t), some (.int (n : Nat)), some (.int links), some (.ref p), some (.ref q), o5, none, none, none, none, none] ∧ acc = ps.map pairD ∧ ps.length = i ∧ PairsOk n ps ∧ Bld ord ps i)
    ⟨none, [], rfl, rfl, rfl, (fun x hx => by cases hx), fun k x h1 h2 => by omega⟩ (fun _ => trivial) (fun i x acc ρ hx hQ N hN => ?_) fun acc ρ hQ => ?_
  · obtain ⟨o5, ps, rfl, rfl, pl, pk, bl⟩ := hQ
    obtain ⟨k, rfl, hk, hi⟩ := rangeD_int hx
    have ek : k = ((i + 1 : Nat) : Int) := by omega
    rw [ek]
    have g1 : getL (put (put st p (.lst (natsD ord))) q (.lst (ps.map pairD))) p = some (natsD ord) := by rw [getL_ne hq.1.symm]; exact go
    have hi1 : i + 1 < ord.length := by omega
    have hy : (natsD ord)[((i : Int) + 1).toNat]? = some (.int (ord[i + 1] : Nat)) := by
      have e : ((i : Int) + 1).toNat = i + 1 := by omega
      rw [e]; exact natsD_get (List.getElem?_eq_getElem hi1)
    simp [z_ixLi g1 (show (0 : Int) ≤ (i : Int) + 1 by omega) hy, getL_self]
    refine ⟨by omega, by omega, fun r r0 r1 => ?_⟩
    have hr : r.toNat < ord.length := by omega
    have hw := natsD_get (List.getElem?_eq_getElem hr)
    rw [z_ixLi g1 r0 hw]
    refine ⟨by rw [sizeLine_eq]; omega, ?_⟩
    rw [z_append put_same (by simp [sizeLine_eq]; omega), put_put]
    refine hN _ _ _ (Sub.refl _) ⟨_, ps ++ [(ord[i + 1], ord[r.toNat])], rfl, by simp [pairD], by simp [pl], fun x hx => ?_, fun k x h1 h2 h3 => ?_⟩
    · rcases List.mem_append.mp hx with hx | hx
      · exact pk x hx
      · rw [List.mem_singleton.mp hx]; exact ⟨hlt _ (List.getElem_mem hi1), hlt _ (List.getElem_mem hr)⟩
    · by_cases e : k = i + 1
      · subst e
        rw [List.getElem?_eq_getElem hi1] at h3
        cases h3
        exact ⟨r.toNat, _, by omega, List.getElem?_eq_getElem hr, .inl (by simp)⟩
      · obtain ⟨j, y, a, b, c⟩ := bl k x h1 (by omega) h3
        exact ⟨j, y, a, b, adj_app c⟩
  · obtain ⟨o5, ps, rfl, rfl, pl, pk, bl⟩ := hQ
    rw [rangeD_len] at pl bl
    simp [z_len getL_self]
    refine ⟨by omega, loop_list (fun i acc ρ => ∃ (o6 o7 : Option D) (ps : Edges), ρ = [some (.ref t), some (.int (n : Nat)), some (.int links), some (.ref p), some (.ref q), o5, o6, o7, none, none, none] ∧ acc = ps.map pairD ∧ ps.length = n - 1 + i ∧ PairsOk n ps ∧ Bld ord ps (n - 1))
      ⟨none, none, ps, rfl, rfl, by omega, pk, bl⟩ (fun _ => trivial) (fun i x acc ρ hx hQ N hN => ?_) fun acc ρ hQ => ?_⟩
    · obtain ⟨o6, o7, ps, rfl, rfl, pl, pk, bl⟩ := hQ
      obtain ⟨k, rfl, hk, hi⟩ := rangeD_int hx
      simp [getL_self, z_mod (show 0 < (n : Int) by omega), sizeLine_eq]
      refine ⟨by omega, by omega, fun r r0 r1 => ⟨by omega, by omega, fun r2 r20 r21 => ?_⟩⟩
      rw [z_append put_same (by simp [sizeLine_eq]; omega), put_put]
      have b0 := Int.emod_nonneg (r + 1 + r2) (show (n : Int) ≠ 0 by omega)
      have b1 := Int.emod_lt_of_pos (r + 1 + r2) (show 0 < (n : Int) by omega)
      refine hN _ _ _ (Sub.refl _) ⟨_, _, ps ++ [(r.toNat, ((r + 1 + r2) % n).toNat)], rfl, by simp [pairD, r0, b0]; omega, by simp [pl]; omega, fun x hx => ?_, bl.mono fun x y => adj_app⟩
      rcases List.mem_append.mp hx with hx | hx
      · exact pk x hx
      · rw [List.mem_singleton.mp hx]; exact ⟨by simp only; omega, by simp only; omega⟩
    · obtain ⟨o6, o7, ps, rfl, rfl, pl, pk, bl⟩ := hQ
      rw [rangeD_len] at pl
      simp [sizeLine_eq]
      intro u hu
      rw [put_is_none, put_is_none] at hu
      have gq : getL (put (put (put st p (.lst (natsD ord))) q (.lst (ps.map pairD))) u (.lst [])) q = some (ps.map pairD) := by rw [getL_ne hu.1.symm]; exact getL_self
      rw [z_len gq]
      have pl2 : ps.length ≤ 30 := by omega
      refine ⟨ps.length, rfl, by simp, by omega, fun w ats hw wp => ?_⟩
      have wl : ats.length = ps.length := by rw [wp.length_eq]; simp
      have wr : ∀ x ∈ ats, x < ps.length := fun x hx => List.mem_range.mp (wp.mem_iff.mp hx)
      rw [put_is_none, put_is_none, put_is_none] at hw
      refine Eq.mpr (z_seq getL_self) ?_
      refine loop_any (fun i ρ s' => ∃ (o9 o10 : Option D) (acc : Edges), ρ = [some (.ref t), some (.int (n : Nat)), some (.int links), some (.ref p), some (.ref q), o5, o6, o7, some (.ref u), o9, o10] ∧ DL.Sub st s' ∧ s' q = some (.lst (ps.map pairD)) ∧ s' w = some (.lst (natsD ats)) ∧ s' u = some (.lst (acc.map pairD)) ∧ acc.length = i ∧ PairsOk n acc ∧ ∀ j, j < i → ∀ a, ats[j]? = some a → ∀ e, ps[a]? = some e → Adj acc e.1 e.2)
        ⟨none, none, [], rfl, (((Sub.put hp).putN hq.2).putN hu.2.2).putN hw.2.2.2, ?_, put_same, ?_, rfl, (fun x hx => by cases hx), fun j hj => by omega⟩ (fun i ρ s' h => ?_) (fun i x ρ s' hx hP N hN => ?_) fun ρ s' hP => ?_
      · rw [put_ne hw.2.1.symm, put_ne hu.1.symm, put_same]
      · rw [put_ne hw.1.symm, put_same]; rfl
      · obtain ⟨o9, o10, acc, rfl, sub, sq, sw, su, al, ao, aj⟩ := h
        exact getL_some sw
      · obtain ⟨o9, o10, acc, rfl, sub, sq, sw, su, al, ao, aj⟩ := hP
        obtain ⟨k, hk, rfl⟩ : ∃ n : Nat, ats[i]? = some n ∧ .int (n : Int) = x := by simpa [natsD] using hx
        have kb := wr k (List.mem_of_getElem? hk)
        have hil : i < ats.length := (List.getElem?_eq_some_iff.mp hk).1
        have e : (ps.map pairD)[k]? = some (.tup [.int (ps[k].1 : Nat), .int (ps[k].2 : Nat)]) := by simp [kb, pairD]
        have bd := pk _ (List.getElem_mem kb)
        have la : (acc.map pairD).length < sizeLine := by simp [sizeLine_eq]; omega
        simp [z_ixL (getL_some sq) e, z_append su la, getL_some su, sizeLine_eq, ↓ru__law_ends_0]
        intro r r0 r1
        have fin : ∀ (a b : Nat) (o : D), a < n → b < n → Adj [(a, b)] ps[k].1 ps[k].2 → N [some (.ref t), some (.int (n : Nat)), some (.int links), some (.ref p), some (.ref q), o5, o6, o7, some (.ref u), some (.int (k : Nat)), some o] (put s' u (.lst (acc.map pairD ++ [.tup [.int (a : Nat), .int (b : Nat)]]))) := fun a b o a1 b1 hab =>
          hN _ _ _ (Sub.refl _) ⟨_, _, acc ++ [(a, b)], rfl, sub.putN hu.2.2, by rw [put_ne hu.1.symm]; exact sq, by rw [put_ne hw.1]; exact sw, by rw [put_same]; simp [pairD], by simp [al], (fun x hx => by
            rcases List.mem_append.mp hx with hx | hx
            · exact ao x hx
            · rw [List.mem_singleton.mp hx]; exact ⟨a1, b1⟩), fun j hj a' ha e he => by
            by_cases ej : j = i
            · subst ej
              rw [hk] at ha; cases ha
              rw [List.getElem?_eq_getElem kb] at he; cases he
              exact hab.elim (fun h => .inl (List.mem_append_right _ h)) fun h => .inr (List.mem_append_right _ h)
            · exact adj_app (aj j (by omega) a' ha e he)⟩
        split
        · exact fin _ _ _ bd.2 bd.1 (.inr (by simp))
        · exact fin _ _ _ bd.1 bd.2 (.inl (by simp))
      · obtain ⟨o9, o10, acc, rfl, sub, sq, sw, su, al, ao, aj⟩ := hP
        have nl : (natsD ats).length = ats.length := by simp [natsD]
        rw [nl] at al aj
        simp
        refine ⟨_, sub.at su, h u acc hu.2.2 ?_ ao ⟨ord, hor, fun k x h1 h3 => ?_⟩⟩
        · omega
        have hk : k < ord.length := (List.getElem?_eq_some_iff.mp h3).1
        obtain ⟨j, y, a, b, c⟩ := bl k x h1 (by omega) h3
        refine ⟨j, y, a, b, ?_⟩
        have key : ∀ e ∈ ps, Adj acc e.1 e.2 := fun e he => by
          obtain ⟨at_, hat⟩ := List.getElem?_of_mem he
          have hl : at_ < ps.length := (List.getElem?_eq_some_iff.mp hat).1
          obtain ⟨jj, hjj⟩ := List.getElem?_of_mem (wp.mem_iff.mpr (List.mem_range.mpr hl))
          exact aj jj (List.getElem?_eq_some_iff.mp hjj).1 _ hjj _ hat
        rcases c with c | c
        · exact key _ c
        · exact (key _ c).symm
end K11
-- text K11P4
set_option Elab.async false
set_option linter.all false
set_option maxRecDepth 100000
set_option maxHeartbeats 2000000
set_option exponentiation.threshold 10000
/-! K11P4 -/
namespace K11
open PySem PySem.Spec PyProof.Rows L2 DL DR DG
theorem depDs_ints (is : List Int) : depDs (is.map D.int) = 0 := by
  have : depDs (is.map D.int) ≤ 0 := depDs_le fun d hd => by obtain ⟨i, _, rfl⟩ := List.mem_map.mp hd; simp
  omega
theorem okd_in (is : List Int) : Okd (.tup (is.map .int)) := ⟨by simp [pureD], by simp [depDs_ints]⟩
theorem pure_ins (ss : List (List Int)) : pureDs (ss.map inD) = true := by
  rw [pureDs_all, List.all_eq_true]
  intro x hx
  obtain ⟨s, _, rfl⟩ := List.mem_map.mp hx
  simp [inD, pureD]
def unI : D → Int
  | .int i => i
  | _ => 0
def unIn : D → List Int
  | .tup xs => xs.map unI
  | _ => []
theorem unIn_in (is : List Int) : unIn (inD is) = is := by
  show (is.map D.int).map unI = is
  rw [List.map_map]
  exact List.map_id'' (fun _ => rfl) is
theorem sortD_ins (ss : List (List Int)) : ∃ ss' : List (List Int), sortD (ss.map inD) = ss'.map inD ∧ ss'.Perm ss := by
  have pm := sortD_perm (ss.map inD)
  refine ⟨(sortD (ss.map inD)).map unIn, ?_, ?_⟩
  · rw [List.map_map]
    refine (List.map_congr_left (g := id) fun x hx => ?_).symm ▸ (List.map_id _).symm
    obtain ⟨s, _, rfl⟩ := List.mem_map.mp (pm.mem_iff.mp hx)
    show inD (unIn (inD s)) = inD s
    rw [unIn_in]
  · have := pm.map unIn
    rw [List.map_map, show (unIn ∘ inD) = id from funext unIn_in, List.map_id] at this
    exact this
theorem depDs_ins (ss : List (List Int)) : depDs (ss.map inD) ≤ 60 := depDs_le fun d hd => by
  obtain ⟨s, _, rfl⟩ := List.mem_map.mp hd
  simp [inD, depDs_ints]
theorem alike_ins (ss : List (List Int)) : Alikes (ss.map inD) := fun d hd e he => by
  obtain ⟨s, _, rfl⟩ := List.mem_map.mp hd
  obtain ⟨u, _, rfl⟩ := List.mem_map.mp he
  have : ∀ a b : List Int, PySem.W.alikeAll (toPys (a.map D.int)) (toPys (b.map D.int)) = true := fun a b => by
    rw [toPys_map, toPys_map, List.map_map, List.map_map]
    exact PySem.W.alike_ints a b
  simp [inD, toPy, PySem.W.alike, this]
theorem hs__law_states (t : Addr) : ∀ ds s R, sp__law_states t ds s R → rd__law_states t (endsD R) (startD N__law_states.length ds) s := by
  refine sp4.to fun x y z u st R h => ?_
  obtain ⟨n, most, e, ps, rfl, rfl, rfl, rfl, m0, m1, he, hp, hl, k0, k1, h⟩ := h
  rw [st__law_states]; unfold rd__law_states
  simp [sizeLine_eq]
  refine fun p hp0 => ⟨mul_l (by decide) (by decide), by omega, ?_⟩
  have nep : e ≠ p := fun z => by subst z; unfold getL at he; rw [hp0] at he; cases he
  refine loop_list (fun i acc ρ => ∃ (o5 o6 : Option D) (ss : List (List Int)), ρ = [some (.ref t), some (.int (n : Nat)), some (.ref e), some (.int most), some (.ref p), o5, o6, none] ∧ acc = ss.map inD ∧ ss.length ≤ 1 + i ∧ [] ∈ ss ∧ ∀ s ∈ ss, s.length ≤ 40)
    ⟨none, none, [[]], rfl, rfl, by simp, by simp, by simp⟩ (fun _ => trivial) (fun i x acc ρ hx hQ N hN => ?_) fun acc ρ hQ => ?_
  · obtain ⟨o5, o6, ss, rfl, rfl, el, e0, es⟩ := hQ
    obtain ⟨k, rfl, hk, hi⟩ := rangeD_int hx
    have ge : getL (put st p (.lst (ss.map inD))) e = some (ps.map pairD) := by rw [getL_ne nep]; exact he
    simp [z_len ge, z_mod]
    refine ⟨by omega, fun q hq => ?_⟩
    have k3 : 0 ≤ k % 3 := Int.emod_nonneg _ (by decide)
    have k4 : k % 3 < 3 := Int.emod_lt_of_pos _ (by decide)
    refine comp_keep (fun i acc => acc.length ≤ i ∧ ∃ is : List Int, acc = is.map .int) (by rw [rangeD_len, sizeLine_eq]; omega) ⟨Nat.le_refl _, [], rfl⟩ (fun _ => trivial) (fun i acc q => q.1) (fun i x acc hx hA Y Z hY hZ => ?_) fun acc hA => ?_
    · obtain ⟨l1, is, rfl⟩ := hA
      obtain ⟨j, rfl, hj, hi⟩ := rangeD_int hx
      simp [z_mod]
      refine ⟨by omega, by omega, fun r r0 r1 => ?_⟩
      split
      · exact hY _ _ (Sub.refl _) ⟨by simp at l1 ⊢; omega, is ++ [j], by simp⟩
      · exact hZ _ (Sub.refl _) ⟨by omega, is, rfl⟩
    · obtain ⟨l1, is, rfl⟩ := hA
      rw [rangeD_len] at l1
      rw [put_is_none] at hq
      have gq : getL (put (put st p (.lst (ss.map inD))) q (.lst (is.map .int))) q = some (is.map .int) := getL_self
      have gp : getL (put (put st p (.lst (ss.map inD))) q (.lst (is.map .int))) p = some (ss.map inD) := by rw [getL_ne hq.1.symm]; exact getL_self
      have sp : (put (put st p (.lst (ss.map inD))) q (.lst (is.map .int))) p = some (.lst (ss.map inD)) := by rw [put_ne hq.1.symm]; exact put_same
      have neq : e ≠ q := fun z => by subst z; unfold getL at he; rw [hq.2] at he; cases he
      have ge2 : getL (put (put st p (.lst (ss.map inD))) q (.lst (is.map .int))) e = some (ps.map pairD) := by rw [getL_ne neq]; exact ge
      have keep : N [some (.ref t), some (.int (n : Nat)), some (.ref e), some (.int most), some (.ref p), some (.int k), some (.ref q), none] (put (put st p (.lst (ss.map inD))) q (.lst (is.map .int))) :=
        hN _ _ _ (Sub.put (put_is_none.mpr hq)) ⟨_, _, ss, rfl, rfl, by omega, e0, es⟩
      simp [z_len gp, z_tuple gq]
      split
      · refine ⟨_, Sub.refl _, ?_⟩
        refine Eq.mpr (z_in (k := true) gp) ⟨okd_in is, pure_ins ss, ?_⟩
        simp only
        split
        · refine ⟨n, e, ps, is, rfl, rfl, .inr ⟨q, rfl, gq⟩, m0, m1, ge2, hp, hl, ?_⟩
          cases hung n (live ps is ps.length)
          · simp; exact keep
          · simp [gp, z_tuple gq]
            refine ⟨_, Sub.refl _, ?_⟩
            rw [z_append sp (by simp [sizeLine_eq]; omega)]
            exact hN _ _ _ (((Sub.put hp0).putN hq.2).putN hp0 |>.at put_same) ⟨_, _, ss ++ [is], rfl, by simp [inD], by simp; omega, by simp [e0], fun s hs => by
              rcases List.mem_append.mp hs with hs | hs
              · exact es s hs
              · rw [List.mem_singleton.mp hs]; simp at l1; omega⟩
        · exact keep
      · exact keep
  · obtain ⟨o5, o6, ss, rfl, rfl, el, e0, es⟩ := hQ
    rw [rangeD_len] at el
    simp
    exact ⟨_, Sub.refl _, h p ss hp0 (by omega) e0 es⟩
theorem strs_alike (ps : List Str) : Alikes (ps.map D.str) := by
  intro d hd d' hd'
  obtain ⟨a, _, rfl⟩ := List.mem_map.mp hd
  obtain ⟨b, _, rfl⟩ := List.mem_map.mp hd'
  rfl
def strOf : D → Str
  | .str s => s
  | _ => Str.empty
theorem strs_sorted {ps : List Str} : ∃ qs : List Str, sortD (ps.map D.str) = qs.map D.str ∧ qs.Perm ps := by
  have hp := sortD_perm (ps.map D.str)
  have : ∀ ds : List D, (∀ d ∈ ds, ∃ s : Str, d = .str s) → ∃ qs : List Str, ds = qs.map D.str := fun ds => by
    induction ds with
    | nil => exact fun _ => ⟨[], rfl⟩
    | cons d ds ih =>
      intro h
      obtain ⟨s, rfl⟩ := h d List.mem_cons_self
      obtain ⟨qs, rfl⟩ := ih fun e he => h e (List.mem_cons_of_mem _ he)
      exact ⟨s :: qs, rfl⟩
  obtain ⟨qs, e⟩ := this (sortD (ps.map D.str)) fun d hd => by
    obtain ⟨s, _, rfl⟩ := List.mem_map.mp (hp.mem_iff.mp hd)
    exact ⟨s, rfl⟩
  refine ⟨qs, e, ?_⟩
  rw [e] at hp
  have h2 := hp.map strOf
  rw [List.map_map, List.map_map] at h2
  have e3 : (strOf ∘ D.str) = id := rfl
  rw [e3, List.map_id, List.map_id] at h2
  exact h2
theorem strs_dep (ps : List Str) : depDs (ps.map D.str) ≤ 60 := depDs_le fun d hd => by
  obtain ⟨s, _, rfl⟩ := List.mem_map.mp hd
  simp
theorem leD_str (a b : Str) : leD (.str a) (.str b) = decide (a.cps.toList ≤ b.cps.toList) := congrFun (congrFun (PySem.W.dataLe_str (β := Str) id) a) b
theorem lt_of_le {a b : Str} (h : leD (.str a) (.str b) = true) (hn : a ≠ b) : stLt a b = true := by
  rw [leD_str, decide_eq_true_iff] at h
  unfold stLt
  rw [decide_eq_true_iff]
  refine Classical.byContradiction fun k => hn ?_
  have e := List.le_antisymm h (List.not_lt.mp k)
  cases a with
  | mk a =>
    cases b with
    | mk b =>
      have e2 : a = b := Array.toList_inj.mp e
      rw [e2]
theorem sorted_lt {ps : List Str} (hs : (ps.map D.str).Pairwise fun a b => leD a b = true) (hn : ps.Nodup) : ∀ i j, i < j → j < ps.length → stLt (nm ps i) (nm ps j) = true := fun i j hij hj => by
  have hi : i < ps.length := by omega
  have h1 := List.pairwise_iff_getElem.mp hs i j (by simpa using hi) (by simpa using hj) hij
  have h2 := List.pairwise_iff_getElem.mp hn i j hi hj hij
  have e1 : nm ps i = ps[i] := nm_of (List.getElem?_eq_getElem hi)
  have e2 : nm ps j = ps[j] := nm_of (List.getElem?_eq_getElem hj)
  rw [e1, e2]
  rw [List.getElem_map, List.getElem_map] at h1
  exact lt_of_le h1 h2
/-- sorted of the fresh list of names -/
theorem sort_names {st : Stor} {R : KD} {p : Addr} {ps : List Str} {many : Int} (hp : st p = none) (pl : ps.length = many.toNat) (pn : ps.Nodup)
    (h : ∀ q (qs : List Str) s2, DL.Sub st s2 → s2 q = some (.lst (qs.map .str)) → st q = none → qs.Nodup → qs.length = many.toNat → (∀ i j, i < j → j < qs.length → stLt (nm qs i) (nm qs j) = true) → R (.ref q) s2) : dSorted [.ref p] (put st p (.lst (ps.map .str))) R := by
  refine ⟨ps.map .str, getL_self, pure_strs ps, strs_dep ps, strs_alike ps, ?_, fun q hq => ?_⟩
  · intro x hx
    obtain ⟨s, _, rfl⟩ := List.mem_map.mp hx
    intro z; cases z
  · obtain ⟨qs, e, pm⟩ := strs_sorted (ps := ps)
    have srt := sortD_sorted (ps.map D.str)
    rw [e] at srt ⊢
    have hq := put_is_none.mp hq
    have qn := pm.nodup_iff.mpr pn
    exact h q qs _ ((Sub.put hp).putN hq.2) put_same hq.2 qn (by rw [pm.length_eq]; exact pl) (sorted_lt srt qn)
theorem nm_getD {qs : List Str} {a : Nat} (h : a < qs.length) : (qs.map D.str)[a]? = some (.str (nm qs a)) := by rw [List.getElem?_map, nm_get h]; rfl
theorem leD_nil {x : List Int} (h : leD (inD x) (inD []) = true) : x = [] := by
  cases x with
  | nil => rfl
  | cons a r => exact absurd h (by
      unfold leD
      rw [PySem.W.dataLe_eq]
      simp [inD, toPy, toPys, PySem.W.dataLt, PySem.W.keyToks, PySem.W.keyToksAll]
      rfl)
theorem first_nil {ss : List (List Int)} (h0 : [] ∈ ss) (hs : (ss.map inD).Pairwise fun a b => leD a b = true) : ss[0]? = some [] := by
  cases ss with
  | nil => cases h0
  | cons x r =>
    rcases List.mem_cons.mp h0 with e | e
    · rw [← e]; rfl
    · have := (List.pairwise_cons.mp hs).1 (inD []) (List.mem_map.mpr ⟨[], e, rfl⟩)
      rw [leD_nil this]; rfl
theorem build_one : Build 1 [] := ⟨[0], List.Perm.refl _, fun k x hk e => by
  have := (List.getElem?_eq_some_iff.mp e).1
  simp at this
  omega⟩
theorem hs__law_grid (t : Addr) : ∀ ds s R, sp__law_grid t ds s R → rd__law_grid t (endsD R) (startD N__law_grid.length ds) s := by
  refine sp4.to fun x y z u st R h => ?_
  obtain ⟨n, links, most, rfl, rfl, rfl, rfl, m0, m1, l0, l1, k0, k1, h⟩ := h
  rw [st__law_grid]; unfold rd__law_grid
  simp [sizeLine_eq]
  refine ⟨(n : Int), rfl, rfl, by omega, by omega, fun p xs hp xl xn => ?_⟩
  refine sort_names hp xl xn fun q qs s2 sub2 sq q0 qn ql qso => ?_
  have ql : qs.length = n := by omega
  intro r hr
  have r0 := sub_none sub2 hr
  have gq := getL_some sq
  have core : ∀ (e : Addr) (ps : Edges) (s' : Stor), DL.Sub st s' → getL s' q = some (qs.map .str) → getL s' e = some (ps.map pairD) → PairsOk n ps → Build n ps → ps.length ≤ n - 1 + (links.toNat - (n - 1)) → (1 < n → ps.length = n - 1 + (links.toNat - (n - 1))) →
        rk__law_grid_0 t (endsD R) [some (.ref t), some (.int (n : Nat)), some (.int links), some (.int most), some (.ref q), some (.ref e), none, none] s' := by
    intro e ps s' sub gq ge pk bl pl2 pl3
    rw [ru__law_grid_0]
    simp [sizeLine_eq]
    intro r hr
    have nqr : q ≠ r := fun z => by subst z; unfold getL at gq; rw [hr] at gq; cases gq
    have ner : e ≠ r := fun z => by subst z; unfold getL at ge; rw [hr] at ge; cases ge
    rw [z_seq (by rw [getL_ne ner]; exact ge)]
    refine loop_list (fun i acc ρ => ∃ (o7 : Option D) (ls : List Lk), ρ = [some (.ref t), some (.int (n : Nat)), some (.int links), some (.int most), some (.ref q), some (.ref e), some (.ref r), o7] ∧ acc = ls.map (lkD qs) ∧ edges ls = ps.take i) ⟨none, [], rfl, rfl, by simp [edges]⟩ (fun acc => by rw [getL_ne ner]; exact ge) (fun i x acc ρ hx hQ N hN => ?_) fun acc ρ hQ => ?_
    · obtain ⟨o7, ls, rfl, rfl, al⟩ := hQ
      have hi : i < ps.length := by have := (List.getElem?_eq_some_iff.mp hx).1; simpa using this
      have ll : ls.length = i := by
        have := congrArg List.length al
        simp [edges] at this
        omega
      have hpi := List.getElem?_eq_getElem hi
      rw [List.getElem?_map, hpi] at hx
      cases hx
      have b := pk _ (List.getElem_mem hi)
      generalize ps[i] = ab at b hpi
      obtain ⟨a, c⟩ := ab
      have gq2 : getL (put s' r (.lst (ls.map (lkD qs)))) q = some (qs.map .str) := by rw [getL_ne nqr]; exact gq
      have la : (ls.map (lkD qs)).length < sizeLine := by rw [sizeLine_eq, List.length_map]; omega
      have k1 := nm_getD (qs := qs) (a := a) (by have := b.1; simp only at this; omega)
      have k2 := nm_getD (qs := qs) (a := c) (by have := b.2; simp only at this; omega)
      simp [pairD, z_ixL gq2 k1, z_ixL gq2 k2, sizeLine_eq]
      intro v i' j'
      rw [z_append put_same la, put_put]
      refine hN _ _ _ (Sub.refl _) ⟨_, ls ++ [⟨a, c, v, i', j'⟩], rfl, by simp [lkD], ?_⟩
      rw [take_snoc hpi, ← al]; simp [edges]
    · obtain ⟨o7, ls, rfl, rfl, al⟩ := hQ
      rw [List.length_map, List.take_length] at al
      have ll : ls.length = ps.length := by rw [← al]; simp [edges]
      have gq2 : getL (put s' r (.lst (ls.map (lkD qs)))) q = some (qs.map .str) := by rw [getL_ne nqr]; exact gq
      have ge2 : getL (put s' r (.lst (ls.map (lkD qs)))) e = some (ps.map pairD) := by rw [getL_ne ner]; exact ge
      simp [z_tuple gq2, sizeLine_eq]
      refine ⟨_, Sub.refl _, ?_⟩
      rw [z_tuple getL_self]
      refine ⟨_, Sub.refl _, n, most, e, ps, rfl, rfl, rfl, rfl, m0, m1, ge2, pk, by omega, k0, k1, fun u ss hu sl e0 es => ?_⟩
      refine ⟨_, getL_self, pure_ins ss, depDs_ins ss, alike_ins ss, fun x hx => ?_, fun w hw => ?_⟩
      · obtain ⟨a, _, rfl⟩ := List.mem_map.mp hx
        simp [inD]
      · refine Eq.mpr (z_tuple getL_self) ?_
        obtain ⟨ss', es', ps'⟩ := sortD_ins ss
        rw [es']
        rw [put_is_none, put_is_none] at hw
        rw [put_is_none] at hu
        have n1 : ∀ a, s' a = none → st a = none := fun a ha => sub_none sub ha
        have srt := sortD_sorted (ss.map inD)
        rw [es'] at srt
        refine ⟨_, Sub.refl _, st, ((sub.putN (n1 _ hr)).putN (n1 _ hu.2)).putN (n1 _ hw.2.2), h qs ls ss' ⟨⟨qn, by omega⟩, by omega, qso, by omega, fun l hl => ?_⟩ ⟨first_nil (ps'.mem_iff.mpr e0) srt, by rw [ps'.length_eq]; omega, fun s hs => es s (ps'.mem_iff.mp hs)⟩ ql (by omega) (fun h => by rw [ll]; exact pl3 h) (by rw [al]; exact bl)⟩
        have := pk (l.a, l.b) (by rw [← al]; exact List.mem_map.mpr ⟨l, hl, rfl⟩)
        rw [ql]; exact this
  split
  · refine ⟨n, links, rfl, rfl, rfl, by omega, m1, l0, l1, fun e ps he pl2 pk bl => ?_⟩
    rw [put_is_none] at he
    have nqr : q ≠ r := fun z => by subst z; rw [hr] at sq; cases sq
    have nqe : q ≠ e := fun z => by subst z; rw [he.2] at sq; cases sq
    exact core e ps _ ((sub2.putN r0).putN (sub_none sub2 he.2)) (by rw [getL_ne nqe, getL_ne nqr]; exact gq) getL_self pk bl (by omega) fun _ => pl2
  · have nqr : q ≠ r := fun z => by subst z; rw [hr] at sq; cases sq
    refine core r [] _ (sub2.putN r0) (by rw [getL_ne nqr]; exact gq) getL_self (fun x hx => by cases hx) ?_ (by simp) fun h => by omega
    have : n = 1 := by omega
    rw [this]; exact build_one
end K11
-- text K11P5
set_option Elab.async false
set_option linter.all false
set_option maxRecDepth 100000
set_option maxHeartbeats 2000000
set_option exponentiation.threshold 10000
/-! K11P5 -/
namespace K11
open PySem PySem.Spec PyProof.Rows L2 DL DR DG
theorem hung_heads {n : Nat} {E : Edges} {h : Nat → Nat} (H : Heads n E h) (hn : 1 ≤ n) : (List.range n).all (fun x => decide (h x = 0)) = hung n E := by
  rw [Bool.eq_iff_iff, List.all_eq_true, hung_iff]
  constructor
  · intro k x hx
    have e := of_decide_eq_true (k x (List.mem_range.mpr hx))
    have := (H x hx).2.1
    rw [e] at this
    exact this.symm
  · intro k x hx
    have hx := List.mem_range.mp hx
    have := (H x hx).2.2 0 (by omega) (k x hx).symm
    exact decide_eq_true (by omega)
theorem idx_nm {ps : List Str} (hn : ps.Nodup) {a : Nat} (ha : a < ps.length) : idx ps (nm ps a) = a := by
  have hm : nm ps a ∈ ps := List.mem_of_getElem? (nm_get ha)
  have hl := List.idxOf_lt_length_of_mem hm
  refine nm_inj hn hl ha ?_
  refine nm_of ?_
  show ps[List.idxOf (nm ps a) ps]? = _
  rw [List.getElem?_eq_getElem hl, List.getElem_idxOf]
theorem hd_val {ps : List Str} (hn : ps.Nodup) {h : Nat → Nat} {a : Nat} (ha : a < ps.length) : valD (hdD ps h) (.inr (nm ps a)) = some (.str (nm ps (h a))) := by
  unfold hdD
  rw [plK_val (List.mem_of_getElem? (nm_get ha)), idx_nm hn ha]
theorem hd_congr {ps : List Str} (hn : ps.Nodup) {h k : Nat → Nat} (e : ∀ x, x < ps.length → h x = k x) : hdD ps h = hdD ps k := by
  unfold hdD plK
  refine List.map_congr_left fun q hq => ?_
  have hl : idx ps q < ps.length := List.idxOf_lt_length_of_mem hq
  show (Sum.inr q, D.str (nm ps (h (idx ps q)))) = (Sum.inr q, D.str (nm ps (k (idx ps q))))
  rw [e _ hl]
theorem hd_put {ps : List Str} (hn : ps.Nodup) {h : Nat → Nat} {a b : Nat} (ha : a < ps.length) : putD (hdD ps h) (.inr (nm ps a)) (.str (nm ps b)) = hdD ps fun x => if x = a then b else h x := by
  unfold hdD
  rw [plK_put (List.mem_of_getElem? (nm_get ha))]
  unfold plK
  refine List.map_congr_left fun q hq => ?_
  have hl := List.idxOf_lt_length_of_mem hq
  have hq2 : nm ps (idx ps q) = q := by
    refine nm_of ?_
    show ps[List.idxOf q ps]? = _
    rw [List.getElem?_eq_getElem hl, List.getElem_idxOf]
  by_cases e : q = nm ps a
  · subst e
    have := idx_nm hn ha
    simp [this]
  · have : ¬ idx ps q = a := fun z => e (by rw [← hq2, z])
    simp [e, this]
theorem stLt_nm {ps : List Str} (hs : ∀ i j, i < j → j < ps.length → stLt (nm ps i) (nm ps j) = true) {i j : Nat} (hi : i < ps.length) (hj : j < ps.length) : stLt (nm ps i) (nm ps j) = decide (i < j) := by
  rcases Nat.lt_trichotomy i j with h | h | h
  · rw [hs i j h hj]; simp [h]
  · subst h
    unfold stLt
    simp
  · have := hs j i h hi
    unfold stLt at this ⊢
    have h2 := of_decide_eq_true this
    have : ¬ (nm ps i).cps.toList < (nm ps j).cps.toList := fun z => List.lt_asymm h2 z
    simp [this]
    omega
theorem z_inOut {st : Stor} {R : KD} {z : D} {is : List Int} {x : Int} (h : OutOk st z is) : dIn (.int x) z st R = R (.bl (decide (x ∈ is))) st := by
  have := z_notOut (R := R) (x := x) (n := false) h
  simpa using this
theorem lk_enum {ps : List Str} {ls : List Lk} {i : Nat} {x : List D} (hx : (enumD 0 (ls.map (lkD ps)))[i]? = some x) : ∃ l, ls[i]? = some l ∧ x = [.int (i : Nat), lkD ps l] := by
  rw [enumD_get, List.getElem?_map] at hx
  cases e : ls[i]? with
  | none => rw [e] at hx; cases hx
  | some s => rw [e] at hx; exact ⟨s, rfl, by simpa using hx.symm⟩
theorem str_get {ps : List Str} {i : Nat} {x : D} (hx : (ps.map D.str)[i]? = some x) : i < ps.length ∧ x = .str (nm ps i) := by
  rw [List.getElem?_map] at hx
  cases e : ps[i]? with
  | none => rw [e] at hx; cases hx
  | some s =>
    rw [e] at hx
    refine ⟨(List.getElem?_eq_some_iff.mp e).1, ?_⟩
    rw [nm_of e]
    exact (Option.some.inj hx).symm
theorem live_succ {ls : List Lk} {is : List Int} {i : Nat} {l : Lk} (hi : ls[i]? = some l) : live (edges ls) is (i + 1) = live (edges ls) is i ++ if (i : Int) ∈ is then [] else [(l.a, l.b)] := by
  show live _ _ i ++ _ = _
  have : (edges ls)[i]? = some (l.a, l.b) := by unfold edges; rw [List.getElem?_map, hi]; rfl
  rw [this]
theorem LkOk.sub {st s' : Stor} {y : D} {ps : List Str} {ls : List Lk} (h : LkOk st y ps ls) (sub : DL.Sub st s') : LkOk s' y ps ls := by
  rcases h with h | ⟨a, h, g⟩
  · exact .inl h
  · exact .inr ⟨a, h, getL_sub sub g⟩
theorem enuL {st s1 : Stor} {y : D} {ps : List Str} {ls : List Lk} (h : LkOk st y ps ls) (sub : DL.Sub st s1) {RI : List (List D) → (Stor → Prop) → Stor → Prop}
    (k : ∀ grd : Stor → Prop, (∀ s', DL.Sub st s' → grd s') → RI (enumD 0 (ls.map (lkD ps))) grd s1) : enuD y s1 RI := by
  rcases h with rfl | ⟨a, rfl, g⟩
  · exact k _ fun _ _ => trivial
  · exact Eq.mpr (z_enu (getL_sub sub g)) (k _ fun s' h => getL_sub h g)
theorem hs_heads_by : ∀ ds s R, sp_heads_by ds s R → rd_heads_by (endsD R) (startD N_heads_by.length ds) s := by
  refine sp3.to fun x y z st R h => ?_
  obtain ⟨ps, ls, is, rfl, hk, ho, gl, h⟩ := h
  have pn := gl.pl.n
  have n9 := gl.pl.l
  rw [st_heads_by]; unfold rd_heads_by
  simp [sizeLine_eq]
  intro p hp
  refine dcomp_keep (fun i acc => acc = plK (ps.take i) fun q => .str q) (by rw [List.length_map, sizeLine_eq]; omega) rfl (fun _ => trivial) (fun i acc q => by subst q; rw [plK_len]; simp; omega) (fun i x acc hx hQ Y Z hY hZ => ?_) fun acc hQ => ?_
  · subst hQ
    obtain ⟨hi, rfl⟩ := str_get hx
    simp
    refine hY _ _ _ (Sub.refl _) ?_
    rw [plK_new (F := fun q => .str q) (take_new pn (nm_get hi)), take_snoc (nm_get hi)]
  · subst hQ
    rw [List.length_map, List.take_length]
    have e0 : (plK ps fun q => D.str q) = hdD ps id := by
      unfold hdD plK
      refine List.map_congr_left fun q hq => ?_
      have hl := List.idxOf_lt_length_of_mem hq
      have hq2 : nm ps (idx ps q) = q := by
        refine nm_of ?_
        show ps[List.idxOf q ps]? = _
        rw [List.getElem?_eq_getElem hl, List.getElem_idxOf]
      show (Sum.inr q, D.str q) = (Sum.inr q, D.str (nm ps (idx ps q)))
      rw [hq2]
    rw [e0]
    refine enuL hk (Sub.put hp) fun grd hgrd => ?_
    refine loop_any (fun i ρ s' => ∃ (o4 o5 o6 o7 o8 : Option D) (h : Nat → Nat), ρ = [some (stD ps), some y, some z, some (.ref p), o4, o5, o6, o7, o8] ∧ DL.Sub st s' ∧ s' p = some (.dic (hdD ps h)) ∧ Heads ps.length (live (edges ls) is i) h)
      ⟨none, none, none, none, none, id, rfl, Sub.put hp, put_same, heads_start _⟩ (fun i ρ s' h => by obtain ⟨_, _, _, _, _, _, _, sub, _⟩ := h; exact hgrd s' sub) (fun i x ρ s' hx hP N hN => ?_) fun ρ s' hP => ?_
    · obtain ⟨o4, o5, o6, o7, o8, h, rfl, sub, sp, hh⟩ := hP
      obtain ⟨l, hi, rfl⟩ := lk_enum hx
      obtain ⟨la, lb⟩ := gl.lb l (List.mem_of_getElem? hi)
      have lv := live_succ (is := is) hi
      have ho' := ho.sub sub
      have ha := hd_val pn (h := h) la
      have hb := hd_val pn (h := h) lb
      have hal := (hh _ la).1
      have hbl := (hh _ lb).1
      simp [z_inOut ho', z_dget sp (y := .str _) rfl ha, z_dget sp (y := .str _) rfl hb]
      by_cases hin : (i : Int) ∈ is
      · rw [if_pos hin]
        exact hN _ _ _ (Sub.refl _) ⟨_, _, _, _, _, h, rfl, sub, sp, by rw [lv, if_pos hin, List.append_nil]; exact hh⟩
      · rw [if_neg hin]
        rw [if_neg hin] at lv
        by_cases he : nm ps (h l.a) = nm ps (h l.b)
        · rw [if_pos he]
          exact hN _ _ _ (Sub.refl _) ⟨_, _, _, _, _, h, rfl, sub, sp, by rw [lv]; exact heads_keep hh la lb (nm_inj pn hal hbl he)⟩
        · rw [if_neg he]
          have hne : h l.a ≠ h l.b := fun z => he (by rw [z])
          have elo : (if stLt (nm ps (h l.b)) (nm ps (h l.a)) = true then nm ps (h l.b) else nm ps (h l.a)) = nm ps (min (h l.a) (h l.b)) := by
            rw [stLt_nm gl.so hbl hal]
            by_cases q : h l.b < h l.a
            · rw [show min (h l.a) (h l.b) = h l.b by omega]; simp [q]
            · rw [show min (h l.a) (h l.b) = h l.a by omega]; simp [q]
          have ehi : (if stLt (nm ps (h l.a)) (nm ps (h l.b)) = true then nm ps (h l.b) else nm ps (h l.a)) = nm ps (max (h l.a) (h l.b)) := by
            rw [stLt_nm gl.so hal hbl]
            by_cases q : h l.a < h l.b
            · rw [show max (h l.a) (h l.b) = h l.b by omega]; simp [q]
            · rw [show max (h l.a) (h l.b) = h l.a by omega]; simp [q]
          rw [elo, ehi]
          have hj := heads_join hh la lb hne
          rw [← lv] at hj
          have hgl : max (h l.a) (h l.b) < ps.length := by omega
          generalize min (h l.a) (h l.b) = lo at hj ⊢
          generalize max (h l.a) (h l.b) = hg at hj hgl ⊢
          have e00 : (hdD ps fun x => if x < 0 ∧ h x = hg then lo else h x) = hdD ps h := hd_congr pn fun x _ => by simp
          refine loop_any (fun j ρ s2 => ∃ o4 : Option D, ρ = [some (stD ps), some y, some z, some (.ref p), o4, some (.int (i : Nat)), some (lkD ps l), some (.str (nm ps lo)), some (.str (nm ps hg))] ∧ DL.Sub st s2 ∧ s2 p = some (.dic (hdD ps fun x => if x < j ∧ h x = hg then lo else h x)))
            ⟨o4, rfl, sub, by rw [sp, e00]⟩ (fun _ _ _ _ => trivial) (fun j x ρ s2 hx hP M hM => ?_) fun ρ s2 hP => ?_
          · obtain ⟨o4, rfl, sub2, sp2⟩ := hP
            obtain ⟨hj1, rfl⟩ := str_get hx
            have hv := hd_val pn (h := fun x => if x < j ∧ h x = hg then lo else h x) hj1
            simp only [Nat.lt_irrefl, false_and, if_false] at hv
            simp [z_dget sp2 (y := .str _) rfl hv]
            have hjl := (hh j hj1).1
            have put1 : putD (hdD ps fun x => if x < j ∧ h x = hg then lo else h x) (.inr (nm ps j)) (.str (nm ps lo)) = hdD ps fun x => if x = j then lo else if x < j ∧ h x = hg then lo else h x := hd_put pn hj1
            by_cases hc : h j = hg
            · rw [if_pos (by rw [hc])]
              rw [z_dset sp2 (y := .str _) rfl (by unfold hdD; rw [plK_len, sizeLine_eq]; omega), put1]
              refine hM _ _ _ (Sub.refl _) ⟨_, rfl, sub2.putN hp, ?_⟩
              rw [put_same]
              congr 2
              refine hd_congr pn fun x _ => ?_
              by_cases e1 : x = j
              · subst e1; simp [hc]
              · have e2 : (x < j + 1) = (x < j) := by simp; omega
                simp [e1, e2]
            · rw [if_neg fun z => hc (nm_inj pn hjl hgl z)]
              refine hM _ _ _ (Sub.refl _) ⟨_, rfl, sub2, ?_⟩
              rw [sp2]
              congr 2
              refine hd_congr pn fun x _ => ?_
              by_cases e1 : x = j
              · subst e1; simp [hc]
              · have e2 : (x < j + 1) = (x < j) := by simp; omega
                simp [e2]
          · obtain ⟨o4, rfl, sub2, sp2⟩ := hP
            rw [List.length_map] at sp2
            refine hN _ _ _ (Sub.refl _) ⟨_, _, _, _, _, _, rfl, sub2, ?_, hj⟩
            rw [sp2]
            congr 2
            exact hd_congr pn fun x hx => by simp [hx]
    · obtain ⟨o4, o5, o6, o7, o8, h2, rfl, sub, sp, hh⟩ := hP
      rw [enumD_len, List.length_map] at hh
      simp
      exact ⟨_, sub.at sp, h p h2 hp hh⟩
end K11
-- text K11P6
set_option Elab.async false
set_option linter.all false
set_option maxRecDepth 100000
set_option maxHeartbeats 2000000
set_option exponentiation.threshold 10000
/-! K11P6 -/
namespace K11
open PySem PySem.Spec PyProof.Rows L2 DL DR DG
theorem hs_hangs_by : ∀ ds s R, sp_hangs_by ds s R → rd_hangs_by (endsD R) (startD N_hangs_by.length ds) s := by
  refine sp3.to fun x y z st R h => ?_
  obtain ⟨ps, ls, is, rfl, rfl, ho, gl, h⟩ := h
  have pn := gl.pl.n
  have n9 := gl.pl.l
  have n1 := gl.n1
  rw [st_hangs_by]; unfold rd_hangs_by
  simp
  refine ⟨ps, ls, is, rfl, .inl rfl, ho, gl, fun p hd hp hh => fun q hq => ?_⟩
  rw [put_is_none] at hq
  have npq : p ≠ q := hq.1.symm
  refine comp_keep (fun i acc => acc = ((List.range i).map fun x => decide (hd x = 0)).map .bl) (by rw [List.length_map, sizeLine_eq]; omega) rfl (fun _ => trivial) (fun i acc q => by subst q; simp) (fun i x acc hx hQ Y Z hY hZ => ?_) fun acc hQ => ?_
  · subst hQ
    obtain ⟨hi, rfl⟩ := str_get hx
    have hv := hd_val pn (h := hd) hi
    have sp : (put (put st p (.dic (hdD ps hd))) q (.lst (((List.range i).map fun x => decide (hd x = 0)).map .bl))) p = some (.dic (hdD ps hd)) := by rw [put_ne npq]; exact put_same
    have h0 : ∀ {st' : Stor} {R' : KD}, dIx (stD ps) (.int 0) st' R' = R' (.str (nm ps 0)) st' := by
      intro st' R'
      exact z_ixT (n := 0) (nm_getD n1)
    simp [z_dget sp (y := .str _) rfl hv, h0, -List.map_map]
    refine hY _ _ (Sub.refl _) ?_
    have e : decide (nm ps (hd i) = nm ps 0) = decide (hd i = 0) := by
      have := (hh i hi).1
      by_cases q : hd i = 0
      · rw [q]; simp
      · have q2 : nm ps (hd i) ≠ nm ps 0 := fun z => q (nm_inj pn this n1 z)
        simp [q, q2]
    rw [e, List.range_succ]
    simp
  · subst hQ
    rw [List.length_map]
    refine Eq.mpr (z_all getL_self) ?_
    have e : ((List.range ps.length).map fun x => decide (hd x = 0)).all id = hung ps.length (liveL ls is) := by
      rw [← hung_heads hh n1, List.all_map]; rfl
    rw [e]
    exact ⟨st, (Sub.put hp).putN hq.2, h⟩
end K11
-- text K11P7
set_option Elab.async false
set_option linter.all false
set_option maxRecDepth 100000
set_option maxHeartbeats 2000000
set_option exponentiation.threshold 10000
/-! K11P7 -/
namespace K11
open PySem PySem.Spec PyProof.Rows L2 DL DR DG
theorem x_addIn {a : List Int} {x : Int} {st : Stor} {R : KD} : dAdd (inD a) (.tup [.int x]) st R = (a.length + 1 ≤ sizeLine ∧ R (inD (a ++ [x])) st) := by
  unfold inD
  rw [y_addT, List.length_map, List.map_append]
  rfl
theorem x_tupIn {a : List Int} : D.tup (a.map .int) = inD a := rfl
theorem ssD_ix {ss : List (List Int)} {k : Nat} {out : List Int} {st : Stor} {R : KD} (h : ss[k]? = some out) : dIx (ssD ss) (.int (k : Nat)) st R = R (inD out) st := by
  unfold ssD
  exact z_ixT (by rw [List.getElem?_map, h]; rfl)
theorem hs__law_read : ∀ ds s R, sp__law_read ds s R → rd__law_read (endsD R) (startD N__law_read.length ds) s := by
  refine sp1.to fun x st R h => ?_
  obtain ⟨ps, ls, ss, rfl, gl, h⟩ := h
  have ll := gl.ll
  rw [st__law_read]; unfold rd__law_read
  simp
  refine fun p hp => comp_keep (fun i acc => acc = ((edges ls).take i).map pairD) (by rw [List.length_map, sizeLine_eq]; omega) rfl (fun _ => trivial) (fun i acc q => by subst q; rw [List.length_map]; exact List.length_take_le _ _) (fun i x acc hx hQ Y Z hY hZ => ?_) fun acc hQ => ?_
  · subst hQ
    obtain ⟨l, hi, rfl⟩ : ∃ l, ls[i]? = some l ∧ lkD ps l = x := by
      rw [List.getElem?_map] at hx
      cases e : ls[i]? with
      | none => rw [e] at hx; cases hx
      | some s => rw [e] at hx; exact ⟨s, rfl, by simpa using hx⟩
    have lb := gl.lb l (List.mem_of_getElem? hi)
    have hE : (edges ls).take (i + 1) = (edges ls).take i ++ [(l.a, l.b)] := take_snoc (by unfold edges; rw [List.getElem?_map, hi]; rfl)
    generalize hS : put st p (.lst (((edges ls).take i).map pairD)) = S at hY ⊢
    simp
    refine z_stIndex gl.pl.n (nm_get lb.1) (fun _ => by simp) (fun _ => by simp) ?_
    refine z_stIndex gl.pl.n (nm_get lb.2) (fun _ => by simp) (fun _ => by simp) ?_
    refine ⟨by rw [sizeLine_eq]; omega, hY _ _ (Sub.refl _) ?_⟩
    rw [hE]; simp [pairD]
  · subst hQ
    rw [List.length_map, show ls.length = (edges ls).length by simp [edges], List.take_length]
    exact ⟨_, Sub.refl _, h p hp⟩
theorem GL.ed {ps : List Str} {ls : List Lk} (gl : GL ps ls) : PairsOk ps.length (edges ls) := fun e he => by
  obtain ⟨l, hl, rfl⟩ := List.mem_map.mp he
  exact gl.lb l hl
theorem edges_len {ls : List Lk} : (edges ls).length = ls.length := by simp [edges]
theorem OutOk.put {st : Stor} {z : D} {is : List Int} {p : Addr} {c : Cell} (h : OutOk st z is) (hp : st p = none) : OutOk (put st p c) z is := h.sub (Sub.put hp)
theorem lots_in (os : List (List Nat)) : os.map lotD = (os.map nI).map inD := by rw [List.map_map]; rfl
theorem nI_app (o : List Nat) (x : Nat) : nI (o ++ [x]) = nI o ++ [(x : Int)] := by simp [nI]
theorem x_addLot {o : List Nat} {x : Nat} {st : Stor} {R : KD} : dAdd (lotD o) (.tup [.int (x : Nat)]) st R = (o.length + 1 ≤ sizeLine ∧ R (lotD (o ++ [x])) st) := by
  unfold lotD
  rw [x_addIn, nI_app]
  simp [nI]
theorem live_nil (E : Edges) : ∀ i, live E [] i = E.take i
  | 0 => by simp [live]
  | i + 1 => by
    unfold live
    rw [live_nil E i, List.take_add_one]
    cases E[i]? <;> simp
theorem liveL_nil (ls : List Lk) : liveL ls [] = edges ls := by
  unfold liveL
  rw [live_nil, show ls.length = (edges ls).length by simp [edges], List.take_length]
theorem lsD_ix {ps : List Str} {ls : List Lk} {k : Nat} {l : Lk} {st : Stor} {R : KD} (h : ls[k]? = some l) : dIx (lsD ps ls) (.int (k : Nat)) st R = R (lkD ps l) st := by
  unfold lsD
  exact z_ixT (by rw [List.getElem?_map, h]; rfl)
theorem x_lotS {T : List Nat} {st : Stor} {RI : List D → (Stor → Prop) → Stor → Prop} : seqD (lotD T) st RI = RI (natsD T) (fun _ => True) st := by
  unfold lotD
  rw [x_inS]
  unfold nI natsD
  rw [List.map_map]; rfl
theorem z_inLot {T : List Nat} {i : Nat} {k : Bool} {st : Stor} {R : KD} : dInB k (.int (i : Nat)) (lotD T) st R = R (.bl (k ^^ decide (i ∈ T))) st := by
  unfold lotD
  rw [x_inIn]
  have : ((i : Int) ∈ nI T) = (i ∈ T) := by
    unfold nI
    rw [List.mem_map]
    refine propext ⟨fun ⟨a, h, e⟩ => ?_, fun h => ⟨i, h, rfl⟩⟩
    have : a = i := by omega
    exact this ▸ h
  simp [this]
/-- the links of a list of numbers -/
def lsT (ls : List Lk) (T : List Nat) : List Lk := T.filterMap fun j => ls[j]?
theorem edges_lsT (ls : List Lk) (T : List Nat) : edges (lsT ls T) = eT (edges ls) T := by
  unfold edges lsT eT
  rw [List.map_filterMap]
  congr 1
  funext j
  rw [List.getElem?_map]
theorem lsT_snoc {ls : List Lk} {T : List Nat} {j : Nat} {l : Lk} (h : ls[j]? = some l) : lsT ls (T ++ [j]) = lsT ls T ++ [l] := by
  unfold lsT
  rw [List.filterMap_append]
  simp [h]
theorem lsT_len (ls : List Lk) (T : List Nat) : (lsT ls T).length ≤ T.length := List.length_filterMap_le _ _
theorem GL.pick {ps : List Str} {ls : List Lk} (gl : GL ps ls) {T : List Nat} (ht : T.length ≤ 40) : GL ps (lsT ls T) :=
  ⟨gl.pl, gl.n1, gl.so, by have := lsT_len ls T; omega, fun l hl => by
    obtain ⟨j, _, h⟩ := List.mem_filterMap.mp hl
    exact gl.lb l (List.mem_of_getElem? h)⟩
theorem heads_ring {n : Nat} {E : Edges} {T : List Nat} {h : Nat → Nat} (H : Heads n (eT E T) h) {a b : Nat} (ha : a < n) (hb : b < n) : decide (h a = h b) = ringB E T (a, b) := by
  rw [Bool.eq_iff_iff, decide_eq_true_iff, ringB_iff]
  exact ⟨H.conn ha hb, H.eq ha hb⟩
theorem nm_eq {ps : List Str} (hn : ps.Nodup) {i j : Nat} (hi : i < ps.length) (hj : j < ps.length) : (nm ps i = nm ps j) = (i = j) := propext ⟨nm_inj hn hi hj, fun e => by rw [e]⟩
theorem hs_closes_ring : ∀ ds s R, sp_closes_ring ds s R → rd_closes_ring (endsD R) (startD N_closes_ring.length ds) s := by
  refine sp3.to fun x y z st R h => ?_
  obtain ⟨ps, ls, ss, T, i, l, rfl, rfl, rfl, gl, t40, tl, hi, h⟩ := h
  have pn := gl.pl.n
  have lb := gl.lb l (List.mem_of_getElem? hi)
  rw [st_closes_ring]; unfold rd_closes_ring
  simp
  rw [x_lotS]
  intro q hq
  refine comp_keep (fun k acc => acc = (lsT ls (T.take k)).map (lkD ps)) (by unfold natsD; rw [List.length_map, sizeLine_eq]; omega) rfl (fun _ => trivial) (fun k acc q => by subst q; rw [List.length_map]; exact Nat.le_trans (lsT_len _ _) (List.length_take_le _ _)) (fun k x acc hx hQ Y Z hY hZ => ?_) fun acc hQ => ?_
  · subst hQ
    obtain ⟨j, hj, rfl⟩ : ∃ n : Nat, T[k]? = some n ∧ .int (n : Int) = x := by simpa [natsD] using hx
    have jl := tl j (List.mem_of_getElem? hj)
    have hlj := List.getElem?_eq_getElem jl
    simp [lsD_ix hlj]
    refine hY _ _ (Sub.refl _) ?_
    rw [take_snoc hj, lsT_snoc hlj]; simp
  · subst hQ
    have nl : (natsD T).length = T.length := by simp [natsD]
    rw [nl, List.take_length]
    refine ⟨ps, lsT ls T, [], rfl, .inr ⟨q, rfl, getL_self⟩, .inl rfl, gl.pick t40, fun p hd hp hh => ?_⟩
    rw [liveL_nil, edges_lsT] at hh
    have ha := hd_val pn (h := hd) lb.1
    have hb := hd_val pn (h := hd) lb.2
    rw [put_is_none] at hp
    have sp : put (put st q (.lst ((lsT ls T).map (lkD ps)))) p (.dic (hdD ps hd)) p = some (.dic (hdD ps hd)) := put_same
    have sub : DL.Sub st (put (put st q (.lst ((lsT ls T).map (lkD ps)))) p (.dic (hdD ps hd))) := (Sub.put hq).putN hp.2
    generalize put (put st q (.lst ((lsT ls T).map (lkD ps)))) p (.dic (hdD ps hd)) = S at sp sub
    simp [lsD_ix hi, z_dget sp (y := .str _) rfl ha, z_dget sp (y := .str _) rfl hb, nm_eq pn (hh _ lb.1).1 (hh _ lb.2).1, heads_ring hh lb.1 lb.2]
    exact ⟨st, sub, h⟩
theorem hs__law_worth (t : Addr) : ∀ ds s R, sp__law_worth t ds s R → rd__law_worth t (endsD R) (startD N__law_worth.length ds) s := by
  refine sp1.to fun x st R h => ?_
  obtain ⟨rfl, h⟩ := h
  have fin : ∀ i : Int, 1 ≤ i → i ≤ 1000000000000 → ∃ s2, DL.Sub s2 st ∧ R (.int i) s2 := fun i h1 h2 => ⟨st, Sub.refl _, h i h1 h2⟩
  rw [st__law_worth]; unfold rd__law_worth
  simp
  intro d d0 d1
  split
  · intro c c0 c1
    exact fin _ (by omega) (by omega)
  · split
    · intro c c0 c1
      exact fin _ (by omega) (by omega)
    · intro c c0 c1
      exact fin _ (by omega) (by omega)
end K11
-- text K11P8
set_option Elab.async false
set_option linter.all false
set_option maxRecDepth 100000
set_option maxHeartbeats 2000000
set_option exponentiation.threshold 10000
/-! K11P8 -/
namespace K11
open PySem PySem.Spec PyProof.Rows L2 DL DR DG
theorem mem_live {E : Edges} {is : List Int} {e : Nat × Nat} : ∀ {i}, e ∈ live E is i ↔ ∃ j, j < i ∧ E[j]? = some e ∧ (j : Int) ∉ is
  | 0 => by simp [live]
  | i + 1 => by
    unfold live
    rw [List.mem_append, mem_live (i := i)]
    constructor
    · rintro (⟨j, h1, h2⟩ | h)
      · exact ⟨j, by omega, h2⟩
      · cases q : E[i]? with
        | none => rw [q] at h; simp at h
        | some f =>
          rw [q] at h
          by_cases hi : (i : Int) ∈ is
          · simp [hi] at h
          · simp [hi] at h
            subst h
            exact ⟨i, by omega, q, hi⟩
    · rintro ⟨j, h1, h2, h3⟩
      by_cases e : j = i
      · subst e
        right
        rw [h2]; simp [h3]
      · exact .inl ⟨j, by omega, h2, h3⟩
theorem mem_nI {o : List Nat} {i : Nat} : (i : Int) ∈ nI o ↔ i ∈ o := by
  unfold nI
  rw [List.mem_map]
  constructor
  · rintro ⟨a, h, e⟩
    have : a = i := by omega
    exact this ▸ h
  · exact fun h => ⟨i, h, rfl⟩
theorem inD_ix {w : List Int} {j : Nat} (h : j < w.length) {st : Stor} {R : KD} : dIx (inD w) (.int (j : Nat)) st R = R (.int (wf w j)) st := by
  unfold inD wf
  rw [z_ixT (a := .int w[j]) (by rw [List.getElem?_map, List.getElem?_eq_getElem h]; rfl), List.getElem?_eq_getElem h]
  rfl
theorem wf_mem {w : List Int} {j : Nat} (h : j < w.length) : wf w j ∈ w := by
  unfold wf
  rw [List.getElem?_eq_getElem h]
  exact List.getElem_mem h
theorem prodW_snoc (w : List Int) (T : List Nat) (j : Nat) : prodW w (T ++ [j]) = if wf w j = -1 then prodW w T else prodW w T * wf w j := by
  unfold prodW
  rw [List.foldl_append]
  rfl
theorem hs_tree_product : ∀ ds s R, sp_tree_product ds s R → rd_tree_product (endsD R) (startD N_tree_product.length ds) s := by
  refine sp2.to fun x y st R h => ?_
  obtain ⟨w, T, rfl, rfl, tl, wb, h⟩ := h
  rw [st_tree_product]; unfold rd_tree_product
  simp
  rw [x_lotS]
  refine loop_keep (fun i ρ => ∃ o3 : Option D, ρ = [some (inD w), some (lotD T), some (.int (prodW w (T.take i))), o3]) ⟨none, rfl⟩ trivial (fun i x ρ hx hQ N hN => ?_) fun ρ hQ => ?_
  · obtain ⟨o3, rfl⟩ := hQ
    obtain ⟨j, hj, rfl⟩ : ∃ n : Nat, T[i]? = some n ∧ .int (n : Int) = x := by simpa [natsD] using hx
    have jl := tl j (List.mem_of_getElem? hj)
    have b := wb _ (wf_mem jl)
    have hN' := hN [some (inD w), some (lotD T), some (.int (prodW w (T.take (i + 1)))), some (.int (j : Nat))] st (Sub.refl _) ⟨_, rfl⟩
    rw [take_snoc hj, prodW_snoc] at hN'
    simp [inD_ix jl]
    split
    · rename_i q
      rw [if_pos q] at hN'
      exact hN'
    · rename_i q
      rw [if_neg q] at hN'
      exact ⟨mul_r (by omega) (by omega), hN'⟩
  · obtain ⟨o3, rfl⟩ := hQ
    have nl : (natsD T).length = T.length := by simp [natsD]
    rw [nl, List.take_length]
    simp
    exact ⟨_, Sub.refl _, h⟩
theorem hs__law_product : ∀ ds s R, sp__law_product ds s R → rd__law_product (endsD R) (startD N__law_product.length ds) s := by
  refine sp2.to fun x y st R h => ?_
  obtain ⟨w, T, rfl, rfl, tl, wb, h⟩ := h
  rw [st__law_product]; unfold rd__law_product
  simp
  rw [x_lotS]
  refine loop_keep (fun i ρ => ∃ o3 : Option D, ρ = [some (inD w), some (lotD T), some (.int (prodW w (T.take i))), o3]) ⟨none, rfl⟩ trivial (fun i x ρ hx hQ N hN => ?_) fun ρ hQ => ?_
  · obtain ⟨o3, rfl⟩ := hQ
    obtain ⟨j, hj, rfl⟩ : ∃ n : Nat, T[i]? = some n ∧ .int (n : Int) = x := by simpa [natsD] using hx
    obtain ⟨jl, j0⟩ := tl j (List.mem_of_getElem? hj)
    have b := wb _ (wf_mem jl)
    have hN' := hN [some (inD w), some (lotD T), some (.int (prodW w (T.take (i + 1)))), some (.int (j : Nat))] st (Sub.refl _) ⟨_, rfl⟩
    rw [take_snoc hj, prodW_snoc] at hN'
    simp [inD_ix jl]
    split
    · rename_i q
      rw [if_neg (by omega)] at hN'
      exact ⟨mul_r (by omega) (by omega), hN'⟩
    · rename_i q
      rw [if_pos (by omega)] at hN'
      exact hN'
  · obtain ⟨o3, rfl⟩ := hQ
    have nl : (natsD T).length = T.length := by simp [natsD]
    rw [nl, List.take_length]
    simp
    exact ⟨_, Sub.refl _, h⟩
def without (T : List Nat) (i : Nat) : List Nat := T.filter fun j => decide (j ≠ i)
theorem without_len (T : List Nat) (i : Nat) : (without T i).length ≤ T.length := List.length_filter_le _ _
def flowI (E : Edges) (T : List Nat) (a b : Nat) (i : Nat) (v : Int) : Prop := v = flowW E T a b i
theorem flowL_take (E : Edges) (T : List Nat) (a b : Nat) (k : Nat) (hk : k ≤ E.length) : (flowL E T a b).take k = (List.range k).map (flowW E T a b) := by
  unfold flowL
  rw [← List.map_take, List.take_range, Nat.min_eq_left hk]
theorem hs_tree_flow : ∀ ds s R, sp_tree_flow ds s R → rd_tree_flow (endsD R) (startD N_tree_flow.length ds) s := by
  refine sp4.to fun x y z u st R h => ?_
  obtain ⟨ps, ls, ss, T, a, b, rfl, rfl, rfl, rfl, gl, t40, tl, ha, hb, h⟩ := h
  have pn := gl.pl.n
  have ll := gl.ll
  rw [st_tree_flow]; unfold rd_tree_flow
  simp [sizeLine_eq]
  refine fun p hp => loop_list (fun i acc ρ => ∃ o8 o9 o10 o11 : Option D, ρ = [some (gD ps ls ss), some (lotD T), some (.str (nm ps a)), some (.str (nm ps b)), some (stD ps), some (lsD ps ls), some (ssD ss), some (.ref p), o8, o9, o10, o11, none] ∧ acc = ((List.range i).map (flowW (edges ls) T a b)).map .int) ⟨none, none, none, none, rfl, rfl⟩ (fun _ => trivial) (fun i x acc ρ hx hQ N hN => ?_) fun acc ρ hQ => ?_
  · obtain ⟨o8, o9, o10, o11, rfl, rfl⟩ := hQ
    obtain ⟨l, hi, rfl⟩ := lk_enum hx
    have il := (List.getElem?_eq_some_iff.mp hi).1
    have lb := gl.lb l (List.mem_of_getElem? hi)
    have eE : (edges ls)[i]? = some (l.a, l.b) := by unfold edges; rw [List.getElem?_map, hi]; rfl
    have gl1 : ((List.range i).map (flowW (edges ls) T a b)).length = i := by simp
    have la : (((List.range i).map (flowW (edges ls) T a b)).map D.int).length < sizeLine := by rw [List.length_map, gl1, sizeLine_eq]; omega
    have hN' : ∀ (v : Int) (o10 o11 : Option D), v = flowW (edges ls) T a b i → ∀ S, DL.Sub (put st p (.lst (((List.range i).map (flowW (edges ls) T a b)).map .int))) S → ∀ E' : EndsD, rk_tree_flow_0 (E'.turn N) [some (gD ps ls ss), some (lotD T), some (.str (nm ps a)), some (.str (nm ps b)), some (stD ps), some (lsD ps ls), some (ssD ss), some (.ref p), some (.int (i : Nat)), some (lkD ps l), some (.int v), o11, none] S := by
      intro v o10 o11 hv S sub E'
      have sp := sub p _ put_same
      rw [ru_tree_flow_0]
      simp [getL_some sp]
      have lz := la
      rw [List.map_map] at lz
      have sp' : S p = some (.lst (List.map (D.int ∘ flowW (edges ls) T a b) (List.range i))) := by rw [sp, List.map_map]
      refine Eq.mpr (z_append sp la) ?_
      refine hN (((List.range (i + 1)).map (flowW (edges ls) T a b)).map .int) _ _ ?_ ⟨_, _, _, _, rfl, rfl⟩
      have e : ((List.range (i + 1)).map (flowW (edges ls) T a b)).map D.int = ((List.range i).map (flowW (edges ls) T a b)).map D.int ++ [.int v] := by rw [List.range_succ, hv]; simp
      rw [e]
      have := Sub.puts (a := p) (c := .lst (((List.range i).map (flowW (edges ls) T a b)).map D.int ++ [.int v])) sub
      rw [put_put] at this
      exact this
    have g0 : getL (put st p (.lst (((List.range i).map (flowW (edges ls) T a b)).map .int))) p = some (((List.range i).map (flowW (edges ls) T a b)).map .int) := getL_self
    generalize hS : put st p (.lst (((List.range i).map (flowW (edges ls) T a b)).map .int)) = S at hN' ⊢
    simp [z_inLot]
    by_cases hm : i ∈ T
    · rw [if_pos hm]
      rw [x_lotS]
      intro q hq
      refine comp_keep (fun k acc => acc = (lsT ls (without (T.take k) i)).map (lkD ps)) (by unfold natsD; rw [List.length_map, sizeLine_eq]; omega) rfl (fun _ => trivial) (fun k acc q => by subst q; rw [List.length_map]; exact Nat.le_trans (lsT_len _ _) (Nat.le_trans (without_len _ _) (List.length_take_le _ _))) (fun k x acc hx hQ Y Z hY hZ => ?_) fun acc hQ => ?_
      · subst hQ
        obtain ⟨j, hj, rfl⟩ : ∃ n : Nat, T[k]? = some n ∧ .int (n : Int) = x := by simpa [natsD] using hx
        have jl := tl j (List.mem_of_getElem? hj)
        have hlj := List.getElem?_eq_getElem jl
        have wt : without (T.take (k + 1)) i = without (T.take k) i ++ if j = i then [] else [j] := by
          unfold without
          rw [take_snoc hj, List.filter_append]
          by_cases e : j = i <;> simp [e]
        rw [wt] at hY hZ
        generalize put S q (.lst ((lsT ls (without (T.take k) i)).map (lkD ps))) = S2 at hY hZ ⊢
        simp [lsD_ix hlj]
        by_cases e : j = i
        · subst e
          rw [if_pos rfl]
          exact hZ _ (Sub.refl _) (by simp)
        · have e' : ¬ (j : Int) = (i : Int) := by omega
          rw [if_neg e']
          exact hY _ _ (Sub.refl _) (by rw [if_neg e, lsT_snoc hlj]; simp)
      · subst hQ
        have nl : (natsD T).length = T.length := by simp [natsD]
        rw [nl, List.take_length]
        have w40 : (without T i).length ≤ 40 := by have := without_len T i; omega
        refine ⟨ps, lsT ls (without T i), [], rfl, .inr ⟨q, rfl, getL_self⟩, .inl rfl, gl.pick w40, fun r hd hr hh => ?_⟩
        rw [liveL_nil, edges_lsT] at hh
        have va := hd_val pn (h := hd) ha
        have vb := hd_val pn (h := hd) hb
        have vl := hd_val pn (h := hd) lb.1
        rw [put_is_none] at hr
        have sr : put (put S q (.lst ((lsT ls (without T i)).map (lkD ps)))) r (.dic (hdD ps hd)) r = some (.dic (hdD ps hd)) := put_same
        have sub : DL.Sub S (put (put S q (.lst ((lsT ls (without T i)).map (lkD ps)))) r (.dic (hdD ps hd))) := (Sub.put hq).putN hr.2
        generalize put (put S q (.lst ((lsT ls (without T i)).map (lkD ps)))) r (.dic (hdD ps hd)) = S2 at sr sub
        have fw : flowW (edges ls) T a b i = if ringB (edges ls) (without T i) (a, b) = true then 0 else if ringB (edges ls) (without T i) (l.a, a) = true then 1 else -1 := by
          unfold flowW
          rw [if_pos hm, eE]
          rfl
        have r1 := heads_ring hh ha hb
        have r2 := heads_ring hh lb.1 ha
        simp [z_dget sr (y := .str _) rfl va, z_dget sr (y := .str _) rfl vb, z_dget sr (y := .str _) rfl vl, nm_eq pn (hh _ ha).1 (hh _ hb).1, nm_eq pn (hh _ lb.1).1 (hh _ ha).1]
        by_cases c1 : hd a = hd b
        · rw [if_pos c1]
          rw [decide_eq_true c1] at r1
          exact hN' 0 none _ (by rw [fw, ← r1]; rfl) S2 sub _
        · rw [if_neg c1]
          rw [decide_eq_false c1] at r1
          by_cases c2 : hd l.a = hd a
          · rw [if_pos c2]
            rw [decide_eq_true c2] at r2
            exact hN' 1 none _ (by rw [fw, ← r1, ← r2]; rfl) S2 sub _
          · rw [if_neg c2]
            rw [decide_eq_false c2] at r2
            exact hN' (-1) none _ (by rw [fw, ← r1, ← r2]; rfl) S2 sub _
    · rw [if_neg hm]
      exact hN' 0 none _ (by unfold flowW; rw [if_neg hm]) S (Sub.refl _) _
  · obtain ⟨o8, o9, o10, o11, rfl, rfl⟩ := hQ
    rw [enumD_len, List.length_map]
    have e2 : ls.length = (edges ls).length := by simp [edges]
    rw [e2]
    simp
    refine Eq.mpr (z_tuple (by rw [← List.map_map]; exact getL_self)) ?_
    exact ⟨st, Sub.put hp, _, Sub.refl _, h⟩
end K11
-- text K11P9
set_option Elab.async false
set_option linter.all false
set_option maxRecDepth 100000
set_option maxHeartbeats 2000000
set_option exponentiation.threshold 10000
/-! K11P9 -/
namespace K11
open PySem PySem.Spec PyProof.Rows L2 DL DR DG
def outI (T : List Nat) (i : Nat) (k : Nat) : List Int := ((List.range k).filter fun j => decide (j ∉ T ∨ j = i)).map fun (j : Nat) => (j : Int)
theorem outI_succ {T : List Nat} {i k : Nat} : outI T i (k + 1) = outI T i k ++ if k ∉ T ∨ k = i then [(k : Int)] else [] := by
  unfold outI
  rw [List.range_succ, List.filter_append, List.map_append]
  by_cases h : k ∉ T ∨ k = i <;> simp [h]
theorem outI_len (T : List Nat) (i k : Nat) : (outI T i k).length ≤ k := by
  unfold outI
  rw [List.length_map]
  exact Nat.le_trans (List.length_filter_le _ _) (by simp)
theorem mem_outI {T : List Nat} {i k j : Nat} : (j : Int) ∈ outI T i k ↔ j < k ∧ (j ∉ T ∨ j = i) := by
  unfold outI
  rw [List.mem_map]
  constructor
  · rintro ⟨a, h, e⟩
    have : a = j := by omega
    subst this
    obtain ⟨h1, h2⟩ := List.mem_filter.mp h
    exact ⟨List.mem_range.mp h1, of_decide_eq_true h2⟩
  · rintro ⟨h1, h2⟩
    exact ⟨j, List.mem_filter.mpr ⟨List.mem_range.mpr h1, decide_eq_true h2⟩, rfl⟩
theorem live_out {E : Edges} {T : List Nat} {i : Nat} (e : Nat × Nat) : e ∈ live E (outI T i E.length) E.length ↔ e ∈ eT E (without T i) := by
  rw [mem_live, mem_eT]
  constructor
  · rintro ⟨j, h1, h2, h3⟩
    refine ⟨j, ?_, h2⟩
    unfold without
    rw [List.mem_filter]
    rw [mem_outI] at h3
    by_cases q : j ∈ T
    · refine ⟨q, decide_eq_true fun z => h3 ⟨h1, .inr z⟩⟩
    · exact absurd ⟨h1, .inl q⟩ h3
  · rintro ⟨j, h1, h2⟩
    unfold without at h1
    obtain ⟨q1, q2⟩ := List.mem_filter.mp h1
    have q2 := of_decide_eq_true q2
    refine ⟨j, (List.getElem?_eq_some_iff.mp h2).1, h2, fun z => ?_⟩
    rcases (mem_outI.mp z).2 with z | z
    · exact z q1
    · exact q2 z
theorem lab_ring {n : Nat} {E : Edges} {T : List Nat} {i : Nat} {gs : List Int} (hl : Labels n gs (live E (outI T i E.length) E.length)) {x y : Nat} {a b : Int} (hx : x < n) (hy : y < n) (ha : gs[x]? = some a) (hb : gs[y]? = some b) : decide (a = b) = ringB E (without T i) (x, y) := by
  rw [Bool.eq_iff_iff, decide_eq_true_iff, ringB_iff, ← conn_mem (fun e => live_out e) x y, ← hl.2 x y hx hy, ha, hb]
  constructor
  · intro e; rw [e]
  · intro e; exact Option.some.inj e
theorem hs__law_flow : ∀ ds s R, sp__law_flow ds s R → rd__law_flow (endsD R) (startD N__law_flow.length ds) s := by
  refine sp4.to fun x y z u st R h => ?_
  obtain ⟨ps, ls, ss, T, a, b, rfl, rfl, rfl, rfl, gl, t40, tl, ha, hb, h⟩ := h
  have pn := gl.pl.n
  have n9 := gl.pl.l
  have ll := gl.ll
  rw [st__law_flow]; unfold rd__law_flow
  simp [sizeLine_eq]
  refine ⟨ps, ls, ss, rfl, gl, fun e he q hq => ?_⟩
  rw [put_is_none] at hq
  have le : ((edges ls).map pairD).length = ls.length := by rw [List.length_map, edges_len]
  have neq : e ≠ q := hq.1.symm
  refine Eq.mpr (z_len (by rw [getL_ne neq]; exact getL_self)) ?_
  rw [le]
  have g0 : (put (put st e (.lst ((edges ls).map pairD))) q (.lst [])) e = some (.lst ((edges ls).map pairD)) := by rw [put_ne neq]; exact put_same
  refine ⟨by omega, loop_any (fun i ρ s' => ∃ o6 o7 o9 : Option D, ρ = [some (gD ps ls ss), some (lotD T), some (.int (a : Nat)), some (.int (b : Nat)), some (.ref e), some (.ref q), o6, o7, none, o9] ∧ DL.Sub st s' ∧ s' e = some (.lst ((edges ls).map pairD)) ∧ s' q = some (.lst (((List.range i).map (flowW (edges ls) T a b)).map .int)))
    ⟨none, none, none, rfl, (Sub.put he).putN hq.2, g0, by rw [put_same]; rfl⟩ (fun _ _ _ _ => trivial) (fun i x ρ s' hx hP N hN => ?_) fun ρ s' hP => ?_⟩
  · obtain ⟨o6, o7, o9, rfl, sub, se, sq⟩ := hP
    obtain ⟨hi, rfl⟩ := rangeD_get hx
    have hi : i < ls.length := by simpa using hi
    have hl := List.getElem?_eq_getElem hi
    have lb := gl.lb _ (List.mem_of_getElem? hl)
    generalize ls[i] = l at hl lb
    have eE : (edges ls)[i]? = some (l.a, l.b) := by unfold edges; rw [List.getElem?_map, hl]; rfl
    have ge := getL_some se
    have la : (((List.range i).map (flowW (edges ls) T a b)).map D.int).length < sizeLine := by rw [List.length_map, List.length_map, List.length_range, sizeLine_eq]; omega
    simp
    refine Eq.mpr (z_len ge) ?_
    rw [le]
    refine ⟨by omega, fun r hr => ?_⟩
    have ner : e ≠ r := fun z => by subst z; rw [hr] at se; cases se
    have nqr : q ≠ r := fun z => by subst z; rw [hr] at sq; cases sq
    refine comp_keep (fun k acc => acc = (outI T i k).map .int) (by rw [rangeD_len, sizeLine_eq]; omega) rfl (fun _ => trivial) (fun k acc q => by subst q; rw [List.length_map]; exact outI_len T i k) (fun k x acc hx hQ Y Z hY hZ => ?_) fun acc hQ => ?_
    · subst hQ
      obtain ⟨hk, rfl⟩ := rangeD_get hx
      rw [outI_succ] at hY hZ
      generalize put s' r (.lst ((outI T i k).map .int)) = S at hY hZ ⊢
      simp [z_inLot]
      by_cases h1 : k ∈ T
      · by_cases h2 : k = i
        · subst h2
          simp [h1]
          exact hY _ _ (Sub.refl _) (by simp)
        · have h2' : ¬ (k : Int) = (i : Int) := by omega
          simp [h1, h2, h2']
          exact hZ _ (Sub.refl _) (by simp [h1, h2])
      · simp [h1]
        exact hY _ _ (Sub.refl _) (by simp [h1])
    · subst hQ
      rw [rangeD_len]
      have en : ((ls.length : Int)).toNat = ls.length := by omega
      rw [en]
      refine ⟨ps.length, e, edges ls, outI T i ls.length, rfl, rfl, .inr ⟨r, rfl, getL_self⟩, gl.n1, n9, by rw [getL_ne ner]; exact ge, gl.ed, by rw [edges_len]; exact ll, fun g gs hg hlab => ?_⟩
      rw [edges_len] at hlab
      have hlab : Labels ps.length gs (live (edges ls) (outI T i (edges ls).length) (edges ls).length) := by rw [edges_len]; exact hlab
      rw [put_is_none] at hg
      have neg : e ≠ g := fun z => by subst z; rw [hg.2] at se; cases se
      have nqg : q ≠ g := fun z => by subst z; rw [hg.2] at sq; cases sq
      have hgl := hlab.1
      have sub2 := (sub.putN (c := .lst ((outI T i ls.length).map .int)) (sub_none sub hr)).putN (c := .lst (gs.map .int)) (sub_none sub hg.2)
      have se2 : put (put s' r (.lst ((outI T i ls.length).map .int))) g (.lst (gs.map .int)) e = some (.lst ((edges ls).map pairD)) := by rw [put_ne neg, put_ne ner]; exact se
      have sq2 : put (put s' r (.lst ((outI T i ls.length).map .int))) g (.lst (gs.map .int)) q = some (.lst (((List.range i).map (flowW (edges ls) T a b)).map .int)) := by rw [put_ne nqg, put_ne nqr]; exact sq
      have gg : getL (put (put s' r (.lst ((outI T i ls.length).map .int))) g (.lst (gs.map .int))) g = some (gs.map .int) := getL_self
      generalize put (put s' r (.lst ((outI T i ls.length).map .int))) g (.lst (gs.map .int)) = S at sub2 se2 sq2 gg
      have gat : ∀ j, j < ps.length → ∃ a, gs[j]? = some a ∧ (gs.map D.int)[j]? = some (.int a) := fun j hj => by
        have e := List.getElem?_eq_getElem (show j < gs.length by omega)
        exact ⟨_, e, by rw [List.getElem?_map, e]; rfl⟩
      obtain ⟨va, ha1, ha2⟩ := gat a ha
      obtain ⟨vb, hb1, hb2⟩ := gat b hb
      obtain ⟨vl, hl1, hl2⟩ := gat l.a lb.1
      have r1 := lab_ring hlab ha hb ha1 hb1
      have r2 := lab_ring hlab lb.1 ha hl1 ha1
      have fin : ∀ v : Int, v = flowW (edges ls) T a b i → dAppend q [.int v] S fun x s1 => N [some (gD ps ls ss), some (lotD T), some (.int (a : Nat)), some (.int (b : Nat)), some (.ref e), some (.ref q), some (.int (i : Nat)), some (.ref r), none, some (.ref g)] s1 := fun v hv => by
        rw [z_append sq2 la]
        refine hN _ _ _ (Sub.refl _) ⟨_, _, _, rfl, sub2.putN hq.2, by rw [put_ne neq]; exact se2, ?_⟩
        rw [put_same, List.range_succ, hv]; simp
      have gi : ((edges ls).map pairD)[i]? = some (pairD (l.a, l.b)) := by rw [List.getElem?_map, eE]; rfl
      have sqs := getL_some sq2
      simp [z_inLot, z_ixL gg ha2, z_ixL gg hb2]
      have gp : ∀ {R' : KD}, dIx (.ref e) (.int (i : Nat)) S R' = R' (pairD (l.a, l.b)) S := fun {_} => z_ixL (getL_some se2) gi
      have pd0 : ∀ {R' : KD}, dIx (pairD (l.a, l.b)) (.int 0) S R' = R' (.int (l.a : Nat)) S := fun {_} => z_ix0
      by_cases hm : i ∈ T
      · have fw : flowW (edges ls) T a b i = if ringB (edges ls) (without T i) (a, b) = true then 0 else if ringB (edges ls) (without T i) (l.a, a) = true then 1 else -1 := by
          unfold flowW
          rw [if_pos hm, eE]
          rfl
        rw [if_pos hm]
        by_cases c1 : va = vb
        · rw [if_pos c1]
          rw [decide_eq_true c1] at r1
          exact ⟨⟨_, sqs⟩, fin 0 (by rw [fw, ← r1]; rfl)⟩
        · rw [if_neg c1]
          rw [decide_eq_false c1] at r1
          rw [gp, pd0, z_ixL gg hl2, z_ixL gg ha2]
          simp
          by_cases c2 : vl = va
          · rw [if_pos c2]
            rw [decide_eq_true c2] at r2
            exact ⟨⟨_, sqs⟩, fin 1 (by rw [fw, ← r1, ← r2]; rfl)⟩
          · rw [if_neg c2]
            rw [decide_eq_false c2] at r2
            exact ⟨⟨_, sqs⟩, fin (-1) (by rw [fw, ← r1, ← r2]; rfl)⟩
      · rw [if_neg hm]
        exact ⟨⟨_, sqs⟩, fin 0 (by unfold flowW; rw [if_neg hm])⟩
  · obtain ⟨o6, o7, o9, rfl, sub, se, sq⟩ := hP
    rw [rangeD_len] at sq
    have en : ((ls.length : Int)).toNat = ls.length := by omega
    rw [en, ← edges_len (ls := ls)] at sq
    simp
    refine Eq.mpr (z_tuple (getL_some sq)) ?_
    exact ⟨st, sub, _, Sub.refl _, h⟩
end K11
-- text K11P10
set_option Elab.async false
set_option linter.all false
set_option maxRecDepth 100000
set_option maxHeartbeats 2000000
set_option exponentiation.threshold 10000
/-! K11P10 -/
namespace K11
open PySem PySem.Spec PyProof.Rows L2 DL DR DG
theorem leD_int (a b : Int) : leD (.int a) (.int b) = decide (a ≤ b) := congrFun (congrFun (PySem.W.dataLe_int (β := Int) id) a) b
theorem sort_nats {L T : List Nat} (h : L.Perm T) (hT : T.Pairwise (· < ·)) : sortD (natsD L) = natsD T := by
  refine List.Perm.eq_of_pairwise (le := fun a b => leD a b = true) (fun a b ha hb l r => ?_) (sortD_sorted _) ?_ ((sortD_perm _).trans (h.map _))
  · obtain ⟨x, _, rfl⟩ := List.mem_map.mp ((sortD_perm _).mem_iff.mp ha)
    obtain ⟨y, _, rfl⟩ := List.mem_map.mp hb
    rw [leD_int, decide_eq_true_iff] at l r
    congr 1
    omega
  · refine List.Pairwise.map _ (fun a b h => ?_) hT
    rw [leD_int, decide_eq_true_iff]
    omega
theorem pick_succ {p : Nat → Bool} {i : Nat} : (List.range (i + 1)).filter p = (List.range i).filter p ++ if p i = true then [i] else [] := by
  rw [List.range_succ, List.filter_append]
  by_cases h : p i = true <;> simp [h]
theorem whole_live {n : Nat} {E : Edges} {S : List Nat} : hung n (live E (nI S) E.length) = wholeB n (dropE E S) := by
  rw [Bool.eq_iff_iff, wholeB_iff, wholeB_iff]
  have e : ∀ f, f ∈ live E (nI S) E.length ↔ f ∈ dropE E S := fun f => by
    rw [mem_live, mem_dropE]
    constructor
    · rintro ⟨j, _, h2, h3⟩; exact ⟨j, fun z => h3 (mem_nI.mpr z), h2⟩
    · rintro ⟨j, h2, h3⟩; exact ⟨j, (List.getElem?_eq_some_iff.mp h3).1, h3, fun z => h2 (mem_nI.mp z)⟩
  exact ⟨fun w x hx => (conn_mem e 0 x).mp (w x hx), fun w x hx => (conn_mem e 0 x).mpr (w x hx)⟩
def partD (E : Edges) (w : List Int) (i : Nat) (U : List Nat) : D := .tup [lotD (rigT E (wf w) ++ U), lotD (absT E (wf w) ++ restU (wf w) U i)]
noncomputable def progD (n : Nat) (E : Edges) (w : List Int) (i : Nat) : List D := (progU n E (wf w) i).map (partD E w i)
theorem progD_not {n : Nat} {E : Edges} {w : List Int} {i : Nat} (h : wf w i ≤ 0) : progD n E w (i + 1) = progD n E w i := by
  unfold progD
  have e : progU n E (wf w) (i + 1) = progU n E (wf w) i := by rw [progU, if_pos h]
  rw [e]
  refine List.map_congr_left fun U _ => ?_
  unfold partD
  rw [rest_not h]
noncomputable def furth (n : Nat) (E : Edges) (w : List Int) (i j : Nat) : List (List Nat) := ((progU n E (wf w) i).take j).flatMap (progStep n E (wf w) i)
theorem furth_succ {n : Nat} {E : Edges} {w : List Int} {i j : Nat} {U : List Nat} (h : (progU n E (wf w) i)[j]? = some U) : furth n E w i (j + 1) = furth n E w i j ++ progStep n E (wf w) i U := by
  unfold furth
  rw [take_snoc h, List.flatMap_append]
  simp
theorem step_len (n : Nat) (E : Edges) (w : List Int) (i : Nat) (U : List Nat) : (progStep n E (wf w) i U).length ≤ 2 := by
  unfold progStep
  split
  · simp
  · rw [List.length_append]
    split <;> simp
theorem furth_len (n : Nat) (E : Edges) (w : List Int) (i : Nat) : ∀ j, (furth n E w i j).length ≤ 2 * j
  | 0 => by simp [furth]
  | j + 1 => by
    have ih := furth_len n E w i j
    cases h : (progU n E (wf w) i)[j]? with
    | none =>
      have : furth n E w i (j + 1) = furth n E w i j := by
        unfold furth
        rw [List.take_add_one, h]; simp
      rw [this]; omega
    | some o =>
      rw [furth_succ h, List.length_append]
      have := step_len n E w i o
      omega
theorem w_enum {w : List Int} {i : Nat} {x : List D} (hx : (enumD 0 (w.map D.int))[i]? = some x) : i < w.length ∧ x = [.int (i : Nat), .int (wf w i)] := by
  rw [enumD_get, List.getElem?_map] at hx
  unfold wf
  cases e : w[i]? with
  | none => rw [e] at hx; cases hx
  | some s => rw [e] at hx; exact ⟨(List.getElem?_eq_some_iff.mp e).1, by simpa using hx.symm⟩
theorem tup_lot (T : List Nat) : D.tup (natsD T) = lotD T := by unfold lotD inD nI natsD; rw [List.map_map]; rfl
theorem sort_lot {T T' : List Nat} (h : T.Perm T') (hT : T'.Pairwise (· < ·)) {st : Stor} {R : KD} (k : ∀ p, st p = none → R (.ref p) (put st p (.lst (natsD T')))) : dSorted [lotD T] st R := by
  rw [← tup_lot]
  refine ⟨?_, depDs_le fun d hd => ?_, fun d hd e he => ?_, fun d hd => ?_, fun p hp => ?_⟩
  · rw [pureDs_all, List.all_eq_true]
    intro d hd
    obtain ⟨a, _, rfl⟩ := List.mem_map.mp hd
    rfl
  · obtain ⟨a, _, rfl⟩ := List.mem_map.mp hd
    simp [depD, toPy, PyData.depth]
  · obtain ⟨a, _, rfl⟩ := List.mem_map.mp hd
    obtain ⟨b, _, rfl⟩ := List.mem_map.mp he
    simp [toPy, PySem.W.alike]
  · obtain ⟨a, _, rfl⟩ := List.mem_map.mp hd
    intro z; cases z
  · rw [sort_nats h hT]; exact k p hp
theorem inE {w : List Int} {st : Stor} {RI : List (List D) → (Stor → Prop) → Stor → Prop} : enuD (inD w) st RI = RI (enumD 0 (w.map .int)) (fun _ => True) st := rfl
theorem hs_trees_of : ∀ ds s R, sp_trees_of ds s R → rd_trees_of (endsD R) (startD N_trees_of.length ds) s := by
  refine sp2.to fun x y st R h => ?_
  obtain ⟨ps, ls, ss, w, rfl, rfl, gl, l16, ok, h⟩ := h
  have wl : w.length = ls.length := by rw [ok.l, edges_len]
  have hE : Below ps.length (edges ls) := gl.ed
  have p16 : ∀ i, i ≤ ls.length → 2 ^ i ≤ 2 ^ 16 := fun i hi => Nat.pow_le_pow_right (by decide) (by omega)
  rw [st_trees_of]; unfold rd_trees_of
  simp [inE]
  intro p hp
  refine comp_keep (fun i acc => acc = natsD ((List.range i).filter fun j => decide (wf w j = -1))) (by rw [enumD_len, List.length_map, sizeLine_eq]; omega) rfl (fun _ => trivial) (fun i acc q => by subst q; unfold natsD; rw [List.length_map]; exact Nat.le_trans (List.length_filter_le _ _) (by simp)) (fun i x acc hx hQ Y Z hY hZ => ?_) fun acc hQ => ?_
  · subst hQ
    obtain ⟨hi, rfl⟩ := w_enum hx
    rw [pick_succ] at hY hZ
    generalize put st p (.lst (natsD ((List.range i).filter fun j => decide (wf w j = -1)))) = S at hY hZ ⊢
    simp
    by_cases c : wf w i = -1
    · rw [if_pos c]
      exact hY _ _ (Sub.refl _) (by simp [c, natsD])
    · rw [if_neg c]
      exact hZ _ (Sub.refl _) (by simp [c])
  · subst hQ
    rw [enumD_len, List.length_map, wl]
    have er : (List.range ls.length).filter (fun j => decide (wf w j = -1)) = rigT (edges ls) (wf w) := by unfold rigT; rw [edges_len]
    rw [er]
    refine Eq.mpr (z_tuple getL_self) ?_
    have tl : ∀ T : List Nat, D.tup (natsD T) = lotD T := fun T => by unfold lotD inD nI natsD; rw [List.map_map]; rfl
    rw [tl]
    refine ⟨st, Sub.put hp, ?_⟩
    intro p hp
    refine comp_keep (fun i acc => acc = natsD ((List.range i).filter fun j => decide (wf w j = 0))) (by rw [enumD_len, List.length_map, sizeLine_eq]; omega) rfl (fun _ => trivial) (fun i acc q => by subst q; unfold natsD; rw [List.length_map]; exact Nat.le_trans (List.length_filter_le _ _) (by simp)) (fun i x acc hx hQ Y Z hY hZ => ?_) fun acc hQ => ?_
    · subst hQ
      obtain ⟨hi, rfl⟩ := w_enum hx
      rw [pick_succ] at hY hZ
      generalize put st p (.lst (natsD ((List.range i).filter fun j => decide (wf w j = 0)))) = S at hY hZ ⊢
      simp
      by_cases c : wf w i = 0
      · rw [if_pos c]
        exact hY _ _ (Sub.refl _) (by simp [c, natsD])
      · rw [if_neg c]
        exact hZ _ (Sub.refl _) (by simp [c])
    subst hQ
    rw [enumD_len, List.length_map, wl]
    have er : (List.range ls.length).filter (fun j => decide (wf w j = 0)) = absT (edges ls) (wf w) := by unfold absT; rw [edges_len]
    rw [er]
    refine Eq.mpr (z_tuple getL_self) ?_
    rw [tl]
    refine ⟨st, Sub.put hp, by rw [sizeLine_eq]; omega, by rw [sizeLine_eq]; omega, fun q0 hq0 => ?_⟩
    refine loop_any (fun i ρ s' => ∃ (o6 o7 o10 o11 o12 o13 : Option D) (q : Addr), ρ = [some (gD ps ls ss), some (inD w), some (stD ps), some (lsD ps ls), some (ssD ss), some (lotD (rigT (edges ls) (wf w))), o6, o7, some (lotD (absT (edges ls) (wf w))), some (.ref q), o10, o11, o12, o13] ∧ DL.Sub st s' ∧ s' q = some (.lst (progD ps.length (edges ls) w i)))
      ⟨none, none, none, none, none, none, q0, rfl, Sub.put hq0, by rw [put_same]; simp [progD, progU, partD, restU]⟩ (fun _ _ _ _ => trivial) (fun i x ρ s' hx hP N hN => ?_) fun ρ s' hP => ?_
    · obtain ⟨o6, o7, o10, o11, o12, o13, q, rfl, sub, sq⟩ := hP
      obtain ⟨hi, rfl⟩ := w_enum hx
      simp
      by_cases c : wf w i ≤ 0
      · simp [c]
        refine hN _ _ _ (Sub.refl _) ⟨_, _, _, _, _, _, q, rfl, sub, ?_⟩
        rw [sq, progD_not c]
      · simp [c]
        intro r hr
        have neq : q ≠ r := fun z => by subst z; rw [hr] at sq; cases sq
        have il : i < ls.length := by omega
        have iE : i ≤ (edges ls).length := by rw [edges_len]; omega
        have pl2 := (progU_len ps.length (edges ls) (wf w) i).1
        have p2 := p16 i (by omega)
        have hl := List.getElem?_eq_getElem il
        generalize ls[i] = l at hl
        have eE : (edges ls)[i]? = some (l.a, l.b) := by unfold edges; rw [List.getElem?_map, hl]; rfl
        rw [z_seq (by rw [getL_ne neq]; exact getL_some sq)]
        refine loop_list (fun k acc ρ => ∃ o11 o12 o13 : Option D, ρ = [some (gD ps ls ss), some (inD w), some (stD ps), some (lsD ps ls), some (ssD ss), some (lotD (rigT (edges ls) (wf w))), some (.int (i : Nat)), some (.int (wf w i)), some (lotD (absT (edges ls) (wf w))), some (.ref q), some (.ref r), o11, o12, o13] ∧ acc = (furth ps.length (edges ls) w i k).map (partD (edges ls) w (i + 1)))
          ⟨o11, o12, o13, rfl, by simp [furth]⟩ (fun acc => by rw [getL_ne neq]; exact getL_some sq) (fun k x acc ρ hx hQ M hM => ?_) fun acc ρ hQ => ?_
        · obtain ⟨o11, o12, o13, rfl, rfl⟩ := hQ
          obtain ⟨U, hU, rfl⟩ : ∃ U, (progU ps.length (edges ls) (wf w) i)[k]? = some U ∧ partD (edges ls) w i U = x := by
            unfold progD at hx
            rw [List.getElem?_map] at hx
            cases e : (progU ps.length (edges ls) (wf w) i)[k]? with
            | none => rw [e] at hx; cases hx
            | some U => rw [e] at hx; exact ⟨U, rfl, by simpa using hx⟩
          have kl := (List.getElem?_eq_some_iff.mp hU).1
          obtain ⟨u1, u2, u3, u4⟩ := (progU_iff hE ok.f ok.c iE).mp (List.mem_of_getElem? hU)
          have ni : i ∉ U := fun z => by have := u1.2 i z; omega
          have ul := inc_len u1
          have rl : (rigT (edges ls) (wf w)).length ≤ 16 := Nat.le_trans (List.length_filter_le _ _) (by rw [List.length_range, edges_len]; omega)
          have al : (absT (edges ls) (wf w)).length ≤ 16 := Nat.le_trans (List.length_filter_le _ _) (by rw [List.length_range, edges_len]; omega)
          have sl : (restU (wf w) U i).length ≤ 16 := Nat.le_trans (List.length_filter_le _ _) (by rw [List.length_range]; omega)
          have fl := furth_len ps.length (edges ls) w i k
          rw [furth_succ hU, List.map_append] at hM
          have put0 : ∀ (ds : List D), put s' r (.lst ds) r = some (.lst ds) := fun _ => put_same
          have put1 : ∀ (ds : List D) (d : D), put (put s' r (.lst ds)) r (.lst (ds ++ [d])) = put s' r (.lst (ds ++ [d])) := fun _ _ => put_put ..
          have eT1 : partD (edges ls) w (i + 1) (U ++ [i]) = .tup [lotD (rigT (edges ls) (wf w) ++ (U ++ [i])), lotD (absT (edges ls) (wf w) ++ restU (wf w) U i)] := by
            unfold partD
            rw [rest_take]
          have eT2 : partD (edges ls) w (i + 1) U = .tup [lotD (rigT (edges ls) (wf w) ++ U), lotD (absT (edges ls) (wf w) ++ (restU (wf w) U i ++ [i]))] := by
            unfold partD
            rw [rest_skip (by omega) ni]
          generalize hF : (furth ps.length (edges ls) w i k).map (partD (edges ls) w (i + 1)) = F at hM
          have Fl : F.length ≤ 2 * k := by rw [← hF, List.length_map]; exact fl
          simp [partD]
          refine ⟨ps, ls, ss, rigT (edges ls) (wf w) ++ U, i, l, rfl, rfl, rfl, gl, by rw [List.length_append]; omega, fun j hj => ?_, hl, ?_⟩
          · rcases List.mem_append.mp hj with hj | hj
            · have := (mem_rig.mp hj).1
              rw [edges_len] at this
              exact this
            · have := u1.2 j hj
              omega
          · have est : progStep ps.length (edges ls) (wf w) i U = if ringB (edges ls) (rigT (edges ls) (wf w) ++ U) (l.a, l.b) = true then [U] else [U ++ [i]] ++ if wholeB ps.length (dropE (edges ls) (absT (edges ls) (wf w) ++ (restU (wf w) U i ++ [i]))) = true then [U] else [] := by
              unfold progStep
              rw [eE]; rfl
            rw [est] at hM
            have hJ : ∀ (b : Bool) (G : List D) (EE : EndsD), G.length ≤ 2 * k + 1 → (∀ st', DL.Sub (put s' r (.lst (if b = true ∨ wholeB ps.length (dropE (edges ls) (absT (edges ls) (wf w) ++ (restU (wf w) U i ++ [i]))) = true then G ++ [partD (edges ls) w (i + 1) U] else G))) st' → M [some (gD ps ls ss), some (inD w), some (stD ps), some (lsD ps ls), some (ssD ss), some (lotD (rigT (edges ls) (wf w))), some (D.int (i : Nat)), some (D.int (wf w i)), some (lotD (absT (edges ls) (wf w))), some (D.ref q), some (D.ref r), some (lotD (rigT (edges ls) (wf w) ++ U)), some (lotD (absT (edges ls) (wf w) ++ restU (wf w) U i)), some (.bl b)] st') →
                rk_trees_of_0 (EE.turn M) [some (gD ps ls ss), some (inD w), some (stD ps), some (lsD ps ls), some (ssD ss), some (lotD (rigT (edges ls) (wf w))), some (D.int (i : Nat)), some (D.int (wf w i)), some (lotD (absT (edges ls) (wf w))), some (D.ref q), some (D.ref r), some (lotD (rigT (edges ls) (wf w) ++ U)), some (lotD (absT (edges ls) (wf w) ++ restU (wf w) U i)), some (.bl b)] (put s' r (.lst G)) := by
              intro b G EE Gl hG
              have Gs : G.length < sizeLine := by rw [sizeLine_eq]; omega
              have app : ∀ st0 : Stor, st0 r = some (.lst G) → ∀ R' : KD, R' .non (put st0 r (.lst (G ++ [partD (edges ls) w (i + 1) U]))) → dAppend r [.tup [lotD (rigT (edges ls) (wf w) ++ U), lotD (absT (edges ls) (wf w) ++ (restU (wf w) U i ++ [i]))]] st0 R' := fun st0 h0 R' hR => by
                rw [← eT2, z_append h0 Gs]; exact hR
              have gS : ∃ xs, getL (put s' r (.lst G)) r = some xs := ⟨_, getL_self⟩
              rw [ru_trees_of_0]
              cases b with
              | true =>
                simp [x_addLot]
                refine ⟨by rw [sizeLine_eq]; omega, by rw [sizeLine_eq]; omega, by rw [sizeLine_eq]; omega, app _ put_same _ (hG _ ?_)⟩
                rw [put_put, if_pos (.inl rfl)]
                exact Sub.refl _
              | false =>
                simp [x_addLot]
                refine ⟨by rw [sizeLine_eq]; omega, by rw [sizeLine_eq]; omega, ps, ls, nI (absT (edges ls) (wf w) ++ (restU (wf w) U i ++ [i])), rfl, rfl, .inl rfl, gl, ?_⟩
                have ew : hung ps.length (liveL ls (nI (absT (edges ls) (wf w) ++ (restU (wf w) U i ++ [i])))) = wholeB ps.length (dropE (edges ls) (absT (edges ls) (wf w) ++ (restU (wf w) U i ++ [i]))) := by
                  rw [← whole_live, edges_len]; rfl
                rw [ew]
                by_cases hw2 : wholeB ps.length (dropE (edges ls) (absT (edges ls) (wf w) ++ (restU (wf w) U i ++ [i]))) = true
                · rw [hw2] at hG ⊢
                  simp
                  refine ⟨by rw [sizeLine_eq]; omega, by rw [sizeLine_eq]; omega, by rw [sizeLine_eq]; omega, app _ put_same _ (hG _ ?_)⟩
                  rw [put_put, if_pos (.inr rfl)]
                  exact Sub.refl _
                · rw [Bool.not_eq_true] at hw2
                  rw [hw2] at hG ⊢
                  simp
                  refine hG _ ?_
                  rw [if_neg (by simp)]
                  exact Sub.refl _
            by_cases hr2 : ringB (edges ls) (rigT (edges ls) (wf w) ++ U) (l.a, l.b) = true
            · rw [hr2] at hM ⊢
              simp
              refine hJ true F _ (by omega) fun st' hs => hM _ _ _ hs ⟨_, _, _, rfl, by simp⟩
            · rw [Bool.not_eq_true] at hr2
              rw [hr2] at hM ⊢
              simp [x_addLot]
              have Fs : F.length < sizeLine := by rw [sizeLine_eq]; omega
              refine ⟨by rw [sizeLine_eq]; omega, by rw [sizeLine_eq]; omega, by rw [sizeLine_eq]; omega, ?_⟩
              rw [← eT1]
              refine Eq.mpr (z_append (put0 F) Fs) ?_
              rw [put1]
              refine hJ false _ _ (by rw [List.length_append, List.length_singleton]; omega) fun st' hs => hM _ _ _ hs ⟨_, _, _, rfl, ?_⟩
              by_cases hw2 : wholeB ps.length (dropE (edges ls) (absT (edges ls) (wf w) ++ (restU (wf w) U i ++ [i]))) = true
              · simp [hw2]
              · simp [hw2]
        · obtain ⟨o11, o12, o13, rfl, rfl⟩ := hQ
          simp
          refine hN _ _ _ (Sub.refl _) ⟨_, _, _, _, _, _, r, rfl, sub.putN (sub_none sub hr), ?_⟩
          rw [put_same]
          unfold progD
          rw [List.length_map]
          have e : progU ps.length (edges ls) (wf w) (i + 1) = furth ps.length (edges ls) w i (progU ps.length (edges ls) (wf w) i).length := by
            rw [progU, if_neg c]
            unfold furth
            rw [List.take_length]
          rw [e]
    · obtain ⟨o6, o7, o10, o11, o12, o13, q, rfl, sub, sq⟩ := hP
      rw [enumD_len, List.length_map, wl, ← edges_len (ls := ls)] at sq
      simp
      rw [z_seq (getL_some sq)]
      intro p hp
      have neq : q ≠ p := fun z => by subst z; rw [hp] at sq; cases sq
      have pl2 := (progU_len ps.length (edges ls) (wf w) (edges ls).length).1
      have p2 := p16 (edges ls).length (by rw [edges_len]; exact Nat.le_refl _)
      have ppl : (progD ps.length (edges ls) w (edges ls).length).length = (progU ps.length (edges ls) (wf w) (edges ls).length).length := by unfold progD; rw [List.length_map]
      refine comp_keep (fun k acc => acc = (((progU ps.length (edges ls) (wf w) (edges ls).length).take k).map (joinT (edges ls) (wf w))).map lotD) (by rw [ppl, sizeLine_eq]; omega) rfl (fun acc => by rw [getL_ne neq]; exact getL_some sq) (fun k acc q => by subst q; rw [List.length_map, List.length_map]; exact List.length_take_le _ _) (fun k x acc hx hQ Y Z hY hZ => ?_) fun acc hQ => ?_
      · subst hQ
        obtain ⟨U, hU, rfl⟩ : ∃ U, (progU ps.length (edges ls) (wf w) (edges ls).length)[k]? = some U ∧ partD (edges ls) w (edges ls).length U = x := by
          unfold progD at hx
          rw [List.getElem?_map] at hx
          cases e : (progU ps.length (edges ls) (wf w) (edges ls).length)[k]? with
          | none => rw [e] at hx; cases hx
          | some U => rw [e] at hx; exact ⟨U, rfl, by simpa using hx⟩
        obtain ⟨u1, u2, u3, u4⟩ := (progU_iff hE ok.f ok.c (Nat.le_refl _)).mp (List.mem_of_getElem? hU)
        rw [take_snoc hU] at hY
        generalize hS : put s' p (.lst ((((progU ps.length (edges ls) (wf w) (edges ls).length).take k).map (joinT (edges ls) (wf w))).map lotD)) = S at hY ⊢
        simp [partD]
        refine sort_lot (join_perm u1 u2).symm (inc_filter _ _).1 fun t ht => ?_
        refine Eq.mpr (z_tuple getL_self) ?_
        rw [tl]
        exact ⟨S, Sub.put ht, hY _ _ (Sub.refl _) (by simp)⟩
      · subst hQ
        rw [ppl, List.take_length]
        rw [lots_in]
        refine ⟨_, getL_self, pure_ins _, depDs_ins _, alike_ins _, fun x hx => ?_, fun t ht => ?_⟩
        · obtain ⟨s, _, rfl⟩ := List.mem_map.mp hx
          intro z; cases z
        · refine Eq.mpr (z_tuple getL_self) ?_
          rw [← lots_in]
          rw [put_is_none] at ht
          exact ⟨_, (sub.putN (sub_none sub hp)).putN (sub_none sub ht.2), _, Sub.refl _, h⟩
end K11
-- text K11P11
set_option Elab.async false
set_option linter.all false
set_option maxRecDepth 100000
set_option maxHeartbeats 2000000
set_option exponentiation.threshold 10000
/-! K11P11 -/
namespace K11
open PySem PySem.Spec PyProof.Rows L2 DL DR DG
theorem toks_in : ∀ a b : List Int, PySem.W.keyToksAll (a.map PyData.int) = PySem.W.keyToksAll (b.map PyData.int) → a = b
  | [], [], _ => rfl
  | [], y :: b, h => by simp [PySem.W.keyToksAll] at h
  | x :: a, [], h => by simp [PySem.W.keyToksAll] at h
  | x :: a, y :: b, h => by
    simp [PySem.W.keyToksAll, PySem.W.keyToks] at h
    rw [toks_in a b h.2, h.1]
theorem toPy_in (s : List Int) : toPy (inD s) = .tuple (s.map fun x => PyData.int x) := by
  unfold inD toPy
  rw [toPys_map, List.map_map]; rfl
theorem in_antisymm {a b : List Int} (h1 : leD (inD a) (inD b) = true) (h2 : leD (inD b) (inD a) = true) : a = b := by
  unfold leD at h1 h2
  rw [PySem.W.dataLe_eq] at h1 h2
  simp only [cond_false, Bool.not_eq_true'] at h1 h2
  unfold PySem.W.dataLt at h1 h2
  rw [toPy_in, toPy_in] at h1 h2
  have := PyProof.Rows.lex_total _ _ h2 h1
  simp only [PySem.W.keyToks] at this
  have h3 : PySem.W.keyToksAll (a.map PyData.int) = PySem.W.keyToksAll (b.map PyData.int) := by simpa using this
  exact toks_in a b h3
theorem sort_oneI {l1 l2 : List D} (h : l1.Perm l2) (hs : ∀ d ∈ l1, ∃ a : List Int, d = inD a) (h1 : l1.Pairwise fun a b => leD a b = true) (h2 : l2.Pairwise fun a b => leD a b = true) : l1 = l2 :=
  List.Perm.eq_of_pairwise (le := fun a b => leD a b = true) (fun a b ha hb l r => by
    obtain ⟨x, rfl⟩ := hs a ha
    obtain ⟨y, rfl⟩ := hs b (h.mem_iff.mpr hb)
    rw [in_antisymm l r]) h1 h2 h
noncomputable def furtL (E : Edges) (w : List Int) (i j : Nat) : List (List Nat) := ((lawR E (wf w) i).take j).flatMap (lawStep E (wf w) i)
theorem furtL_succ {E : Edges} {w : List Int} {i j : Nat} {U : List Nat} (h : (lawR E (wf w) i)[j]? = some U) : furtL E w i (j + 1) = furtL E w i j ++ lawStep E (wf w) i U := by
  unfold furtL
  rw [take_snoc h, List.flatMap_append]
  simp
theorem lstep_len (E : Edges) (w : List Int) (i : Nat) (U : List Nat) : (lawStep E (wf w) i U).length ≤ 2 := by
  unfold lawStep
  rw [List.length_append]
  split <;> split <;> (try split) <;> simp
theorem furtL_len (E : Edges) (w : List Int) (i : Nat) : ∀ j, (furtL E w i j).length ≤ 2 * j
  | 0 => by simp [furtL]
  | j + 1 => by
    have ih := furtL_len E w i j
    cases h : (lawR E (wf w) i)[j]? with
    | none =>
      have : furtL E w i (j + 1) = furtL E w i j := by
        unfold furtL
        rw [List.take_add_one, h]; simp
      rw [this]; omega
    | some o =>
      rw [furtL_succ h, List.length_append]
      have := lstep_len E w i o
      omega
theorem furtL_all (E : Edges) (w : List Int) (i : Nat) : furtL E w i (lawR E (wf w) i).length = lawR E (wf w) (i + 1) := by
  unfold furtL
  rw [List.take_length]; rfl
theorem lawR_len (E : Edges) (w : List Int) : ∀ i, (lawR E (wf w) i).length ≤ 2 ^ i
  | 0 => by simp [lawR]
  | i + 1 => by
    have ih := lawR_len E w i
    have := furtL_len E w i (lawR E (wf w) i).length
    rw [furtL_all] at this
    rw [Nat.pow_succ]; omega
/-- a row of the law: what is taken, and the labels (not at r) -/
def RowAt (n : Nat) (E : Edges) (r : Addr) (st : Stor) (d : D) (T : List Nat) : Prop := ∃ (a : Addr) (gs : List Int), d = .tup [lotD T, .ref a] ∧ a ≠ r ∧ st a = some (.lst (gs.map .int)) ∧ Labels n gs (eT E T)
def RowsAt (n : Nat) (E : Edges) (r : Addr) (st : Stor) (xs : List D) (Ts : List (List Nat)) : Prop := xs.length = Ts.length ∧ ∀ (k : Nat) (d : D) (T : List Nat), xs[k]? = some d → Ts[k]? = some T → RowAt n E r st d T
theorem RowAt.mono {n : Nat} {E : Edges} {r : Addr} {st st' : Stor} {d : D} {T : List Nat} (h : RowAt n E r st d T) (hs : ∀ a c, a ≠ r → st a = some c → st' a = some c) : RowAt n E r st' d T := by
  obtain ⟨a, gs, h1, h2, h3, h4⟩ := h
  exact ⟨a, gs, h1, h2, hs _ _ h2 h3, h4⟩
theorem RowsAt.mono {n : Nat} {E : Edges} {r : Addr} {st st' : Stor} {xs : List D} {Ts : List (List Nat)} (h : RowsAt n E r st xs Ts) (hs : ∀ a c, a ≠ r → st a = some c → st' a = some c) : RowsAt n E r st' xs Ts :=
  ⟨h.1, fun k d T h1 h2 => (h.2 k d T h1 h2).mono hs⟩
theorem RowsAt.snoc {n : Nat} {E : Edges} {r : Addr} {st : Stor} {xs : List D} {Ts : List (List Nat)} {d : D} {T : List Nat} (h : RowsAt n E r st xs Ts) (k : RowAt n E r st d T) : RowsAt n E r st (xs ++ [d]) (Ts ++ [T]) := by
  refine ⟨by simp [h.1], fun i d' T' h1 h2 => ?_⟩
  by_cases hi : i < xs.length
  · rw [List.getElem?_append_left hi] at h1
    rw [List.getElem?_append_left (by rw [← h.1]; exact hi)] at h2
    exact h.2 i d' T' h1 h2
  · rw [List.getElem?_append_right (by omega)] at h1
    rw [List.getElem?_append_right (by rw [← h.1]; omega), ← h.1] at h2
    cases e : i - xs.length with
    | zero => rw [e] at h1 h2; simp at h1 h2; subst h1 h2; exact k
    | succ m => rw [e] at h1; simp at h1
theorem RowsAt.nil {n : Nat} {E : Edges} {r : Addr} {st : Stor} : RowsAt n E r st [] [] := ⟨rfl, fun k d T h1 => by simp at h1⟩
theorem hs__law_trees : ∀ ds s R, sp__law_trees ds s R → rd__law_trees (endsD R) (startD N__law_trees.length ds) s := by
  refine sp2.to fun x y st R h => ?_
  obtain ⟨ps, ls, ss, w, rfl, rfl, gl, l12, ok, h⟩ := h
  have wl : w.length = ls.length := by rw [ok.l, edges_len]
  have hE : Below ps.length (edges ls) := gl.ed
  have n9 := gl.pl.l
  have p12 : ∀ i, i ≤ ls.length → 2 ^ i ≤ 2 ^ 12 := fun i hi => Nat.pow_le_pow_right (by decide) (by omega)
  rw [st__law_trees]; unfold rd__law_trees
  simp [sizeLine_eq]
  refine ⟨ps, ls, ss, rfl, gl, fun e he => ?_⟩
  refine ⟨by omega, fun p hp => comp_range (by simp) (by rw [sizeLine_eq]; omega) fun q hq => ?_⟩
  rw [put_is_none] at hq hp
  obtain ⟨nqp, hq⟩ := hq
  rw [put_is_none] at hq
  have le : ((edges ls).map pairD).length = ls.length := by rw [List.length_map, edges_len]
  have se : put (put (put st e (.lst ((edges ls).map pairD))) p (.lst (rangeD 0 ps.length))) q (.lst [.tup [.tup [], .ref p]]) e = some (.lst ((edges ls).map pairD)) := by rw [put_ne hq.1.symm, put_ne hp.1.symm]; exact put_same
  have sp : put (put (put st e (.lst ((edges ls).map pairD))) p (.lst (rangeD 0 ps.length))) q (.lst [.tup [.tup [], .ref p]]) p = some (.lst (rangeD 0 ps.length)) := by rw [put_ne nqp.symm]; exact put_same
  have sq : put (put (put st e (.lst ((edges ls).map pairD))) p (.lst (rangeD 0 ps.length))) q (.lst [.tup [.tup [], .ref p]]) q = some (.lst [.tup [.tup [], .ref p]]) := put_same
  have sub : DL.Sub st (put (put (put st e (.lst ((edges ls).map pairD))) p (.lst (rangeD 0 ps.length))) q (.lst [.tup [.tup [], .ref p]])) := ((Sub.put he).putN hp.2).putN hq.2
  generalize put (put (put st e (.lst ((edges ls).map pairD))) p (.lst (rangeD 0 ps.length))) q (.lst [.tup [.tup [], .ref p]]) = S0 at se sp sq sub ⊢
  refine Eq.mpr (z_len (getL_some se)) ?_
  rw [le]
  refine ⟨by omega, loop_any (fun i ρ s' => ∃ (o5 o6 o7 o8 o9 : Option D) (q : Addr) (xs : List D), ρ = [some (gD ps ls ss), some (inD w), some (.ref e), some (.ref q), none, o5, o6, o7, o8, o9, none] ∧ DL.Sub st s' ∧ s' e = some (.lst ((edges ls).map pairD)) ∧ s' q = some (.lst xs) ∧ RowsAt ps.length (edges ls) q s' xs (lawR (edges ls) (wf w) i))
    ⟨none, none, none, none, none, q, _, rfl, sub, se, sq, RowsAt.nil.snoc ⟨p, _, rfl, nqp.symm, by rw [sp, rangeD_map], labels_start _⟩⟩ (fun _ _ _ _ => trivial) (fun i x ρ s' hx hP N hN => ?_) fun ρ s' hP => ?_⟩
  · obtain ⟨o5, o6, o7, o8, o9, q, xs, rfl, sub, se, sq, hR⟩ := hP
    obtain ⟨hi, rfl⟩ := rangeD_get hx
    have hi : i < ls.length := by simpa using hi
    have hl := List.getElem?_eq_getElem hi
    have lb := gl.lb _ (List.mem_of_getElem? hl)
    generalize ls[i] = l at hl lb
    have eE : (edges ls)[i]? = some (l.a, l.b) := by unfold edges; rw [List.getElem?_map, hl]; rfl
    have gi : ((edges ls).map pairD)[i]? = some (pairD (l.a, l.b)) := by rw [List.getElem?_map, eE]; rfl
    have xl := hR.1
    have ll2 := lawR_len (edges ls) w i
    have p2 := p12 i (by omega)
    simp
    intro r hr
    have neq : q ≠ r := fun z => by subst z; rw [hr] at sq; cases sq
    refine Eq.mpr (z_seq (by rw [getL_ne neq]; exact getL_some sq)) ?_
    refine loop_any (fun k ρ s2 => ∃ (o7 o8 o9 : Option D) (acc : List D), ρ = [some (gD ps ls ss), some (inD w), some (.ref e), some (.ref q), none, some (.int (i : Nat)), some (.ref r), o7, o8, o9, none] ∧ DL.Sub s' s2 ∧ s2 r = some (.lst acc) ∧ RowsAt ps.length (edges ls) r s2 acc (furtL (edges ls) w i k))
      ⟨o7, o8, o9, [], rfl, Sub.put hr, put_same, by simpa [furtL] using RowsAt.nil⟩ (fun k ρ s2 h => by obtain ⟨_, _, _, _, _, h1, _⟩ := h; exact getL_some (h1 _ _ sq)) (fun k x ρ s2 hx hQ M hM => ?_) fun ρ s2 hQ => ?_
    · obtain ⟨o7, o8, o9, acc, rfl, sb2, sr, hA⟩ := hQ
      have kl := (List.getElem?_eq_some_iff.mp hx).1
      have hT := List.getElem?_eq_getElem (show k < (lawR (edges ls) (wf w) i).length by omega)
      generalize (lawR (edges ls) (wf w) i)[k]'(by omega) = T at hT
      obtain ⟨a, gs, rfl, naq, sa, hg⟩ := hR.2 k x T hx hT
      have nar : a ≠ r := fun z => by subst z; rw [hr] at sa; cases sa
      obtain ⟨t1, t2, t3, t4⟩ := (lawR_iff hE (by rw [edges_len]; omega)).mp (List.mem_of_getElem? hT)
      have tl := inc_len t1
      have fl := furtL_len (edges ls) w i k
      have al : acc.length ≤ 2 * k := by rw [hA.1]; exact fl
      have ge := getL_some (sb2 _ _ se)
      have ga := getL_some (sb2 _ _ sa)
      obtain ⟨y1, k1⟩ : ∃ w, gs[l.a]? = some w := ⟨gs[l.a]'(by rw [hg.1]; exact lb.1), List.getElem?_eq_getElem _⟩
      obtain ⟨y2, k2⟩ : ∃ w, gs[l.b]? = some w := ⟨gs[l.b]'(by rw [hg.1]; exact lb.2), List.getElem?_eq_getElem _⟩
      have k1' : (gs.map D.int)[l.a]? = some (.int y1) := by rw [List.getElem?_map, k1]; rfl
      have k2' : (gs.map D.int)[l.b]? = some (.int y2) := by rw [List.getElem?_map, k2]; rfl
      have est : lawStep (edges ls) (wf w) i T = (if wf w i = -1 then [] else [T]) ++ (if wf w i = 0 then [] else if y1 = y2 then [] else [T ++ [i]]) := by
        unfold lawStep
        rw [eE]
        have : (y1 = y2) ↔ ringB (edges ls) T ((some (l.a, l.b)).getD (0, 0)) = true := by
          rw [ringB_iff, Option.getD_some, ← hg.2 l.a l.b lb.1 lb.2, k1, k2]
          exact ⟨fun e => by rw [e], fun e => Option.some.inj e⟩
        simp only [this]
      rw [furtL_succ hT, est] at hM
      simp [pairD, z_ixL ge gi, z_ixL ga k1', z_ixL ga k2', inD_ix (show i < w.length by omega)]
      have hJ : ∀ (s3 : Stor) (ac : List D) (EE : EndsD), DL.Sub s' s3 → s3 r = some (.lst ac) → ac.length ≤ 2 * k + 1 → RowsAt ps.length (edges ls) r s3 ac (furtL (edges ls) w i k ++ (if wf w i = -1 then [] else [T])) →
          rk__law_trees_0 (EE.turn M) [some (gD ps ls ss), some (inD w), some (.ref e), some (.ref q), none, some (.int (i : Nat)), some (.ref r), some (.tup [lotD T, .ref a]), some (.int y1), some (.int y2), none] s3 := by
        intro s3 ac EE sb3 sr3 al3 hA3
        have ga3 := getL_some (sb3 _ _ sa)
        rw [ru__law_trees_0]
        simp [inD_ix (show i < w.length by omega)]
        have stop : (if wf w i = 0 then ([] : List (List Nat)) else if y1 = y2 then [] else [T ++ [i]]) = [] → M [some (gD ps ls ss), some (inD w), some (.ref e), some (.ref q), none, some (.int (i : Nat)), some (.ref r), some (.tup [lotD T, .ref a]), some (.int y1), some (.int y2), none] s3 := fun z => by
          rw [z, List.append_nil] at hM
          exact hM _ _ _ (Sub.refl _) ⟨_, _, _, ac, rfl, sb3, sr3, hA3⟩
        by_cases c0 : wf w i = 0
        · simp [c0]
          exact stop (by rw [if_pos c0])
        · simp [c0]
          by_cases c1 : y1 = y2
          · simp [c1]
            subst c1
            exact stop (by rw [if_neg c0, if_pos rfl])
          · simp [c1]
            refine ⟨⟨_, getL_some sr3⟩, by rw [sizeLine_eq]; omega, ?_⟩
            rw [x_addLot]
            refine ⟨by rw [sizeLine_eq]; omega, ?_⟩
            refine Eq.mpr (z_seq ga3) fun p2 hp2 => ?_
            have na2 : a ≠ p2 := ne_put (sb3 _ _ sa) hp2
            have nr2 : r ≠ p2 := ne_put sr3 hp2
            have hgl := hg.1
            refine comp_keep (fun i acc => acc = ((gs.take i).map fun w => if w = y2 then y1 else w).map D.int) (by simp [sizeLine_eq]; omega) (by simp) (fun acc => by rw [getL_ne na2]; exact ga3) (fun i acc q => by subst q; simp; omega) (fun j x acc hx q Y Z hY hZ => ?_) fun acc q => ?_
            · subst q
              obtain ⟨kk, hk, rfl⟩ : ∃ n, gs[j]? = some n ∧ .int n = x := by simpa using hx
              by_cases hk2 : kk = y2
              · simp [hk2, dInt]
                refine ⟨mul_r (by decide) (by decide), hY _ _ (Sub.refl _ |> fun q => by simpa using q) ?_⟩
                rw [take_snoc hk]; simp [hk2]
              · simp [hk2, dInt]
                refine ⟨mul_r (by decide) (by decide), ?_⟩
                have : y1 + (kk - y1) = kk := by omega
                rw [this]
                refine hY _ _ (Sub.refl _ |> fun q => by simpa using q) ?_
                rw [take_snoc hk]; simp [hk2]
            · subst q
              rw [List.length_map, List.take_length]
              refine ⟨by rw [sizeLine_eq]; omega, ?_⟩
              refine Eq.mpr (z_append (by rw [put_ne nr2]; exact sr3) (by rw [sizeLine_eq]; omega)) ?_
              refine hM _ _ _ (Sub.refl _) ⟨_, _, _, _, rfl, (sb3.putN (sub_none sb3 hp2)).putN hr, put_same, ?_⟩
              rw [if_neg c0, if_neg c1, ← List.append_assoc]
              refine (hA3.mono fun b c nb hb => ?_).snoc ⟨p2, _, rfl, nr2.symm, by rw [put_ne nr2.symm]; exact put_same, ?_⟩
              · rw [put_ne nb, put_ne (ne_put hb hp2)]; exact hb
              · rw [eT_app, eT_one eE]
                refine labels_join hg lb.1 lb.2 k1 k2 (by simp; exact hg.1) fun x w hw => ?_
                rw [List.getElem?_map, hw]; rfl
      by_cases cw : wf w i = -1
      · rw [if_pos cw]
        refine hJ s2 acc _ sb2 sr (by omega) ?_
        rw [if_pos cw, List.append_nil]
        exact hA
      · rw [if_neg cw]
        refine ⟨⟨_, getL_some sr⟩, ?_⟩
        refine Eq.mpr (z_append sr (by rw [sizeLine_eq]; omega)) ?_
        refine hJ _ _ _ (sb2.putN hr) put_same (by rw [List.length_append, List.length_singleton]; omega) ?_
        rw [if_neg cw]
        exact (hA.mono fun b c nb hb => by rw [put_ne nb]; exact hb).snoc ⟨a, gs, rfl, nar, by rw [put_ne nar]; exact sb2 _ _ sa, hg⟩
    · obtain ⟨o7, o8, o9, acc, rfl, sb2, sr, hA⟩ := hQ
      rw [xl, furtL_all] at hA
      simp
      exact hN _ _ _ (Sub.refl _) ⟨_, _, _, _, _, r, acc, rfl, sub.trans sb2, sb2 _ _ se, sr, hA⟩
  · obtain ⟨o5, o6, o7, o8, o9, q, xs, rfl, sub, se, sq, hR⟩ := hP
    simp
    rw [z_seq (getL_some sq)]
    rw [rangeD_len] at hR
    have en : ((ls.length : Int)).toNat = ls.length := by omega
    rw [en, ← edges_len (ls := ls)] at hR
    have xl := hR.1
    have ll2 := lawR_len (edges ls) w (edges ls).length
    have p2 := p12 (edges ls).length (by rw [edges_len]; exact Nat.le_refl _)
    intro p hp
    have neq : q ≠ p := fun z => by subst z; rw [hp] at sq; cases sq
    refine comp_keep (fun k acc => acc = (((lawR (edges ls) (wf w) (edges ls).length).take k).filter fun T => decide (T.length + 1 = ps.length)).map lotD) (by rw [xl, sizeLine_eq]; omega) rfl (fun acc => by rw [getL_ne neq]; exact getL_some sq) (fun k acc q => by subst q; rw [List.length_map]; exact Nat.le_trans (List.length_filter_le _ _) (List.length_take_le _ _)) (fun k x acc hx hQ Y Z hY hZ => ?_) fun acc hQ => ?_
    · subst hQ
      have kl := (List.getElem?_eq_some_iff.mp hx).1
      have hT := List.getElem?_eq_getElem (show k < (lawR (edges ls) (wf w) (edges ls).length).length by omega)
      generalize (lawR (edges ls) (wf w) (edges ls).length)[k]'(by omega) = T at hT
      obtain ⟨a, gs, rfl, naq, sa, hg⟩ := hR.2 k x T hx hT
      obtain ⟨t1, t2, t3, t4⟩ := (lawR_iff hE (Nat.le_refl _)).mp (List.mem_of_getElem? hT)
      have tl := inc_len t1
      rw [edges_len] at tl
      rw [take_snoc hT, List.filter_append] at hY hZ
      generalize put s' p (.lst ((((lawR (edges ls) (wf w) (edges ls).length).take k).filter fun T => decide (T.length + 1 = ps.length)).map lotD)) = S at hY hZ ⊢
      have n1 := gl.n1
      have eL : ∀ R' : KD, dLen [lotD T] S R' = R' (.int (T.length : Nat)) S := fun R' => by
        rw [← tup_lot]
        simp [natsD]
      simp [eL]
      by_cases c : T.length + 1 = ps.length
      · rw [if_pos (by omega)]
        exact hY _ _ (Sub.refl _) (by simp [c])
      · rw [if_neg (by omega)]
        exact hZ _ (Sub.refl _) (by simp [c])
    · subst hQ
      rw [xl, List.take_length]
      rw [lots_in]
      refine ⟨_, getL_self, pure_ins _, depDs_ins _, alike_ins _, fun x hx => ?_, fun t ht => ?_⟩
      · obtain ⟨s, _, rfl⟩ := List.mem_map.mp hx
        intro z; cases z
      · refine Eq.mpr (z_tuple getL_self) ?_
        rw [← lots_in]
        rw [put_is_none] at ht
        have same : sortD (((lawR (edges ls) (wf w) (edges ls).length).filter fun T => decide (T.length + 1 = ps.length)).map lotD) = sortD ((treesL ps.length (edges ls) w).map lotD) := by
          refine sort_oneI (((sortD_perm _).trans (List.Perm.map _ ?_)).trans (sortD_perm _).symm) (fun d hd => ?_) (sortD_sorted _) (sortD_sorted _)
          · refine (List.perm_ext_iff_of_nodup (List.Pairwise.filter _ (lawR_nodup hE _ (Nat.le_refl _))) (prog_nodup hE ok.f ok.c)).mpr fun T => ?_
            have hw : ∀ j, j < (edges ls).length → -1 ≤ wf w j := fun j hj => (ok.b _ (wf_mem (by rw [ok.l]; exact hj))).1
            rw [prog_trees hE ok.f ok.c hw, tree_row hE gl.n1, List.mem_filter, decide_eq_true_iff]
          · obtain ⟨o, _, rfl⟩ := List.mem_map.mp ((sortD_perm _).mem_iff.mp hd)
            exact ⟨nI o, rfl⟩
        rw [same]
        exact ⟨_, (sub.putN (sub_none sub hp)).putN (sub_none sub ht.2), _, Sub.refl _, h⟩
end K11
-- text K11P12
set_option Elab.async false
set_option linter.all false
set_option maxRecDepth 100000
set_option maxHeartbeats 2000000
set_option exponentiation.threshold 10000
/-! K11P12 -/
namespace K11
open PySem PySem.Spec PyProof.Rows L2 DL DR DG
theorem flip_snoc {E F : Edges} {e f : Nat × Nat} (h : Flip E F) (k : e = f ∨ e = (f.2, f.1)) : Flip (E ++ [e]) (F ++ [f]) := by
  refine ⟨by simp [h.1], fun i e' f' h1 h2 => ?_⟩
  by_cases hi : i < E.length
  · rw [List.getElem?_append_left hi] at h1
    rw [List.getElem?_append_left (by rw [← h.1]; exact hi)] at h2
    exact h.2 i e' f' h1 h2
  · rw [List.getElem?_append_right (by omega)] at h1
    rw [List.getElem?_append_right (by rw [← h.1]; omega), ← h.1] at h2
    cases q : i - E.length with
    | zero => rw [q] at h1 h2; simp at h1 h2; subst h1 h2; exact k
    | succ m => rw [q] at h1; simp at h1
def prE (r : Nat × Nat × List D) : Nat × Nat := (r.1, r.2.1)
theorem hs__law_linked (t : Addr) : ∀ ds s R, sp__law_linked t ds s R → rd__law_linked t (endsD R) (startD N__law_linked.length ds) s := by
  refine sp3.to fun x y z st R h => ?_
  obtain ⟨ps, a, b, rs, rfl, rfl, rfl, ga, gb, pl, n1, so, rl, rb, h⟩ := h
  rw [st__law_linked]; unfold rd__law_linked
  simp [sizeLine_eq]
  intro p hp
  have nap : a ≠ p := fun z => by subst z; unfold getL at ga; rw [hp] at ga; cases ga
  have nbp : b ≠ p := fun z => by subst z; unfold getL at gb; rw [hp] at gb; cases gb
  rw [z_seq (by rw [getL_ne nbp]; exact gb)]
  refine loop_list (fun i acc ρ => ∃ (o4 o5 : Option D) (ls : List Lk), ρ = [some (.ref t), some (.ref a), some (.ref b), some (.ref p), o4, o5] ∧ acc = ls.map (lkD ps) ∧ Flip (edges ls) ((rs.take i).map prE) ∧ ls.length = i ∧ ∀ l ∈ ls, l.a < ps.length ∧ l.b < ps.length)
    ⟨none, none, [], rfl, rfl, ⟨rfl, fun i e f h1 => by simp [edges] at h1⟩, rfl, fun l hl => by cases hl⟩ (fun acc => by rw [getL_ne nbp]; exact gb) (fun i x acc ρ hx hQ N hN => ?_) fun acc ρ hQ => ?_
  · obtain ⟨o4, o5, ls, rfl, rfl, fl, ll, lb⟩ := hQ
    obtain ⟨r, hr, rfl⟩ : ∃ r, rs[i]? = some r ∧ tripD r = x := by
      rw [List.getElem?_map] at hx
      cases e : rs[i]? with
      | none => rw [e] at hx; cases hx
      | some s => rw [e] at hx; exact ⟨s, rfl, by simpa using hx⟩
    have hi := (List.getElem?_eq_some_iff.mp hr).1
    have b2 := rb r (List.mem_of_getElem? hr)
    obtain ⟨u, v, rest⟩ := r
    simp only at b2
    have ga2 : getL (put st p (.lst (ls.map (lkD ps)))) a = some (ps.map .str) := by rw [getL_ne nap]; exact ga
    have la : (ls.map (lkD ps)).length < sizeLine := by rw [sizeLine_eq, List.length_map]; omega
    have ku : (ps.map D.str)[u]? = some (.str (nm ps u)) := by rw [List.getElem?_map, nm_get b2.1]; rfl
    have kv : (ps.map D.str)[v]? = some (.str (nm ps v)) := by rw [List.getElem?_map, nm_get b2.2]; rfl
    have d0 : ∀ {x y : D} {zs : List D} {S : Stor} {R' : KD}, dIx (.tup (x :: y :: zs)) (.int 0) S R' = R' x S := fun {_ _ _ _ _} => z_ix0
    have d1 : ∀ {x y : D} {zs : List D} {S : Stor} {R' : KD}, dIx (.tup (x :: y :: zs)) (.int 1) S R' = R' y S := fun {_ _ _ _ _} => z_ix1
    have fin : ∀ (o5 : Option D) (c d : Nat), c < ps.length → d < ps.length → ((c, d) = (u, v) ∨ (c, d) = (v, u)) → ∀ (w : D) (i' j' : Int), N [some (.ref t), some (.ref a), some (.ref b), some (.ref p), some (.tup (.int (u : Nat) :: .int (v : Nat) :: rest)), o5] (put st p (.lst (ls.map (lkD ps) ++ [.tup [.str (nm ps c), .str (nm ps d), w, .int i', .int j']]))) := fun o5 c d hc hd he w i' j' => by
      refine hN _ _ _ (Sub.refl _) ⟨_, _, ls ++ [⟨c, d, w, i', j'⟩], rfl, by simp [lkD], ?_, by simp [ll], fun l hl => ?_⟩
      · rw [take_snoc hr, List.map_append]
        have e : edges (ls ++ [⟨c, d, w, i', j'⟩]) = edges ls ++ [(c, d)] := by simp [edges]
        rw [e]
        exact flip_snoc fl he
      · rcases List.mem_append.mp hl with hl | hl
        · exact lb l hl
        · rw [List.mem_singleton.mp hl]; exact ⟨hc, hd⟩
    have hJ : ∀ (rst : List D) (c d : Nat) (EE : EndsD), c < ps.length → d < ps.length → ((c, d) = (u, v) ∨ (c, d) = (v, u)) → rk__law_linked_0 t (EE.turn N) [some (.ref t), some (.ref a), some (.ref b), some (.ref p), some (.tup (.int (u : Nat) :: .int (v : Nat) :: rest)), some (.tup (.int (c : Nat) :: .int (d : Nat) :: rst))] (put st p (.lst (ls.map (lkD ps)))) := by
      intro rst c d EE hc hd he
      have kc : (ps.map D.str)[c]? = some (.str (nm ps c)) := by rw [List.getElem?_map, nm_get hc]; rfl
      have kd : (ps.map D.str)[d]? = some (.str (nm ps d)) := by rw [List.getElem?_map, nm_get hd]; rfl
      rw [ru__law_linked_0]
      simp [d0, d1, z_ixL ga2 kc, z_ixL ga2 kd, sizeLine_eq]
      intro w i' j'
      rw [z_append put_same la, put_put]
      exact fin _ c d hc hd he w i' j'
    simp [tripD, d0, d1]
    intro r _ _
    split
    · exact ⟨by rw [sizeLine_eq]; omega, hJ [] v u _ b2.2 b2.1 (.inr rfl)⟩
    · exact hJ rest u v _ b2.1 b2.2 (.inl rfl)
  · obtain ⟨o4, o5, ls, rfl, rfl, fl, ll, lb⟩ := hQ
    rw [List.length_map] at ll fl
    rw [List.take_length] at fl
    have ga2 : getL (put st p (.lst (ls.map (lkD ps)))) a = some (ps.map .str) := by rw [getL_ne nap]; exact ga
    simp [z_tuple ga2, sizeLine_eq]
    refine ⟨_, Sub.refl _, ?_⟩
    rw [z_tuple getL_self]
    exact ⟨_, Sub.refl _, st, Sub.put hp, h ls ⟨pl, n1, so, by omega, lb⟩ fl⟩
end K11
-- text K11P13
set_option Elab.async false
set_option linter.all false
set_option maxRecDepth 100000
set_option maxHeartbeats 2000000
set_option exponentiation.threshold 10000
/-! K11P13 -/
namespace K11
open PySem PySem.Spec PyProof.Rows L2 DL DR DG
theorem sizeDs_le {xs : List D} {k : Nat} (h : ∀ d ∈ xs, sizeD d ≤ k) : sizeDs xs ≤ xs.length * k := by
  induction xs with
  | nil => simp [sizeDs]
  | cons x xs ih =>
    have h1 := h x List.mem_cons_self
    have h2 := ih fun d hd => h d (List.mem_cons_of_mem _ hd)
    rw [List.length_cons, Nat.add_mul, Nat.one_mul]
    simp only [sizeDs]
    omega
theorem ints_size (is : List Int) : sizeD (inD is) ≤ is.length + 1 := by
  have := sizeDs_le (xs := is.map D.int) (k := 1) fun d hd => by
    obtain ⟨s, _, rfl⟩ := List.mem_map.mp hd
    simp [sizeD]
  simp [inD, sizeD] at this ⊢
  omega
theorem same_in {is : List Int} {st : Stor} {R : KD} (hl : is.length ≤ 100) (h : R (.bl true) st) : sp__law_same [inD is, inD is] st R := by
  refine ⟨rfl, (okd_in is).1, ?_, ?_, h⟩
  · simp [inD, depDs_ints]
  · have := ints_size is; omega
/-- a tuple of tuples of ints -/
theorem same_ins {ss : List (List Int)} {ds : List D} {st : Stor} {R : KD} (hp : ds.Perm (ss.map inD)) (hl : ss.length ≤ 5000) (hs : ∀ s ∈ ss, s.length ≤ 100) (h : R (.bl true) st) : sp__law_same [.tup ds, .tup ds] st R := by
  have el : ∀ d ∈ ds, ∃ s ∈ ss, d = inD s := fun d hd => by
    obtain ⟨s, hs, e⟩ := List.mem_map.mp (hp.mem_iff.mp hd)
    exact ⟨s, hs, e.symm⟩
  refine ⟨rfl, ?_, ?_, ?_, h⟩
  · show pureDs ds = true
    rw [pureDs_all, List.all_eq_true]
    intro d hd
    obtain ⟨s, _, rfl⟩ := el d hd
    exact (okd_in s).1
  · have : depDs ds ≤ 1 := depDs_le fun d hd => by
      obtain ⟨s, _, rfl⟩ := el d hd
      simp [inD, depDs_ints]
    simp
    omega
  · have := sizeDs_le (xs := ds) (k := 101) fun d hd => by
      obtain ⟨s, h1, rfl⟩ := el d hd
      have := ints_size s
      have := hs s h1
      omega
    have hlen := hp.length_eq
    rw [List.length_map] at hlen
    simp only [sizeD]
    omega
theorem same_int {i : Int} {st : Stor} {R : KD} (h : R (.bl true) st) : sp__law_same [.int i, .int i] st R := by
  refine ⟨rfl, ?_, ?_, ?_, h⟩
  · rfl
  · simp
  · simp [sizeD]
theorem hs__law_asked (t : Addr) : ∀ ds s R, sp__law_asked t ds s R → rd__law_asked t (endsD R) (startD N__law_asked.length ds) s := by
  refine sp2.to fun x y st R h => ?_
  obtain ⟨ps, ls, ss, w, rfl, rfl, so, h⟩ := h
  obtain ⟨gl, l16, ok, t2⟩ := so
  have wl : w.length = ls.length := by rw [ok.l, edges_len]
  have hE : Below ps.length (edges ls) := gl.ed
  have n1 := gl.n1
  have n9 := gl.pl.l
  have hw : ∀ j, j < (edges ls).length → -1 ≤ wf w j := fun j hj => (ok.b _ (wf_mem (by rw [ok.l]; exact hj))).1
  have t1 : 1 ≤ (treesL ps.length (edges ls) w).length := by unfold treesL; rw [List.length_map]; exact (progU_len _ _ _ _).2
  have tk : ∀ T ∈ treesL ps.length (edges ls) w, T.length ≤ 16 ∧ ∀ j ∈ T, j < ls.length ∧ wf w j ≠ 0 := fun T hT => by
    obtain ⟨u1, u2, _⟩ := (prog_trees hE ok.f ok.c hw).mp hT
    have := inc_len u1
    rw [edges_len] at this
    exact ⟨by omega, fun j hj => ⟨by have := u1.2 j hj; rw [edges_len] at this; exact this, u2 j hj⟩⟩
  have sl : (sortD ((treesL ps.length (edges ls) w).map lotD)).length = (treesL ps.length (edges ls) w).length := by rw [(sortD_perm _).length_eq, List.length_map]
  have pick : ∀ k : Nat, k < (treesL ps.length (edges ls) w).length → ∃ T ∈ treesL ps.length (edges ls) w, (sortD ((treesL ps.length (edges ls) w).map lotD))[k]? = some (lotD T) := fun k hk => by
    have e := List.getElem?_eq_getElem (show k < (sortD ((treesL ps.length (edges ls) w).map lotD)).length by omega)
    obtain ⟨T, hT, q⟩ := List.mem_map.mp ((sortD_perm _).mem_iff.mp (List.mem_of_getElem? e))
    exact ⟨T, hT, by rw [e, q]⟩
  have sm : ∀ {S : Stor} {R' : KD}, R' (.bl true) S → sp__law_same [treesD ps.length (edges ls) w, treesD ps.length (edges ls) w] S R' := fun hR => by
    unfold treesD
    refine same_ins (ss := (treesL ps.length (edges ls) w).map nI) (by rw [← lots_in]; exact sortD_perm _) (by rw [List.length_map]; omega) (fun s hs => ?_) hR
    obtain ⟨T, hT, rfl⟩ := List.mem_map.mp hs
    have := (tk T hT).1
    unfold nI
    rw [List.length_map]; omega
  have s0 : ∀ {S : Stor} {R' : KD}, dIx (scD ps ls ss w) (.int 0) S R' = R' (gD ps ls ss) S := fun {_ _} => z_ix0
  have s1 : ∀ {S : Stor} {R' : KD}, dIx (scD ps ls ss w) (.int 1) S R' = R' (inD w) S := fun {_ _} => z_ix1
  have s2 : ∀ {S : Stor} {R' : KD}, dIx (scD ps ls ss w) (.int 2) S R' = R' (treesD ps.length (edges ls) w) S := fun {_ _} => z_ix2
  have lT : ∀ {S : Stor} {R' : KD}, dLen [treesD ps.length (edges ls) w] S R' = R' (.int ((treesL ps.length (edges ls) w).length : Nat)) S := fun {_ _} => by unfold treesD; rw [y_lenT, sl]
  rw [st__law_asked]; unfold rd__law_asked
  simp [s0, s1, s2]
  refine ⟨ps, ls, ss, w, rfl, rfl, gl, l16, ok, sm ?_⟩
  simp [s0, s1, s2]
  refine loop_keep (fun i ρ => ∃ o4 o5 o6 o7 o8 o9 : Option D, ρ = [some (.ref t), some (scD ps ls ss w), some (gD ps ls ss), some (treesD ps.length (edges ls) w), o4, o5, o6, o7, o8, o9]) ⟨none, none, none, none, none, none, rfl⟩ trivial (fun i x ρ hx hQ N hN => ?_) fun ρ hQ => ?_
  · obtain ⟨o4, o5, o6, o7, o8, o9, rfl⟩ := hQ
    simp [s0, s1, s2, lT]
    refine ⟨by omega, by omega, fun r r0 r1 => ?_⟩
    obtain ⟨k, rfl⟩ := Int.eq_ofNat_of_zero_le r0
    obtain ⟨T, hT, hk⟩ := pick k (by omega)
    have zT : ∀ {S : Stor} {R' : KD}, dIx (treesD ps.length (edges ls) w) (.int (k : Nat)) S R' = R' (lotD T) S := fun {_ _} => by unfold treesD; exact z_ixT hk
    obtain ⟨T16, Tb⟩ := tk T hT
    rw [zT]
    refine ⟨w, T, rfl, rfl, fun j hj => ⟨by rw [wl]; exact (Tb j hj).1, (Tb j hj).2⟩, ok.b, ?_⟩
    simp [s1]
    refine ⟨w, T, rfl, rfl, fun j hj => by rw [wl]; exact (Tb j hj).1, ok.b, same_int ?_⟩
    simp
    refine ⟨by omega, by omega, fun a a0 a1 => ⟨by omega, by omega, fun b b0 b1 => ⟨by rw [sizeLine_eq]; omega, by rw [sizeLine_eq]; omega, ?_⟩⟩⟩
    obtain ⟨a, rfl⟩ := Int.eq_ofNat_of_zero_le a0
    obtain ⟨b, rfl⟩ := Int.eq_ofNat_of_zero_le b0
    have e3 : ((ps.length : Nat) : Int) - 1 = ((ps.length - 1 : Nat) : Int) := by omega
    rw [e3]
    have hit : ∀ x ∈ [D.tup [.int (a : Nat), .int (b : Nat)], .tup [.int (b : Nat), .int (a : Nat)], .tup [.int (a : Nat), .int (a : Nat)], .tup [.int ((0 : Nat) : Int), .int ((ps.length - 1 : Nat) : Int)]], ∃ c d : Nat, c < ps.length ∧ d < ps.length ∧ x = .tup [.int (c : Nat), .int (d : Nat)] := fun x hx => by
      simp only [List.mem_cons, List.mem_nil_iff, or_false] at hx
      rcases hx with rfl | rfl | rfl | rfl
      · exact ⟨a, b, by omega, by omega, rfl⟩
      · exact ⟨b, a, by omega, by omega, rfl⟩
      · exact ⟨a, a, by omega, by omega, rfl⟩
      · exact ⟨0, ps.length - 1, by omega, by omega, rfl⟩
    refine loop_keep (fun i ρ => ∃ o8 o9 : Option D, ρ = [some (.ref t), some (scD ps ls ss w), some (gD ps ls ss), some (treesD ps.length (edges ls) w), some x, some (lotD T), some (.int (a : Nat)), some (.int (b : Nat)), o8, o9]) ⟨o8, o9, rfl⟩ trivial (fun i y ρ hy hQ M hM => ?_) fun ρ hQ => ?_
    · obtain ⟨o8, o9, rfl⟩ := hQ
      obtain ⟨c, d, hc, hd, rfl⟩ := hit y (List.mem_of_getElem? hy)
      simp
      refine ⟨ps, ls, ss, T, c, d, rfl, rfl, rfl, rfl, gl, by omega, fun j hj => (Tb j hj).1, hc, hd, ?_⟩
      have nx : ∀ {q : Nat} {S : Stor} {R' : KD}, q < ps.length → dIx (stD ps) (.int (q : Nat)) S R' = R' (.str (nm ps q)) S := fun {_ _ _} hq => z_ixT (by rw [List.getElem?_map, nm_get hq]; rfl)
      simp [nx hc, nx hd]
      refine ⟨ps, ls, ss, T, c, d, rfl, rfl, rfl, rfl, gl, by omega, fun j hj => (Tb j hj).1, hc, hd, same_in (by unfold flowL; rw [List.length_map, List.length_range, edges_len]; omega) ?_⟩
      simp
      exact hM _ _ (Sub.refl _) ⟨_, _, rfl⟩
    · obtain ⟨o8, o9, rfl⟩ := hQ
      simp
      exact hN _ _ (Sub.refl _) ⟨_, _, _, _, _, _, rfl⟩
  · obtain ⟨o4, o5, o6, o7, o8, o9, rfl⟩ := hQ
    simp
    exact ⟨st, Sub.refl _, h⟩
end K11
-- text K11P14
set_option Elab.async false
set_option linter.all false
set_option maxRecDepth 100000
set_option maxHeartbeats 2000000
set_option exponentiation.threshold 10000
/-! K11P14 -/
namespace K11
open PySem PySem.Spec PyProof.Rows L2 DL DR DG
theorem build_whole {n : Nat} {E : Edges} (h : Build n E) (n1 : 1 ≤ n) : Whole n E := by
  obtain ⟨ord, hp, hb⟩ := h
  have ol : ord.length = n := by rw [hp.length_eq, List.length_range]
  have h0 := List.getElem?_eq_getElem (show 0 < ord.length by omega)
  generalize ord[0]'(by omega) = x0 at h0
  have main : ∀ (m k x : Nat), k ≤ m → ord[k]? = some x → Conn E x0 x := by
    intro m
    induction m with
    | zero =>
      intro k x hk hx
      have : k = 0 := by omega
      subst this
      rw [h0] at hx
      cases hx
      exact .refl _
    | succ m ih =>
      intro k x hk hx
      by_cases q : k = 0
      · exact ih k x (by omega) hx
      · obtain ⟨j, y, hj, hy, ha⟩ := hb k x (by omega) hx
        exact (ih j y (by omega) hy).trans (Conn.one ha).symm
  have all : ∀ x, x < n → Conn E x0 x := fun x hx => by
    obtain ⟨k, hk⟩ := List.mem_iff_getElem?.mp (hp.mem_iff.mpr (List.mem_range.mpr hx))
    exact main k k x (Nat.le_refl _) hk
  exact fun x hx => (all 0 (by omega)).symm.trans (all x hx)
def pickW (v : Int) (w : List Int) : List Nat := (List.range w.length).filter fun j => decide (wf w j = v)
theorem wf_app {w : List Int} {x : Int} {j : Nat} (h : j < w.length) : wf (w ++ [x]) j = wf w j := by
  unfold wf; rw [List.getElem?_append_left h]
theorem wf_last {w : List Int} {x : Int} : wf (w ++ [x]) w.length = x := by
  unfold wf; simp
theorem pickW_snoc {v : Int} {w : List Int} {x : Int} : pickW v (w ++ [x]) = pickW v w ++ if x = v then [w.length] else [] := by
  unfold pickW
  rw [List.length_append, List.length_singleton, pick_succ, wf_last]
  congr 1
  · refine List.filter_congr fun j hj => ?_
    rw [wf_app (List.mem_range.mp hj)]
  · simp
theorem pickW_len (v : Int) (w : List Int) : (pickW v w).length ≤ w.length := Nat.le_trans (List.length_filter_le _ _) (by simp)
theorem mem_pickW {v : Int} {w : List Int} {j : Nat} : j ∈ pickW v w ↔ j < w.length ∧ wf w j = v := by unfold pickW; rw [List.mem_filter, List.mem_range, decide_eq_true_iff]
structure WI (n : Nat) (E : Edges) (i : Nat) (w : List Int) : Prop where
  l : w.length = i
  b : ∀ x ∈ w, -1 ≤ x ∧ x ≤ 1000000000000
  f : Forest n (eT E (pickW (-1) w))
  c : Whole n (dropE E (pickW 0 w))
theorem WI.done {n : Nat} {E : Edges} {w : List Int} (h : WI n E E.length w) : WOk n E w := by
  have e1 : rigT E (wf w) = pickW (-1) w := by unfold rigT pickW; rw [h.l]
  have e2 : absT E (wf w) = pickW 0 w := by unfold absT pickW; rw [h.l]
  exact ⟨h.l, h.b, by rw [e1]; exact h.f, by rw [e2]; exact h.c⟩
theorem WI.start {n : Nat} {E : Edges} (hb : Build n E) (n1 : 1 ≤ n) : WI n E 0 [] := by
  refine ⟨rfl, (fun x hx => by cases hx), ?_, ?_⟩
  · have : eT E (pickW (-1) []) = [] := by simp [pickW, eT]
    rw [this]; exact forest_nil n
  · have e0 : pickW 0 [] = [] := by simp [pickW]
    rw [e0]
    have em : ∀ f, f ∈ E ↔ f ∈ dropE E [] := fun f => by
      rw [mem_dropE]
      constructor
      · intro hf
        obtain ⟨j, hj⟩ := List.mem_iff_getElem?.mp hf
        exact ⟨j, by simp, hj⟩
      · rintro ⟨j, _, hj⟩; exact List.mem_of_getElem? hj
    exact fun x hx => (conn_mem em 0 x).mp (build_whole hb n1 x hx)
theorem WI.worth {n : Nat} {E : Edges} {i : Nat} {w : List Int} {x : Int} (h : WI n E i w) (h1 : 1 ≤ x) (h2 : x ≤ 1000000000000) : WI n E (i + 1) (w ++ [x]) := by
  refine ⟨by simp [h.l], fun y hy => ?_, ?_, ?_⟩
  · rcases List.mem_append.mp hy with hy | hy
    · exact h.b y hy
    · rw [List.mem_singleton.mp hy]; omega
  · rw [pickW_snoc, if_neg (by omega), List.append_nil]; exact h.f
  · rw [pickW_snoc, if_neg (by omega), List.append_nil]; exact h.c
theorem WI.zero {n : Nat} {E : Edges} {i : Nat} {w : List Int} (h : WI n E i w) (hc : Whole n (dropE E (pickW 0 w ++ [i]))) : WI n E (i + 1) (w ++ [0]) := by
  refine ⟨by simp [h.l], fun y hy => ?_, ?_, ?_⟩
  · rcases List.mem_append.mp hy with hy | hy
    · exact h.b y hy
    · rw [List.mem_singleton.mp hy]; omega
  · rw [pickW_snoc, if_neg (by omega), List.append_nil]; exact h.f
  · rw [pickW_snoc, if_pos rfl, h.l]; exact hc
theorem WI.rigid {n : Nat} {E : Edges} {i : Nat} {w : List Int} {a b : Nat} (h : WI n E i w) (hE : Below n E) (he : E[i]? = some (a, b)) (hc : ¬ Conn (eT E (pickW (-1) w)) a b) : WI n E (i + 1) (w ++ [-1]) := by
  have hb := hE _ (List.mem_of_getElem? he)
  refine ⟨by simp [h.l], fun y hy => ?_, ?_, ?_⟩
  · rcases List.mem_append.mp hy with hy | hy
    · exact h.b y hy
    · rw [List.mem_singleton.mp hy]; omega
  · rw [pickW_snoc, if_pos rfl, h.l, eT_app, eT_one he]
    exact (forest_snoc (eT_below hE _) hb.1 hb.2).mpr ⟨h.f, hc⟩
  · rw [pickW_snoc, if_neg (by omega), List.append_nil]; exact h.c
def bndI (w : List Int) (k : Nat) : List Int := ((List.range k).filter fun j => decide (j ∉ pickW (-1) w)).map fun (j : Nat) => (j : Int)
theorem bndI_succ {w : List Int} {k : Nat} : bndI w (k + 1) = bndI w k ++ if k ∉ pickW (-1) w then [(k : Int)] else [] := by
  unfold bndI
  rw [List.range_succ, List.filter_append, List.map_append]
  by_cases h : k ∈ pickW (-1) w <;> simp [h]
theorem bndI_len (w : List Int) (k : Nat) : (bndI w k).length ≤ k := by
  unfold bndI
  rw [List.length_map]
  exact Nat.le_trans (List.length_filter_le _ _) (by simp)
theorem live_bnd {E : Edges} {w : List Int} (e : Nat × Nat) : e ∈ live E (bndI w E.length) E.length ↔ e ∈ eT E (pickW (-1) w) := by
  rw [mem_live, mem_eT]
  have mb : ∀ j : Nat, (j : Int) ∈ bndI w E.length ↔ j < E.length ∧ j ∉ pickW (-1) w := fun j => by
    unfold bndI
    rw [List.mem_map]
    constructor
    · rintro ⟨a, h, q⟩
      have : a = j := by omega
      subst this
      obtain ⟨h1, h2⟩ := List.mem_filter.mp h
      exact ⟨List.mem_range.mp h1, of_decide_eq_true h2⟩
    · rintro ⟨h1, h2⟩
      exact ⟨j, List.mem_filter.mpr ⟨List.mem_range.mpr h1, decide_eq_true h2⟩, rfl⟩
  constructor
  · rintro ⟨j, h1, h2, h3⟩
    rw [mb] at h3
    refine ⟨j, ?_, h2⟩
    by_cases q : j ∈ pickW (-1) w
    · exact q
    · exact absurd ⟨h1, q⟩ h3
  · rintro ⟨j, h1, h2⟩
    exact ⟨j, (List.getElem?_eq_some_iff.mp h2).1, h2, fun z => ((mb j).mp z).2 h1⟩
theorem hs__law_wiring (t : Addr) : ∀ ds s R, sp__law_wiring t ds s R → rd__law_wiring t (endsD R) (startD N__law_wiring.length ds) s := by
  refine sp2.to fun x y st R h => ?_
  obtain ⟨ps, ls, ss, rfl, rfl, gl, l20, hb, h⟩ := h
  have hE : Below ps.length (edges ls) := gl.ed
  have n1 := gl.n1
  have n9 := gl.pl.l
  rw [st__law_wiring]; unfold rd__law_wiring
  simp [sizeLine_eq]
  refine ⟨ps, ls, ss, rfl, gl, fun e he => ?_⟩
  intro o ho r hr v hv
  rw [put_is_none] at ho
  rw [put_is_none, put_is_none] at hr
  rw [put_is_none, put_is_none, put_is_none] at hv
  have le : ((edges ls).map pairD).length = ls.length := by rw [List.length_map, edges_len]
  refine Eq.mpr (z_len (xs := (edges ls).map pairD) (getL_some (by rw [put_ne hv.2.2.1.symm, put_ne hr.2.1.symm, put_ne ho.1.symm]; exact put_same))) ?_
  rw [le]
  refine ⟨by omega, loop_any (fun i ρ s' => ∃ (o7 o8 o9 o11 : Option D) (w : List Int), ρ = [some (.ref t), some (gD ps ls ss), some (.int (ps.length : Nat)), some (.ref e), some (.ref o), some (.ref r), some (.ref v), o7, o8, o9, none, o11] ∧ DL.Sub st s' ∧ s' e = some (.lst ((edges ls).map pairD)) ∧ s' o = some (.lst (natsD (pickW 0 w))) ∧ s' r = some (.lst (natsD (pickW (-1) w))) ∧ s' v = some (.lst (w.map .int)) ∧ WI ps.length (edges ls) i w)
    ⟨none, none, none, none, [], rfl, (((Sub.put he).putN ho.2).putN hr.2.2).putN hv.2.2.2, by rw [put_ne hv.2.2.1.symm, put_ne hr.2.1.symm, put_ne ho.1.symm]; exact put_same, by rw [put_ne hv.2.1.symm, put_ne hr.1.symm]; exact put_same, by rw [put_ne hv.1.symm]; exact put_same, put_same, WI.start hb n1⟩ (fun _ _ _ _ => trivial) (fun i x ρ s' hx hP N hN => ?_) fun ρ s' hP => ?_⟩
  · obtain ⟨o7, o8, o9, o11, w, rfl, sub, se, so, sr, sv, hW⟩ := hP
    obtain ⟨hi, rfl⟩ := rangeD_get hx
    have hi : i < ls.length := by simpa using hi
    have hl := List.getElem?_eq_getElem hi
    have lb := gl.lb _ (List.mem_of_getElem? hl)
    generalize ls[i] = l at hl lb
    have eE : (edges ls)[i]? = some (l.a, l.b) := by unfold edges; rw [List.getElem?_map, hl]; rfl
    have wl := hW.l
    simp
    intro kd kd0 kd1
    refine Eq.mpr (z_len (getL_some se)) ?_
    rw [le]
    refine ⟨by omega, fun p hp => ?_⟩
    have nep : e ≠ p := ne_put se hp
    have nop : o ≠ p := ne_put so hp
    have nrp : r ≠ p := ne_put sr hp
    have nvp : v ≠ p := ne_put sv hp
    have nat : ∀ X : List Nat, natsD X = (nI X).map .int := fun X => by unfold natsD nI; rw [List.map_map]; rfl
    refine comp_keep (fun k acc => acc = (bndI w k).map .int) (by rw [rangeD_len, sizeLine_eq]; omega) rfl (fun _ => trivial) (fun k acc q => by subst q; rw [List.length_map]; exact bndI_len w k) (fun k x acc hx hQ Y Z hY hZ => ?_) fun acc hQ => ?_
    · subst hQ
      obtain ⟨hk, rfl⟩ := rangeD_get hx
      have oo : OutOk (put s' p (.lst ((bndI w k).map .int))) (.ref r) (nI (pickW (-1) w)) := .inr ⟨r, rfl, by rw [getL_ne nrp, ← nat]; exact getL_some sr⟩
      rw [bndI_succ] at hY hZ
      generalize put s' p (.lst ((bndI w k).map .int)) = S at hY hZ oo ⊢
      simp [z_notOut oo, mem_nI]
      by_cases c : k ∈ pickW (-1) w
      · simp [c]
        exact hZ _ (Sub.refl _) (by simp [c])
      · simp [c]
        exact hY _ _ (Sub.refl _) (by simp [c])
    subst hQ
    rw [rangeD_len]
    have en : ((ls.length : Int)).toNat = ls.length := by omega
    rw [en]
    refine ⟨ps.length, e, edges ls, bndI w ls.length, rfl, rfl, .inr ⟨p, rfl, getL_self⟩, gl.n1, n9, by rw [getL_ne nep]; exact getL_some se, gl.ed, by rw [edges_len]; exact gl.ll, fun g gs hg hlab => ?_⟩
    rw [put_is_none] at hg
    have F : ∀ S : Stor, DL.Sub s' S → DL.Sub st S ∧ S e = some (.lst ((edges ls).map pairD)) ∧ S o = some (.lst (natsD (pickW 0 w))) ∧ S r = some (.lst (natsD (pickW (-1) w))) ∧ S v = some (.lst (w.map .int)) := fun S h => ⟨sub.trans h, h _ _ se, h _ _ so, h _ _ sr, h _ _ sv⟩
    have plen := pickW_len 0 w
    have plen2 := pickW_len (-1) w
    have zl : (natsD (pickW 0 w)).length < sizeLine := by unfold natsD; rw [List.length_map, sizeLine_eq]; omega
    have rl : (natsD (pickW (-1) w)).length < sizeLine := by unfold natsD; rw [List.length_map, sizeLine_eq]; omega
    have vl : (w.map D.int).length < sizeLine := by rw [List.length_map, sizeLine_eq]; omega
    have gg : getL (put (put s' p (.lst ((bndI w ls.length).map .int))) g (.lst (gs.map .int))) g = some (gs.map .int) := getL_self
    have sb := ((Sub.refl s').putN (c := .lst ((bndI w ls.length).map .int)) hp).putN (c := .lst (gs.map .int)) hg.2
    generalize put (put s' p (.lst ((bndI w ls.length).map .int))) g (.lst (gs.map .int)) = S at gg sb ⊢
    have wor : ∀ S2 : Stor, DL.Sub s' S2 → (∃ xs, getL S2 v = some xs) ∧ sp__law_worth t [.ref t] S2 fun d s1 => dAppend v [d] s1 fun x s1 => N [some (.ref t), some (gD ps ls ss), some (.int (ps.length : Nat)), some (.ref e), some (.ref o), some (.ref r), some (.ref v), some (.int (i : Nat)), some (.int kd), some (.ref p), none, some (.ref g)] s1 := fun S2 h2 => by
      obtain ⟨f1, f2, f3, f4, f5⟩ := F S2 h2
      refine ⟨⟨_, getL_some f5⟩, rfl, fun y y1 y2 => ?_⟩
      refine Eq.mpr (z_append f5 vl) ?_
      refine hN _ _ _ (Sub.refl _) ⟨_, _, _, _, w ++ [y], rfl, f1.putN hv.2.2.2, by rw [put_ne hv.2.2.1.symm]; exact f2, ?_, ?_, by rw [put_same]; simp, hW.worth y1 y2⟩
      · rw [put_ne hv.2.1.symm, pickW_snoc, if_neg (by omega), List.append_nil]; exact f3
      · rw [put_ne hv.1.symm, pickW_snoc, if_neg (by omega), List.append_nil]; exact f4
    have wor1 : ∀ S2 : Stor, DL.Sub s' S2 → ∀ P : Prop, (kd = 1 → P) → (if kd = 1 then P else (∃ xs, getL S2 v = some xs) ∧ sp__law_worth t [.ref t] S2 fun d s1 => dAppend v [d] s1 fun x s1 => N [some (.ref t), some (gD ps ls ss), some (.int (ps.length : Nat)), some (.ref e), some (.ref o), some (.ref r), some (.ref v), some (.int (i : Nat)), some (.int kd), some (.ref p), none, some (.ref g)] s1) := fun S2 h2 P hP => by
      split
      · exact hP ‹_›
      · exact wor S2 h2
    show if kd = 0 then _ else _
    by_cases k0 : kd = 0
    · rw [if_pos k0]
      refine ⟨by rw [sizeLine_eq]; omega, fun a ha => ?_⟩
      obtain ⟨f1, f2, f3, f4, f5⟩ := F (put S a (.lst [.int (i : Nat)])) (sb.trans (Sub.put ha))
      rw [y_addL]
      refine ⟨_, _, f3, put_same, by rw [List.length_singleton]; omega, fun c hc => ?_⟩
      have sb2 : DL.Sub s' (put (put S a (.lst [.int (i : Nat)])) c (.lst (natsD (pickW 0 w) ++ [.int (i : Nat)]))) := (sb.trans (Sub.put ha)).trans (Sub.put hc)
      have gc : getL (put (put S a (.lst [.int (i : Nat)])) c (.lst (natsD (pickW 0 w) ++ [.int (i : Nat)]))) c = some ((nI (pickW 0 w ++ [i])).map .int) := by rw [getL_self, nat]; simp [nI]
      generalize put (put S a (.lst [.int (i : Nat)])) c (.lst (natsD (pickW 0 w) ++ [.int (i : Nat)])) = S2 at sb2 gc ⊢
      obtain ⟨f1, f2, f3, f4, f5⟩ := F S2 sb2
      refine ⟨ps.length, e, edges ls, nI (pickW 0 w ++ [i]), rfl, rfl, .inr ⟨c, rfl, gc⟩, gl.n1, n9, getL_some f2, gl.ed, by rw [edges_len]; exact gl.ll, ?_⟩
      rw [whole_live]
      by_cases hw2 : wholeB ps.length (dropE (edges ls) (pickW 0 w ++ [i])) = true
      · rw [hw2]
        simp
        refine ⟨⟨_, getL_some f3⟩, ?_⟩
        refine Eq.mpr (z_append f3 zl) ⟨⟨_, getL_some (by rw [put_ne hv.2.1]; exact f5)⟩, ?_⟩
        refine Eq.mpr (z_append (by rw [put_ne hv.2.1]; exact f5) vl) ?_
        refine hN _ _ _ (Sub.refl _) ⟨_, _, _, _, w ++ [0], rfl, (f1.putN ho.2).putN hv.2.2.2, by rw [put_ne hv.2.2.1.symm, put_ne ho.1.symm]; exact f2, ?_, ?_, by rw [put_same]; simp, hW.zero (wholeB_iff.mp hw2)⟩
        · rw [put_ne hv.2.1.symm, put_same, pickW_snoc, if_pos rfl, wl]; simp [natsD]
        · rw [put_ne hv.1.symm, put_ne hr.1, pickW_snoc, if_neg (by omega), List.append_nil]; exact f4
      · rw [Bool.not_eq_true] at hw2
        rw [hw2]
        simp
        exact wor1 S2 sb2 _ fun z => by omega
    · rw [if_neg k0]
      split
      · obtain ⟨f1, f2, f3, f4, f5⟩ := F S sb
        have gi : ((edges ls).map pairD)[i]? = some (pairD (l.a, l.b)) := by rw [List.getElem?_map, eE]; rfl
        obtain ⟨y1, q1⟩ : ∃ w, gs[l.a]? = some w := ⟨gs[l.a]'(by rw [hlab.1]; exact lb.1), List.getElem?_eq_getElem _⟩
        obtain ⟨y2, q2⟩ : ∃ w, gs[l.b]? = some w := ⟨gs[l.b]'(by rw [hlab.1]; exact lb.2), List.getElem?_eq_getElem _⟩
        have q1' : (gs.map D.int)[l.a]? = some (.int y1) := by rw [List.getElem?_map, q1]; rfl
        have q2' : (gs.map D.int)[l.b]? = some (.int y2) := by rw [List.getElem?_map, q2]; rfl
        have hrg : y1 = y2 ↔ Conn (eT (edges ls) (pickW (-1) w)) l.a l.b := by
          have hlab2 : Labels ps.length gs (live (edges ls) (bndI w (edges ls).length) (edges ls).length) := by rw [edges_len] at hlab ⊢; exact hlab
          rw [← conn_mem (fun e => live_bnd (w := w) e) l.a l.b, ← hlab2.2 l.a l.b lb.1 lb.2, q1, q2]
          exact ⟨fun e => by rw [e], fun e => Option.some.inj e⟩
        simp [z_ixL (getL_some f2) gi, pairD, z_ixL gg q1', z_ixL gg q2']
        by_cases c : y1 = y2
        · simp [c]
          exact wor S sb
        · simp [c]
          refine ⟨⟨_, getL_some f4⟩, ?_⟩
          refine Eq.mpr (z_append f4 rl) ⟨⟨_, getL_some (by rw [put_ne hv.1]; exact f5)⟩, ?_⟩
          refine Eq.mpr (z_append (by rw [put_ne hv.1]; exact f5) vl) ?_
          refine hN _ _ _ (Sub.refl _) ⟨_, _, _, _, w ++ [-1], rfl, (f1.putN hr.2.2).putN hv.2.2.2, by rw [put_ne hv.2.2.1.symm, put_ne hr.2.1.symm]; exact f2, ?_, ?_, by rw [put_same]; simp, hW.rigid hE eE fun z => c (hrg.mpr z)⟩
          · rw [put_ne hv.2.1.symm, put_ne hr.1.symm, pickW_snoc, if_neg (by omega), List.append_nil]; exact f3
          · rw [put_ne hv.1.symm, put_same, pickW_snoc, if_pos rfl, wl]; simp [natsD]
      · exact wor S sb
  · obtain ⟨o7, o8, o9, o11, w, rfl, sub, se, so, sr, sv, hW⟩ := hP
    rw [rangeD_len] at hW
    have en : ((ls.length : Int)).toNat = ls.length := by omega
    rw [en, ← edges_len (ls := ls)] at hW
    simp
    refine Eq.mpr (z_tuple (getL_some sv)) ?_
    exact ⟨st, sub, _, Sub.refl _, h w hW.done⟩
end K11
-- text K11P15
set_option Elab.async false
set_option linter.all false
set_option maxRecDepth 100000
set_option maxHeartbeats 2000000
set_option exponentiation.threshold 10000
/-! K11P15 -/
namespace K11
open PySem PySem.Spec PyProof.Rows L2 DL DR DG
/-- the ring along an order -/
def ringE (ord : List Nat) (n : Nat) : Edges := (List.range n).map fun k => (ord[k]?.getD 0, ord[(k + 1) % n]?.getD 0)
theorem hs__law_ring (t : Addr) : ∀ ds s R, sp__law_ring t ds s R → rd__law_ring t (endsD R) (startD N__law_ring.length ds) s := by
  refine sp2.to fun x y st R h => ?_
  obtain ⟨n, rfl, rfl, n3, n9, h⟩ := h
  rw [st__law_ring]; unfold rd__law_ring
  simp [sizeLine_eq]
  refine ⟨n, rfl, rfl, by omega, fun o ord ho hord => ?_⟩
  have ol : ord.length = n := by rw [hord.length_eq, List.length_range]
  have ob : ∀ k, k < n → ∃ x, ord[k]? = some x ∧ x < n := fun k hk => by
    have e := List.getElem?_eq_getElem (show k < ord.length by omega)
    exact ⟨_, e, List.mem_range.mp (hord.mem_iff.mp (List.mem_of_getElem? e))⟩
  have og : ∀ k, k < n → ord[k]? = some (ord[k]?.getD 0) ∧ ord[k]?.getD 0 < n := fun k hk => by
    obtain ⟨x, e, hx⟩ := ob k hk
    rw [e]; exact ⟨rfl, hx⟩
  have rlen : (ringE ord n).length = n := by simp [ringE]
  have rget : ∀ k, k < n → (ringE ord n)[k]? = some (ord[k]?.getD 0, ord[(k + 1) % n]?.getD 0) := fun k hk => by
    unfold ringE
    rw [List.getElem?_map, List.getElem?_range hk]; rfl
  have og1 : ∀ k, k < n → (natsD ord)[k]? = some (.int ((ord[k]?.getD 0 : Nat) : Int)) := fun k hk => by
    unfold natsD
    rw [List.getElem?_map, (og k hk).1]; rfl
  refine ⟨by omega, fun p hp => ?_⟩
  have nop : o ≠ p := ne_put put_same hp
  refine comp_keep (fun k acc => acc = ((ringE ord n).take k).map pairD) (by rw [rangeD_len, sizeLine_eq]; omega) rfl (fun _ => trivial) (fun k acc q => by subst q; rw [List.length_map]; exact List.length_take_le _ _) (fun k x acc hx hQ Y Z hY hZ => ?_) fun acc hQ => ?_
  · subst hQ
    obtain ⟨hk, rfl⟩ := rangeD_get hx
    have hk : k < n := by omega
    have km : (k + 1) % n < n := Nat.mod_lt _ (by omega)
    rw [take_snoc (rget k hk)] at hY
    have go : getL (put (put st o (.lst (natsD ord))) p (.lst (((ringE ord n).take k).map pairD))) o = some (natsD ord) := by rw [getL_ne nop]; exact getL_self
    generalize put (put st o (.lst (natsD ord))) p (.lst (((ringE ord n).take k).map pairD)) = S at go hY ⊢
    have em : ((k : Int) + 1) % (n : Int) = (((k + 1) % n : Nat) : Int) := by push_cast; rfl
    simp [z_ixL go (og1 k hk), sizeLine_eq, dInt]
    rw [z_mod (by omega), em, z_ixL go (og1 _ km)]
    exact hY _ _ (Sub.refl _) (by simp [pairD])
  · subst hQ
    rw [rangeD_len, List.take_of_length_le (Nat.le_of_eq rlen)]
    refine ⟨(n : Int), rfl, rfl, by omega, by omega, fun q xs hq xl xn => sort_names hq xl xn fun q2 qs s2 sub2 sq q0 qn ql qso => ⟨n, rfl, rfl, by omega, fun u is hu his => Eq.mpr (z_seq getL_self) fun v hv => ?_⟩⟩
    have sp2 : s2 p = some (.lst ((ringE ord n).map pairD)) := sub2 _ _ put_same
    have npu : p ≠ u := ne_put sp2 hu
    rw [put_is_none] at hv
    have npv : p ≠ v := fun z => by subst z; rw [hv.2] at sp2; cases sp2
    have nqu : q2 ≠ u := ne_put sq hu
    have nqv : q2 ≠ v := fun z => by subst z; rw [hv.2] at sq; cases sq
    have il : is.length = n := by rw [his.length_eq, List.length_range]
    have nl : (natsD is).length = n := by unfold natsD; rw [List.length_map, il]
    have el : ∀ j, j < n → (ringE ord n)[j]? = some ((ringE ord n)[j]?.getD (0, 0)) := fun j hj => by rw [rget j hj]; rfl
    have eb : ∀ j, j < n → ((ringE ord n)[j]?.getD (0, 0)).1 < n ∧ ((ringE ord n)[j]?.getD (0, 0)).2 < n := fun j hj => by
      rw [rget j hj]
      exact ⟨(og j hj).2, (og _ (Nat.mod_lt _ (by omega))).2⟩
    refine comp_keep (fun k acc => acc = (is.take k).map fun j => pairD ((ringE ord n)[j]?.getD (0, 0))) (by rw [nl, sizeLine_eq]; omega) rfl (fun acc => by rw [getL_ne hv.1.symm]; exact getL_self) (fun k acc q => by subst q; rw [List.length_map]; exact List.length_take_le _ _) (fun k x acc hx hQ Y Z hY hZ => ?_) fun acc hQ => ?_
    · subst hQ
      obtain ⟨j, hj, rfl⟩ : ∃ n : Nat, is[k]? = some n ∧ .int (n : Int) = x := by simpa [natsD] using hx
      have jn : j < n := List.mem_range.mp (his.mem_iff.mp (List.mem_of_getElem? hj))
      rw [take_snoc hj] at hY
      have gp : getL (put (put s2 u (.lst (natsD is))) v (.lst ((is.take k).map fun j => pairD ((ringE ord n)[j]?.getD (0, 0))))) p = some ((ringE ord n).map pairD) := by rw [getL_ne npv, getL_ne npu]; exact getL_some sp2
      generalize put (put s2 u (.lst (natsD is))) v (.lst ((is.take k).map fun j => pairD ((ringE ord n)[j]?.getD (0, 0)))) = S at gp hY ⊢
      have e : ((ringE ord n).map pairD)[j]? = some (pairD ((ringE ord n)[j]?.getD (0, 0))) := by
        rw [List.getElem?_map]
        exact congrArg (Option.map pairD) (el j jn)
      simp [z_ixL gp e]
      exact hY _ _ (Sub.refl _) (by simp)
    · subst hQ
      rw [nl, ← il, List.take_length]
      have ib : ∀ j ∈ is, j < n := fun j hj => List.mem_range.mp (his.mem_iff.mp hj)
      refine ⟨qs, q2, v, is.map fun j => (((ringE ord n)[j]?.getD (0, 0)).1, ((ringE ord n)[j]?.getD (0, 0)).2, []), rfl, rfl, rfl, by rw [getL_ne nqv, getL_ne nqu]; exact getL_some sq, by rw [getL_self, List.map_map, il]; rfl, ⟨qn, by omega⟩, by omega, qso, by rw [List.length_map]; omega, fun r hr => ?_, fun ls gls fl => ?_⟩
      · obtain ⟨j, hj, rfl⟩ := List.mem_map.mp hr
        have := eb j (ib j hj)
        exact ⟨by simp only; omega, by simp only; omega⟩
      · have hs : DL.Sub st (put (put s2 u (.lst (natsD is))) v (.lst (is.map fun j => pairD ((ringE ord is.length)[j]?.getD (0, 0))))) := by
          have h1 : DL.Sub st s2 := ((Sub.put ho).putN (put_is_none.mp hp).2).trans sub2
          exact (h1.putN (sub_none h1 hu)).putN (sub_none h1 hv.2)
        have em : ((List.range n).map fun j => (ringE ord n)[j]?.getD (0, 0)) = ringE ord n := by
          refine List.ext_getElem? fun k => ?_
          rw [List.getElem?_map]
          by_cases hk : k < n
          · rw [List.getElem?_range hk]
            exact (el k hk).symm
          · rw [List.getElem?_eq_none (by rw [List.length_range]; omega), List.getElem?_eq_none (by rw [rlen]; omega)]; rfl
        have hp2 : (is.map fun j => (ringE ord n)[j]?.getD (0, 0)).Perm (ringE ord n) := by
          have := his.map (fun j => (ringE ord n)[j]?.getD (0, 0))
          rw [em] at this
          exact this
        have fl2 : Flip (edges ls) (is.map fun j => (ringE ord n)[j]?.getD (0, 0)) := by
          rw [List.map_map] at fl
          exact fl
        exact ⟨st, hs, h qs ls gls (by omega) ⟨ord, _, hord, hp2, fl2⟩⟩
end K11
-- text DGW
set_option Elab.async false
set_option linter.all false
set_option maxRecDepth 100000
set_option maxHeartbeats 2000000
/-! DGW: how many choices of k links leave a forest -/
namespace DG
open Classical in
noncomputable def cnt (n : Nat) : Edges → Edges → Nat → Nat
  | [], F, 0 => if Forest n F then 1 else 0
  | [], _, _ + 1 => 0
  | _ :: E, F, 0 => cnt n E F 0
  | e :: E, F, k + 1 => cnt n E F (k + 1) + cnt n E (F ++ [e]) k
theorem cnt_perm {n : Nat} : ∀ (E : Edges) {F G : Edges} (k : Nat), F.Perm G → cnt n E F k = cnt n E G k
  | [], F, G, 0, h => by
    have e : Forest n F ↔ Forest n G := forest_perm h
    simp only [cnt]
    by_cases q : Forest n F
    · rw [if_pos q, if_pos (e.mp q)]
    · rw [if_neg q, if_neg fun z => q (e.mpr z)]
  | [], F, G, k + 1, h => rfl
  | e :: E, F, G, 0, h => by simp only [cnt]; exact cnt_perm E 0 h
  | e :: E, F, G, k + 1, h => by simp only [cnt]; rw [cnt_perm E (k + 1) h, cnt_perm E k (h.append_right [e])]
theorem cnt_zero {n : Nat} : ∀ (E : Edges) {F : Edges}, cnt n E F 0 = cnt n [] F 0
  | [], F => rfl
  | e :: E, F => by simp only [cnt]; exact cnt_zero E
theorem cnt_swap {n : Nat} {E E' : Edges} (h : E.Perm E') : ∀ (F : Edges) (k : Nat), cnt n E F k = cnt n E' F k := by
  induction h with
  | nil => intro F k; rfl
  | cons e _ ih => intro F k; cases k with
    | zero => simp only [cnt]; exact ih F 0
    | succ k => simp only [cnt]; rw [ih F (k + 1), ih (F ++ [e]) k]
  | swap a b E => intro F k; match k with
    | 0 => simp only [cnt]
    | 1 => simp only [cnt]; omega
    | k + 2 =>
      simp only [cnt]
      have : cnt n E (F ++ [a] ++ [b]) k = cnt n E (F ++ [b] ++ [a]) k := cnt_perm E k (by
        rw [List.append_assoc, List.append_assoc]
        exact List.Perm.append_left F (List.Perm.swap b a []))
      omega
  | trans _ _ i1 i2 => intro F k; rw [i1, i2]
/-- lists of links, some of them turned round -/
inductive FlipR : Edges → Edges → Prop
  | nil : FlipR [] []
  | cons {e f : Nat × Nat} {E F : Edges} : (e = f ∨ e = (f.2, f.1)) → FlipR E F → FlipR (e :: E) (f :: F)
theorem FlipR.length {E F : Edges} (h : FlipR E F) : E.length = F.length := by
  induction h with
  | nil => rfl
  | cons _ _ ih => simp [ih]
theorem FlipR.adj {E F : Edges} (h : FlipR E F) (x y : Nat) : Adj E x y ↔ Adj F x y := by
  induction h with
  | nil => exact Iff.rfl
  | @cons e f E F q _ ih =>
    unfold Adj at ih ⊢
    simp only [List.mem_cons]
    obtain ⟨c, d⟩ := f
    rcases q with rfl | rfl
    · constructor
      · rintro ((z | z) | (z | z))
        · exact .inl (.inl z)
        · exact (ih.mp (.inl z)).elim (fun z => .inl (.inr z)) fun z => .inr (.inr z)
        · exact .inr (.inl z)
        · exact (ih.mp (.inr z)).elim (fun z => .inl (.inr z)) fun z => .inr (.inr z)
      · rintro ((z | z) | (z | z))
        · exact .inl (.inl z)
        · exact (ih.mpr (.inl z)).elim (fun z => .inl (.inr z)) fun z => .inr (.inr z)
        · exact .inr (.inl z)
        · exact (ih.mpr (.inr z)).elim (fun z => .inl (.inr z)) fun z => .inr (.inr z)
    · constructor
      · rintro ((z | z) | (z | z))
        · cases z; exact .inr (.inl rfl)
        · exact (ih.mp (.inl z)).elim (fun z => .inl (.inr z)) fun z => .inr (.inr z)
        · cases z; exact .inl (.inl rfl)
        · exact (ih.mp (.inr z)).elim (fun z => .inl (.inr z)) fun z => .inr (.inr z)
      · rintro ((z | z) | (z | z))
        · cases z; exact .inr (.inl rfl)
        · exact (ih.mpr (.inl z)).elim (fun z => .inl (.inr z)) fun z => .inr (.inr z)
        · cases z; exact .inl (.inl rfl)
        · exact (ih.mpr (.inr z)).elim (fun z => .inl (.inr z)) fun z => .inr (.inr z)
theorem FlipR.forest {n : Nat} {E F : Edges} (h : FlipR E F) : Forest n E ↔ Forest n F := by
  unfold Forest
  rw [comps_same (fun x y => ⟨Conn.mono fun x y => (h.adj x y).mp, Conn.mono fun x y => (h.adj x y).mpr⟩), h.length]
theorem FlipR.snoc {E F : Edges} {e f : Nat × Nat} (h : FlipR E F) (q : e = f ∨ e = (f.2, f.1)) : FlipR (E ++ [e]) (F ++ [f]) := by
  induction h with
  | nil => exact .cons q .nil
  | cons k _ ih => exact .cons k ih
theorem cnt_flip {n : Nat} {E E' : Edges} (h : FlipR E E') : ∀ {F G : Edges} (k : Nat), FlipR F G → cnt n E F k = cnt n E' G k := by
  induction h with
  | nil =>
    intro F G k q
    cases k with
    | zero =>
      have e : Forest n F ↔ Forest n G := q.forest
      simp only [cnt]
      by_cases z : Forest n F
      · rw [if_pos z, if_pos (e.mp z)]
      · rw [if_neg z, if_neg fun y => z (e.mpr y)]
    | succ k => rfl
  | cons c _ ih =>
    intro F G k q
    cases k with
    | zero => simp only [cnt]; exact ih 0 q
    | succ k => simp only [cnt]; rw [ih (k + 1) q, ih k (q.snoc c)]
end DG
-- text DGX
set_option Elab.async false
set_option linter.all false
set_option maxRecDepth 100000
set_option maxHeartbeats 2000000
/-! DGX: the number of trees of a full web; trees of rings, of bundles -/
namespace DG
theorem flat_count {α : Type} {f : α → List α} {p q : α → Bool} : ∀ (L : List α), (∀ T ∈ L, (f T).countP p = (if p T = true then 1 else 0) + (if q T = true then 1 else 0)) → (L.flatMap f).countP p = L.countP p + L.countP q
  | [], _ => by simp
  | T :: L, h => by
    have ih := flat_count L fun U hU => h U (by simp [hU])
    have h0 := h T (by simp)
    rw [List.flatMap_cons, List.countP_append, ih, h0, List.countP_cons, List.countP_cons]
    omega
section
variable {n : Nat} {E : Edges} {w : Nat → Int}
open Classical in
theorem lawR_cnt (hE : Below n E) (hw : ∀ j, j < E.length → 0 < w j) : ∀ (m k : Nat) (G : Edges), Below n G → m ≤ E.length → (lawR E w m).countP (fun T => decide (T.length = k ∧ Forest n (eT E T ++ G))) = cnt n (E.take m) G k
  | 0, k, G, hG, _ => by
    simp only [lawR, List.countP_cons, List.countP_nil, List.take_zero]
    cases k with
    | zero => simp [cnt, eT]
    | succ k => simp [cnt]
  | m + 1, k, G, hG, hm => by
    have he : E[m]? = some E[m] := List.getElem?_eq_getElem (by omega)
    have hb := hE _ (List.getElem_mem (show m < E.length by omega))
    have wm := hw m (by omega)
    generalize E[m]'(by omega) = e at he hb
    have tk : E.take (m + 1) = E.take m ++ [e] := by rw [List.take_add_one, he]; rfl
    rw [tk, cnt_swap (List.perm_append_singleton e (E.take m))]
    unfold lawR
    rw [flat_count (q := fun T => decide (T.length + 1 = k ∧ Forest n (eT E T ++ (G ++ [e]))))]
    · rw [lawR_cnt hE hw m k G hG (by omega)]
      cases k with
      | zero =>
        simp only [cnt]
        rw [List.countP_eq_zero.mpr]
        · rfl
        · intro T _; simp
      | succ k =>
        simp only [cnt]
        rw [← lawR_cnt hE hw m k (G ++ [e]) (fun x hx => by
          rcases List.mem_append.mp hx with hx | hx
          · exact hG x hx
          · rw [List.mem_singleton.mp hx]; exact hb) (by omega)]
        congr 1
        refine List.countP_congr fun T _ => ?_
        simp
    · intro T hT
      have pm : (eT E T ++ (G ++ [e])).Perm ((eT E T ++ [e]) ++ G) := by
        rw [List.append_assoc]
        exact List.Perm.append_left _ (List.perm_append_comm)
      have hT' := eT_below hE T
      unfold lawStep
      rw [if_neg (by omega), if_neg (by omega), he, List.countP_append, List.countP_cons, List.countP_nil]
      simp only [Option.getD_some]
      by_cases c : ringB E T e = true
      · rw [if_pos c]
        have : ¬ Forest n (eT E T ++ (G ++ [e])) := fun z => by
          have z1 := forest_left (fun x hx => by
            rcases List.mem_append.mp hx with hx | hx
            · exact hT' x hx
            · rw [List.mem_singleton.mp hx]; exact hb) hG ((forest_perm pm).mp z)
          exact ((forest_snoc hT' hb.1 hb.2).mp z1).2 (ringB_iff.mp c)
        simp [this]
      · rw [if_neg c, List.countP_cons, List.countP_nil, eT_app, eT_one he]
        have e1 : Forest n (eT E T ++ [e] ++ G) ↔ Forest n (eT E T ++ (G ++ [e])) := (forest_perm pm).symm
        rw [List.append_assoc] at e1
        simp only [List.singleton_append] at e1
        simp [e1]
theorem tree_count (hE : Below n E) (hn : 1 ≤ n) (hw : ∀ j, j < E.length → 0 < w j) (hF : Forest n (eT E (rigT E w))) (hW : Whole n (dropE E (absT E w))) : ((progU n E w E.length).map (joinT E w)).length = cnt n E [] (n - 1) := by
  have pm : ((progU n E w E.length).map (joinT E w)).Perm ((lawR E w E.length).filter fun T => decide (T.length + 1 = n)) := by
    refine (List.perm_ext_iff_of_nodup (prog_nodup hE hF hW) (List.Pairwise.filter _ (lawR_nodup hE _ (Nat.le_refl _)))).mpr fun T => ?_
    rw [prog_trees hE hF hW (fun j hj => by have := hw j hj; omega), tree_row hE hn, List.mem_filter, decide_eq_true_iff]
  have := lawR_cnt hE hw E.length (n - 1) [] (fun x hx => by cases hx) (Nat.le_refl _)
  rw [List.take_length] at this
  rw [pm.length_eq, ← List.countP_eq_length_filter, ← this]
  refine List.countP_congr fun T hT => ?_
  have hT' := ((lawR_iff hE (Nat.le_refl _)).mp hT).2.2.2
  simp [hT']
  omega
end
/-! ### the same number by labels -/
def cntL : Edges → List Int → Nat → Nat
  | [], _, 0 => 1
  | [], _, _ + 1 => 0
  | _ :: E, g, 0 => cntL E g 0
  | e :: E, g, k + 1 => cntL E g (k + 1) + if g[e.1]?.getD 0 = g[e.2]?.getD 0 then 0 else cntL E (g.map fun x => if x = g[e.2]?.getD 0 then g[e.1]?.getD 0 else x) k
theorem cnt_not {n : Nat} : ∀ (E F : Edges) (k : Nat), Below n E → Below n F → ¬ Forest n F → cnt n E F k = 0
  | [], F, 0, _, _, h => by simp only [cnt]; rw [if_neg h]
  | [], F, k + 1, _, _, _ => rfl
  | e :: E, F, 0, hE, hF, h => by simp only [cnt]; exact cnt_not E F 0 (fun x hx => hE x (by simp [hx])) hF h
  | e :: E, F, k + 1, hE, hF, h => by
    have hE' : Below n E := fun x hx => hE x (by simp [hx])
    have he : Below n [e] := fun x hx => by rw [List.mem_singleton.mp hx]; exact hE e (by simp)
    simp only [cnt]
    rw [cnt_not E F (k + 1) hE' hF h, cnt_not E (F ++ [e]) k hE' (fun x hx => by
      rcases List.mem_append.mp hx with hx | hx
      · exact hF x hx
      · exact he x hx) (fun z => h (forest_left hF he z))]
theorem cnt_lab {n : Nat} : ∀ (E F : Edges) (g : List Int) (k : Nat), Below n E → Below n F → Forest n F → Labels n g F → cnt n E F k = cntL E g k
  | [], F, g, 0, _, _, h, _ => by simp only [cnt, cntL]; rw [if_pos h]
  | [], F, g, k + 1, _, _, _, _ => rfl
  | e :: E, F, g, 0, hE, hF, h, hg => by simp only [cnt, cntL]; exact cnt_lab E F g 0 (fun x hx => hE x (by simp [hx])) hF h hg
  | (a, b) :: E, F, g, k + 1, hE, hF, h, hg => by
    have hE' : Below n E := fun x hx => hE x (by simp [hx])
    obtain ⟨ha, hb⟩ : a < n ∧ b < n := hE (a, b) (by simp)
    have hF' : Below n (F ++ [(a, b)]) := fun x hx => by
      rcases List.mem_append.mp hx with hx | hx
      · exact hF x hx
      · rw [List.mem_singleton.mp hx]; exact ⟨ha, hb⟩
    obtain ⟨u, hu⟩ : ∃ u, g[a]? = some u := ⟨g[a]'(by rw [hg.1]; exact ha), List.getElem?_eq_getElem _⟩
    obtain ⟨v, hv⟩ : ∃ u, g[b]? = some u := ⟨g[b]'(by rw [hg.1]; exact hb), List.getElem?_eq_getElem _⟩
    simp only [cnt, cntL]
    rw [cnt_lab E F g (k + 1) hE' hF h hg, hu, hv]
    simp only [Option.getD_some]
    congr 1
    have hc := hg.2 a b ha hb
    rw [hu, hv] at hc
    by_cases q : u = v
    · rw [if_pos q]
      exact cnt_not E _ k hE' hF' fun z => ((forest_snoc hF ha hb).mp z).2 (hc.mp (by rw [q]))
    · rw [if_neg q]
      refine cnt_lab E _ _ k hE' hF' ((forest_snoc hF ha hb).mpr ⟨h, fun z => q (Option.some.inj (hc.mpr z))⟩) (labels_join hg ha hb hu hv (by simp [hg.1]) fun x w hw => ?_)
      rw [List.getElem?_map, hw]; rfl
theorem cnt_start {n : Nat} {E : Edges} (hE : Below n E) (k : Nat) : cnt n E [] k = cntL E ((List.range n).map fun (i : Nat) => (i : Int)) k :=
  cnt_lab E [] _ k hE (fun x hx => by cases hx) (forest_nil n) (labels_start n)
/-! ### a tree at hand -/
theorem whole_forest {n : Nat} {X : Edges} (hn : 1 ≤ n) (h : Whole n X) (l : X.length + 1 = n) : Forest n X := by
  have := (whole_comps hn).mp h
  unfold Forest
  omega
theorem tree_ok {n : Nat} {E : Edges} {w : Nat → Int} {T : List Nat} (hE : Below n E) (h : TreeOk n E w T) : Forest n (eT E (rigT E w)) ∧ Whole n (dropE E (absT E w)) := by
  obtain ⟨h1, h2, h3, h4, h5⟩ := h
  constructor
  · have e : rigT E w = T.filter fun j => decide (w j = -1) := inc_ext (inc_filter _ _).1 (List.Pairwise.filter _ h1.1) fun x => by
      show x ∈ rigT E w ↔ _
      rw [mem_rig, List.mem_filter, decide_eq_true_iff]
      exact ⟨fun ⟨a, b⟩ => ⟨h3 x a b, b⟩, fun ⟨a, b⟩ => ⟨h1.2 x a, b⟩⟩
    rw [e]
    have pm := eT_perm (E := E) (List.filter_append_perm (fun j => decide (w j = -1)) T)
    rw [eT_app] at pm
    exact forest_left (eT_below hE _) (eT_below hE _) ((forest_perm pm).mpr h4)
  · intro x hx
    have sub : ∀ f, f ∈ eT E T → f ∈ dropE E (absT E w) := fun f hf => by
      obtain ⟨j, hj, hf⟩ := mem_eT.mp hf
      exact mem_dropE.mpr ⟨j, fun z => h2 j hj (mem_abs.mp z).2, hf⟩
    exact (h5 x hx).mono fun x y a => a.elim (fun a => .inl (sub _ a)) fun a => .inr (sub _ a)
theorem flipR_of {E F : Edges} (hl : E.length = F.length) (h : ∀ (i : Nat) (e f : Nat × Nat), E[i]? = some e → F[i]? = some f → e = f ∨ e = (f.2, f.1)) : FlipR E F := by
  induction E generalizing F with
  | nil =>
    cases F with
    | nil => exact .nil
    | cons => simp at hl
  | cons e E ih =>
    cases F with
    | nil => simp at hl
    | cons f F =>
      exact .cons (h 0 e f rfl rfl) (ih (by simpa using hl) fun i a b ha hb => h (i + 1) a b (by simpa using ha) (by simpa using hb))
theorem FlipR.erase {E F : Edges} (h : FlipR E F) : ∀ k, FlipR (E.eraseIdx k) (F.eraseIdx k) := by
  induction h with
  | nil => intro k; simp; exact .nil
  | cons q h ih =>
    intro k
    cases k with
    | zero => simpa using h
    | succ k => simpa using FlipR.cons q (ih k)
theorem FlipR.conn {E F : Edges} (h : FlipR E F) (x y : Nat) : Conn E x y ↔ Conn F x y :=
  ⟨Conn.mono fun x y => (h.adj x y).mp, Conn.mono fun x y => (h.adj x y).mpr⟩
/-! ### rings -/
def ringL (ord : List Nat) (n : Nat) : Edges := (List.range n).map fun k => (ord[k]?.getD 0, ord[(k + 1) % n]?.getD 0)
theorem ringL_get {ord : List Nat} {n k : Nat} (hk : k < n) : (ringL ord n)[k]? = some (ord[k]?.getD 0, ord[(k + 1) % n]?.getD 0) := by
  unfold ringL
  rw [List.getElem?_map, List.getElem?_range hk]; rfl
theorem perm_places {ord : List Nat} {n : Nat} (h : ord.Perm (List.range n)) {x : Nat} (hx : x < n) : ∃ k, k < n ∧ ord[k]?.getD 0 = x := by
  have ol : ord.length = n := by rw [h.length_eq, List.length_range]
  obtain ⟨k, hk⟩ := List.mem_iff_getElem?.mp (h.mem_iff.mpr (List.mem_range.mpr hx))
  exact ⟨k, by rw [← ol]; exact (List.getElem?_eq_some_iff.mp hk).1, by rw [hk]; rfl⟩
theorem ringL_path {ord : List Nat} {n k : Nat} (hk : k < n) : ∀ j, j < n → Conn ((ringL ord n).eraseIdx k) (ord[0]?.getD 0) (ord[j]?.getD 0) := by
  have step : ∀ i, i < n → i ≠ k → Conn ((ringL ord n).eraseIdx k) (ord[i]?.getD 0) (ord[(i + 1) % n]?.getD 0) := fun i hi ne =>
    Conn.one (.inl (List.mem_eraseIdx_iff_getElem?.mpr ⟨i, ne, ringL_get hi⟩))
  have up : ∀ j, j ≤ k → Conn ((ringL ord n).eraseIdx k) (ord[0]?.getD 0) (ord[j]?.getD 0) := fun j => by
    induction j with
    | zero => intro _; exact .refl _
    | succ j ih =>
      intro hj
      have := step j (by omega) (by omega)
      rw [Nat.mod_eq_of_lt (by omega)] at this
      exact (ih (by omega)).trans this
  have down : ∀ d j, j + d = n → k < j → j < n → Conn ((ringL ord n).eraseIdx k) (ord[0]?.getD 0) (ord[j]?.getD 0) := fun d => by
    induction d with
    | zero => intro j h1 h2 h3; omega
    | succ d ih =>
      intro j h1 h2 h3
      have := step j h3 (by omega)
      by_cases q : j + 1 = n
      · rw [q, Nat.mod_self] at this
        exact this.symm
      · rw [Nat.mod_eq_of_lt (by omega)] at this
        exact (ih (j + 1) (by omega) (by omega) (by omega)).trans this.symm
  intro j hj
  by_cases q : j ≤ k
  · exact up j q
  · exact down (n - j) j (by omega) (by omega) hj
theorem perm_eraseIdx {α : Type} : ∀ {l : List α} {i : Nat} {x : α}, l[i]? = some x → (x :: l.eraseIdx i).Perm l
  | [], _, _, h => by simp at h
  | a :: l, 0, x, h => by
    have : a = x := by simpa using h
    subst this
    simp
  | a :: l, i + 1, x, h => by
    have ih := perm_eraseIdx (l := l) (i := i) (x := x) (by simpa using h)
    rw [List.eraseIdx_cons_succ]
    exact (List.Perm.swap _ _ _).trans (ih.cons a)
theorem ring_whole {n : Nat} {E F : Edges} {ord : List Nat} (ho : ord.Perm (List.range n)) (hF : F.Perm (ringL ord n)) (hE : FlipR E F) {at_ : Nat} (ha : at_ < n) : Whole n (E.eraseIdx at_) := by
  have rl : (ringL ord n).length = n := by simp [ringL]
  have fl : F.length = n := by rw [hF.length_eq, rl]
  have h1 := perm_eraseIdx (List.getElem?_eq_getElem (show at_ < F.length by omega))
  have hm : F[at_]'(by omega) ∈ ringL ord n := hF.mem_iff.mp (List.getElem_mem _)
  obtain ⟨k, ek⟩ := List.mem_iff_getElem?.mp hm
  have hk := (List.getElem?_eq_some_iff.mp ek).1
  have h2 := perm_eraseIdx ek
  have pm : (F.eraseIdx at_).Perm ((ringL ord n).eraseIdx k) := (List.perm_cons _).mp ((h1.trans hF).trans h2.symm)
  rw [rl] at hk
  have all : ∀ x, x < n → Conn (E.eraseIdx at_) (ord[0]?.getD 0) x := fun x hx => by
    obtain ⟨j, hj, rfl⟩ := perm_places ho hx
    exact ((hE.erase at_).conn _ _).mpr ((conn_mem (fun e => pm.mem_iff) _ _).mpr (ringL_path hk j hj))
  exact fun x hx => (all 0 (by omega)).symm.trans (all x hx)
def butT (n a : Nat) : List Nat := (List.range n).filter fun k => decide (k ≠ a)
theorem mem_but {n a x : Nat} : x ∈ butT n a ↔ x < n ∧ x ≠ a := by unfold butT; rw [List.mem_filter, List.mem_range, decide_eq_true_iff]
theorem but_len {n a : Nat} (h : a < n) : (butT n a).length + 1 = n := by
  have e : butT n a = (List.range n).erase a := by
    rw [List.Nodup.erase_eq_filter List.nodup_range]
    unfold butT
    refine List.filter_congr fun x _ => ?_
    by_cases q : x = a <;> simp [q]
  rw [e, List.length_erase_of_mem (List.mem_range.mpr h), List.length_range]; omega
theorem inc_miss {n : Nat} {T : List Nat} (h : Inc n T) (l : T.length + 1 = n) : ∃ a, a < n ∧ T = butT n a := by
  have e : (List.range n).filter (fun x => decide (x ∈ T)) = T := inc_ext (List.Pairwise.filter _ List.pairwise_lt_range) h.1 fun x => by
    rw [List.mem_filter, List.mem_range, decide_eq_true_iff]
    exact ⟨fun q => q.2, fun q => ⟨h.2 x q, q⟩⟩
  have hl := (List.filter_append_perm (fun x => decide (x ∈ T)) (List.range n)).length_eq
  rw [List.length_append, e, List.length_range] at hl
  have h1 : ((List.range n).filter fun x => !decide (x ∈ T)).length = 1 := by omega
  obtain ⟨a, ha⟩ := List.length_eq_one_iff.mp h1
  have mem : ∀ x, x ∈ (List.range n).filter (fun x => !decide (x ∈ T)) ↔ x < n ∧ x ∉ T := fun x => by
    rw [List.mem_filter, List.mem_range]; simp
  rw [ha] at mem
  have ha' := (mem a).mp (by simp)
  refine ⟨a, ha'.1, inc_ext h.1 (List.Pairwise.filter _ List.pairwise_lt_range) fun x => ?_⟩
  show x ∈ T ↔ x ∈ butT n a
  rw [mem_but]
  constructor
  · exact fun hx => ⟨h.2 x hx, fun z => by subst z; exact ha'.2 hx⟩
  · rintro ⟨h1, h2⟩
    exact Classical.byContradiction fun z => h2 (List.mem_singleton.mp ((mem x).mpr ⟨h1, z⟩))
theorem ring_trees {n : Nat} {E F : Edges} {w : Nat → Int} {ord : List Nat} (hn : 1 ≤ n) (hB : Below n E) (ho : ord.Perm (List.range n)) (hF : F.Perm (ringL ord n)) (hE : FlipR E F) (hw : ∀ j, j < n → w j = -1 ∨ 0 < w j) {T : List Nat} :
    TreeOk n E w T ↔ ∃ a, a < n ∧ 0 < w a ∧ T = butT n a := by
  have rl : (ringL ord n).length = n := by simp [ringL]
  have el : E.length = n := by rw [hE.length, hF.length_eq, rl]
  constructor
  · rintro ⟨h1, h2, h3, h4⟩
    have l := ((span_len hn).mp h4).2
    rw [eT_len h1.2] at l
    rw [el] at h1 h3
    obtain ⟨a, ha, rfl⟩ := inc_miss h1 l
    refine ⟨a, ha, ?_, rfl⟩
    rcases hw a ha with q | q
    · exact absurd rfl (mem_but.mp (h3 a ha q)).2
    · exact q
  · rintro ⟨a, ha, wa, rfl⟩
    have hi : Inc E.length (butT n a) := by rw [el]; exact inc_filter _ _
    have hW : Whole n (eT E (butT n a)) := fun x hx => by
      have := ring_whole ho hF hE ha x hx
      refine (conn_mem (fun e => ?_) _ _).mp this
      rw [List.mem_eraseIdx_iff_getElem?, mem_eT]
      constructor
      · rintro ⟨i, h1, h2⟩
        exact ⟨i, mem_but.mpr ⟨by rw [← el]; exact (List.getElem?_eq_some_iff.mp h2).1, h1⟩, h2⟩
      · rintro ⟨i, h1, h2⟩
        exact ⟨i, (mem_but.mp h1).2, h2⟩
    refine ⟨hi, fun j hj => ?_, fun j hj q => ?_, whole_forest hn hW (by rw [eT_len hi.2]; exact but_len ha), hW⟩
    · have := hw j (mem_but.mp hj).1; omega
    · rw [el] at hj
      exact mem_but.mpr ⟨hj, fun z => by subst z; omega⟩
end DG
-- text DGY
set_option Elab.async false
set_option linter.all false
set_option maxRecDepth 100000
set_option maxHeartbeats 2000000
/-! DGY: trees of bundles in a row -/
namespace DG
structure Bund (K : Nat) (E : Edges) (ord : List Nat) (b : Nat → Nat) : Prop where
  o : ord.Perm (List.range (K + 1))
  bb : ∀ (j : Nat) (e : Nat × Nat), E[j]? = some e → b j < K ∧ (e = (ord[b j]?.getD 0, ord[b j + 1]?.getD 0) ∨ e = (ord[b j + 1]?.getD 0, ord[b j]?.getD 0))
structure Grp (K : Nat) (m : Nat) (b : Nat → Nat) (w : Nat → Int) (G : Nat → List Nat) : Prop where
  mem : ∀ k, k < K → ∀ j ∈ G k, j < m ∧ b j = k ∧ w j ≠ 0
  nd : ∀ k, k < K → (G k).Nodup
  ne : ∀ k, k < K → G k ≠ []
  r : ∀ j, j < m → w j = -1 → G (b j) = [j]
  x : ∀ j, j < m → w j ≠ 0 → j ∉ G (b j) → ∃ i, i < m ∧ w i = -1 ∧ b i = b j
def Sel (m : Nat) (b : Nat → Nat) (G : Nat → List Nat) (k : Nat) (T : List Nat) : Prop :=
  Inc m T ∧ (∀ i ∈ T, b i < k) ∧ ∀ k', k' < k → ∃ j, j ∈ G k' ∧ ∀ i, (i ∈ T ∧ b i = k') ↔ i = j
theorem full_list {K : Nat} {L : List Nat} (nd : L.Nodup) (hb : ∀ x ∈ L, x < K) (hl : L.length = K) {k : Nat} (hk : k < K) : k ∈ L := by
  have pm : ((List.range K).filter fun x => decide (x ∈ L)).Perm L := (List.perm_ext_iff_of_nodup (List.Pairwise.filter _ List.nodup_range) nd).mpr fun x => by
    rw [List.mem_filter, List.mem_range, decide_eq_true_iff]
    exact ⟨fun q => q.2, fun q => ⟨hb x q, q⟩⟩
  have h := pm.length_eq
  have h2 : ((List.range K).filter fun x => decide (x ∈ L)).length = (List.range K).length := by rw [h, hl, List.length_range]
  have := (List.length_filter_eq_length_iff.mp h2) k (List.mem_range.mpr hk)
  exact of_decide_eq_true this
theorem map_nodup {f : Nat → Nat} {T : List Nat} (nd : T.Nodup) (h : ∀ i ∈ T, ∀ j ∈ T, f i = f j → i = j) : (T.map f).Nodup := by
  refine List.pairwise_map.mpr (List.Pairwise.imp_of_mem (fun {a c} ha hc ne e => ne (h a ha c hc e)) nd)
section
variable {K : Nat} {E : Edges} {ord : List Nat} {b : Nat → Nat} {w : Nat → Int} {G : Nat → List Nat} {T : List Nat}
theorem Bund.lt (B : Bund K E ord b) {k : Nat} (hk : k ≤ K) : ord[k]?.getD 0 < K + 1 := by
  have ol : ord.length = K + 1 := by rw [B.o.length_eq, List.length_range]
  have e := List.getElem?_eq_getElem (show k < ord.length by omega)
  rw [e]
  exact List.mem_range.mp (B.o.mem_iff.mp (List.getElem_mem _))
theorem Bund.below (B : Bund K E ord b) : Below (K + 1) E := fun e he => by
  obtain ⟨j, hj⟩ := List.mem_iff_getElem?.mp he
  obtain ⟨h1, h2⟩ := B.bb j e hj
  have a := B.lt (show b j ≤ K by omega)
  have c := B.lt (show b j + 1 ≤ K by omega)
  rcases h2 with rfl | rfl
  · exact ⟨a, c⟩
  · exact ⟨c, a⟩
theorem Bund.par (B : Bund K E ord b) (hT : Inc E.length T) (hF : Forest (K + 1) (eT E T)) {i j : Nat} (hi : i ∈ T) (hj : j ∈ T) (e : b i = b j) : i = j := by
  refine Classical.byContradiction fun ne => ?_
  have li := hT.2 i hi
  have lj := hT.2 j hj
  have ei := List.getElem?_eq_getElem li
  have ej := List.getElem?_eq_getElem lj
  generalize E[i]'li = p at ei
  generalize E[j]'lj = q at ej
  have hj' : j ∈ T.erase i := (List.mem_erase_of_ne fun z => ne z.symm).mpr hj
  have pm : T.Perm (((T.erase i).erase j) ++ [i] ++ [j]) := by
    refine ((List.perm_cons_erase hi).trans ((List.perm_cons_erase hj').cons i)).trans ?_
    rw [List.append_assoc]
    exact List.perm_append_comm (l₁ := [i, j])
  have hF2 := (forest_perm (eT_perm (E := E) pm)).mp hF
  rw [eT_app, eT_one ej, eT_app, eT_one ei] at hF2
  have bq := B.below q (List.mem_of_getElem? ej)
  have bp := B.below p (List.mem_of_getElem? ei)
  have := ((forest_snoc (fun x hx => by
    rcases List.mem_append.mp hx with hx | hx
    · exact eT_below B.below _ x hx
    · rw [List.mem_singleton.mp hx]; exact bp) bq.1 bq.2).mp hF2).2
  refine this ?_
  have hp := (B.bb i p ei).2
  have hq := (B.bb j q ej).2
  rw [← e] at hq
  have ad : Adj (eT E ((T.erase i).erase j) ++ [p]) p.1 p.2 := .inl (List.mem_append_right _ (by simp))
  rcases hp with rfl | rfl <;> rcases hq with rfl | rfl
  · exact Conn.one ad
  · exact Conn.one ad.symm
  · exact Conn.one ad.symm
  · exact Conn.one ad
theorem bund_trees (B : Bund K E ord b) (H : Grp K E.length b w G) : TreeOk (K + 1) E w T ↔ Sel E.length b G K T := by
  constructor
  · rintro ⟨h1, h2, h3, h4⟩
    obtain ⟨f, l⟩ := (span_len (by omega)).mp h4
    rw [eT_len h1.2] at l
    have bk : ∀ i ∈ T, b i < K := fun i hi => (B.bb i _ (List.getElem?_eq_getElem (h1.2 i hi))).1
    refine ⟨h1, bk, fun k hk => ?_⟩
    have nd : (T.map b).Nodup := map_nodup (inc_nodup h1) fun i hi j hj e => B.par h1 f hi hj e
    have mem : k ∈ T.map b := full_list nd (fun x hx => by
      obtain ⟨i, hi, rfl⟩ := List.mem_map.mp hx
      exact bk i hi) (by rw [List.length_map]; omega) hk
    obtain ⟨j, hj, rfl⟩ := List.mem_map.mp mem
    refine ⟨j, ?_, fun i => ⟨fun ⟨hi, e⟩ => B.par h1 f hi hj e, fun e => by subst e; exact ⟨hj, rfl⟩⟩⟩
    refine Classical.byContradiction fun q => ?_
    obtain ⟨i, hi, wi, e⟩ := H.x j (h1.2 j hj) (h2 j hj) q
    have := B.par h1 f (h3 i hi wi) hj e
    subst this
    rw [H.r i hi wi] at q
    exact q (by simp)
  · rintro ⟨h1, h2, h3⟩
    have uniq : ∀ i ∈ T, ∀ j ∈ T, b i = b j → i = j := fun i hi j hj e => by
      obtain ⟨c, _, hc⟩ := h3 (b j) (h2 j hj)
      rw [(hc i).mp ⟨hi, e⟩, (hc j).mp ⟨hj, rfl⟩]
    have pick : ∀ i ∈ T, i ∈ G (b i) := fun i hi => by
      obtain ⟨c, hc1, hc⟩ := h3 (b i) (h2 i hi)
      rw [(hc i).mp ⟨hi, rfl⟩] at hc1 ⊢
      have := (hc c).mpr rfl
      rw [this.2]
      exact (hc i).mp ⟨hi, rfl⟩ ▸ hc1
    have nd : (T.map b).Nodup := map_nodup (inc_nodup h1) uniq
    have pm : (T.map b).Perm (List.range K) := (List.perm_ext_iff_of_nodup nd List.nodup_range).mpr fun k => by
      rw [List.mem_range, List.mem_map]
      constructor
      · rintro ⟨i, hi, rfl⟩; exact h2 i hi
      · intro hk
        obtain ⟨j, _, hj⟩ := h3 k hk
        exact ⟨j, (hj j).mpr rfl⟩
    have tl : T.length = K := by
      have := pm.length_eq
      rwa [List.length_map, List.length_range] at this
    have path : ∀ k, k ≤ K → Conn (eT E T) (ord[0]?.getD 0) (ord[k]?.getD 0) := fun k => by
      induction k with
      | zero => intro _; exact .refl _
      | succ k ih =>
        intro hk
        obtain ⟨j, _, hj⟩ := h3 k (by omega)
        obtain ⟨jT, jb⟩ := (hj j).mpr rfl
        have ej := List.getElem?_eq_getElem (h1.2 j jT)
        have hB := (B.bb j _ ej).2
        have hm : E[j]'(h1.2 j jT) ∈ eT E T := mem_eT.mpr ⟨j, jT, ej⟩
        rw [jb] at hB
        refine (ih (by omega)).trans (Conn.one ?_)
        rcases hB with q | q
        · rw [q] at hm; exact .inl hm
        · rw [q] at hm; exact .inr hm
    have hW : Whole (K + 1) (eT E T) := fun x hx => by
      have all : ∀ x, x < K + 1 → Conn (eT E T) (ord[0]?.getD 0) x := fun x hx => by
        obtain ⟨j, hj, rfl⟩ := perm_places B.o hx
        exact path j (by omega)
      exact (all 0 (by omega)).symm.trans (all x hx)
    refine ⟨h1, fun j hj => (H.mem (b j) (h2 j hj) j (pick j hj)).2.2, fun j hj q => ?_, whole_forest (by omega) hW (by rw [eT_len h1.2]; omega), hW⟩
    obtain ⟨c, hc1, hc⟩ := h3 (b j) (B.bb j _ (List.getElem?_eq_getElem hj)).1
    rw [H.r j hj q] at hc1
    rw [← List.mem_singleton.mp hc1]
    exact ((hc c).mpr rfl).1
end
/-! ### the law's rows -/
def insT (m a : Nat) (T : List Nat) : List Nat := (List.range m).filter fun x => decide (x = a ∨ x ∈ T)
theorem mem_ins {m a x : Nat} {T : List Nat} : x ∈ insT m a T ↔ x < m ∧ (x = a ∨ x ∈ T) := by unfold insT; rw [List.mem_filter, List.mem_range, decide_eq_true_iff]
theorem ins_perm {m a : Nat} {T : List Nat} (h : Inc m T) (ha : a < m) (hn : a ∉ T) : (insT m a T).Perm (T ++ [a]) := by
  refine (List.perm_ext_iff_of_nodup (inc_nodup (inc_filter _ _)) ?_).mpr fun x => ?_
  · refine List.nodup_append.mpr ⟨inc_nodup h, by simp, fun c hc d hd e => ?_⟩
    subst e
    rw [List.mem_singleton.mp hd] at hc
    exact hn hc
  · show x ∈ insT m a T ↔ _
    rw [mem_ins, List.mem_append, List.mem_singleton]
    constructor
    · rintro ⟨_, q | q⟩
      · exact .inr q
      · exact .inl q
    · rintro (q | q)
      · exact ⟨h.2 x q, .inr q⟩
      · exact ⟨by omega, .inl q⟩
def selRows (m : Nat) (G : Nat → List Nat) : Nat → List (List Nat)
  | 0 => [[]]
  | k + 1 => (G k).flatMap fun a => (selRows m G k).map (insT m a)
section
variable {K m : Nat} {b : Nat → Nat} {w : Nat → Int} {G : Nat → List Nat}
theorem sel_mem (H : Grp K m b w G) : ∀ (k : Nat) (T : List Nat), k ≤ K → (T ∈ selRows m G k ↔ Sel m b G k T)
  | 0, T, _ => by
    simp only [selRows, List.mem_singleton]
    constructor
    · rintro rfl
      exact ⟨inc_nil m, by simp, fun k hk => by omega⟩
    · rintro ⟨_, h, _⟩
      cases T with
      | nil => rfl
      | cons a T => have := h a (by simp); omega
  | k + 1, U, hk => by
    unfold selRows
    rw [List.mem_flatMap]
    constructor
    · rintro ⟨a, ha, hU⟩
      obtain ⟨T, hT, rfl⟩ := List.mem_map.mp hU
      obtain ⟨t1, t2, t3⟩ := (sel_mem H k T (by omega)).mp hT
      obtain ⟨a1, a2, a3⟩ := H.mem k (by omega) a ha
      refine ⟨inc_filter _ _, fun i hi => ?_, fun k' hk' => ?_⟩
      · rcases (mem_ins.mp hi).2 with q | q
        · subst q; omega
        · have := t2 i q; omega
      · by_cases q : k' = k
        · subst q
          refine ⟨a, ha, fun i => ⟨fun ⟨hi, e⟩ => ?_, fun e => by subst e; exact ⟨mem_ins.mpr ⟨a1, .inl rfl⟩, a2⟩⟩⟩
          rcases (mem_ins.mp hi).2 with z | z
          · exact z
          · have := t2 i z; omega
        · obtain ⟨j, hj, h⟩ := t3 k' (by omega)
          refine ⟨j, hj, fun i => ⟨fun ⟨hi, e⟩ => ?_, fun e => ?_⟩⟩
          · rcases (mem_ins.mp hi).2 with z | z
            · subst z; omega
            · exact (h i).mp ⟨z, e⟩
          · obtain ⟨z1, z2⟩ := (h i).mpr e
            exact ⟨mem_ins.mpr ⟨t1.2 i z1, .inr z1⟩, z2⟩
    · rintro ⟨u1, u2, u3⟩
      obtain ⟨a, ha, h⟩ := u3 k (by omega)
      obtain ⟨aU, ab⟩ := (h a).mpr rfl
      refine ⟨a, ha, List.mem_map.mpr ⟨U.filter fun i => decide (b i < k), (sel_mem H k _ (by omega)).mpr ⟨⟨List.Pairwise.filter _ u1.1, fun x hx => u1.2 x (List.mem_filter.mp hx).1⟩, fun i hi => of_decide_eq_true (List.mem_filter.mp hi).2, fun k' hk' => ?_⟩, ?_⟩⟩
      · obtain ⟨j, hj, h'⟩ := u3 k' (by omega)
        refine ⟨j, hj, fun i => ?_⟩
        rw [← h' i, List.mem_filter, decide_eq_true_iff]
        constructor
        · rintro ⟨⟨x, _⟩, y⟩; exact ⟨x, y⟩
        · rintro ⟨x, y⟩; exact ⟨⟨x, by omega⟩, y⟩
      · refine inc_ext (inc_filter _ _).1 u1.1 fun x => ?_
        show x ∈ insT m a _ ↔ _
        rw [mem_ins, List.mem_filter, decide_eq_true_iff]
        constructor
        · rintro ⟨_, q | q⟩
          · subst q; exact aU
          · exact q.1
        · intro hx
          refine ⟨u1.2 x hx, ?_⟩
          have := u2 x hx
          by_cases q : b x < k
          · exact .inr ⟨hx, q⟩
          · exact .inl ((h x).mp ⟨hx, by omega⟩)
theorem sel_nodup (H : Grp K m b w G) : ∀ k, k ≤ K → (selRows m G k).Nodup
  | 0, _ => by simp [selRows]
  | k + 1, hk => by
    unfold selRows
    have ih := sel_nodup H k (by omega)
    have ok : ∀ T ∈ selRows m G k, Sel m b G k T := fun T hT => (sel_mem H k T (by omega)).mp hT
    have key : ∀ a ∈ G k, ∀ c ∈ G k, ∀ T ∈ selRows m G k, ∀ U ∈ selRows m G k, insT m a T = insT m c U → a = c ∧ T = U := fun a ha c hc T hT U hU e => by
      obtain ⟨a1, a2, _⟩ := H.mem k (by omega) a ha
      obtain ⟨c1, c2, _⟩ := H.mem k (by omega) c hc
      obtain ⟨t1, t2, _⟩ := ok T hT
      obtain ⟨u1, u2, _⟩ := ok U hU
      have mem : ∀ x, x ∈ insT m a T ↔ x ∈ insT m c U := fun x => by rw [e]
      refine ⟨?_, inc_ext t1.1 u1.1 fun x => ?_⟩
      · have := (mem a).mp (mem_ins.mpr ⟨a1, .inl rfl⟩)
        rcases (mem_ins.mp this).2 with q | q
        · exact q
        · have := u2 a q; omega
      · constructor
        · intro hx
          rcases (mem_ins.mp ((mem x).mp (mem_ins.mpr ⟨t1.2 x hx, .inr hx⟩))).2 with q | q
          · have := t2 x hx; subst q; omega
          · exact q
        · intro hx
          rcases (mem_ins.mp ((mem x).mpr (mem_ins.mpr ⟨u1.2 x hx, .inr hx⟩))).2 with q | q
          · have := u2 x hx; subst q; omega
          · exact q
    refine List.pairwise_flatMap.mpr ⟨fun a ha => ?_, ?_⟩
    · refine List.pairwise_map.mpr (List.Pairwise.imp_of_mem (fun {T U} hT hU ne e => ne (key a ha a ha T hT U hU e).2) ih)
    · refine List.Pairwise.imp_of_mem (fun {a c} ha hc ne x hx y hy e => ?_) (H.nd k (by omega))
      obtain ⟨T, hT, rfl⟩ := List.mem_map.mp hx
      obtain ⟨U, hU, rfl⟩ := List.mem_map.mp hy
      exact ne (key a ha c hc T hT U hU e).1
theorem sel_ne (H : Grp K m b w G) : ∀ k, k ≤ K → selRows m G k ≠ []
  | 0, _ => by simp [selRows]
  | k + 1, hk => by
    unfold selRows
    have h1 := H.ne k (by omega)
    have h2 := sel_ne H k (by omega)
    intro h
    obtain ⟨a, r, e⟩ := List.exists_cons_of_ne_nil h1
    obtain ⟨c, s, e2⟩ := List.exists_cons_of_ne_nil h2
    rw [e, e2] at h
    simp at h
theorem sel_sub {b : Nat → Nat} : ∀ (k : Nat), (∀ k', k' < k → ∀ j ∈ G k', j < m ∧ b j = k') → ∀ T ∈ selRows m G k, Inc m T ∧ ∀ i ∈ T, b i < k
  | 0, _, T, h => by
    simp only [selRows, List.mem_singleton] at h
    subst h
    exact ⟨inc_nil m, by simp⟩
  | k + 1, hg, T, h => by
    unfold selRows at h
    obtain ⟨a, ha, h⟩ := List.mem_flatMap.mp h
    obtain ⟨U, hU, rfl⟩ := List.mem_map.mp h
    obtain ⟨u1, u2⟩ := sel_sub k (fun k' hk => hg k' (by omega)) U hU
    refine ⟨inc_filter _ _, fun i hi => ?_⟩
    rcases (mem_ins.mp hi).2 with q | q
    · subst q; have := (hg k (by omega) i ha).2; omega
    · have := u2 i q; omega
theorem sel_congr {H : Nat → List Nat} : ∀ (k : Nat), (∀ k', k' < k → G k' = H k') → selRows m G k = selRows m H k
  | 0, _ => rfl
  | k + 1, h => by unfold selRows; rw [sel_congr k (fun k' hk => h k' (by omega)), h k (by omega)]
theorem sel_len : ∀ k, (selRows m G (k + 1)).length = (G k).length * (selRows m G k).length := fun k => by
  show ((G k).flatMap fun a => (selRows m G k).map (insT m a)).length = _
  generalize selRows m G k = L
  induction G k with
  | nil => simp
  | cons a r ih => rw [List.flatMap_cons, List.length_append, List.length_map, ih, List.length_cons, Nat.succ_mul, Nat.add_comm]
end
end DG
-- text K11P16
set_option Elab.async false
set_option linter.all false
set_option maxRecDepth 100000
set_option maxHeartbeats 2000000
set_option exponentiation.threshold 10000
/-! K11P16 -/
namespace K11
open PySem PySem.Spec PyProof.Rows L2 DL DR DG
def rowP (n i : Nat) : Edges := (List.range (n - (i + 1))).map fun k => (i, i + 1 + k)
theorem rowP_eq (n i : Nat) : (((List.range n).filter fun j => decide (i < j)).map fun j => (i, j)) = rowP n i := by
  have e : (List.range n).filter (fun j => decide (i < j)) = (List.range (n - (i + 1))).map fun k => i + 1 + k := by
    refine inc_ext (List.Pairwise.filter _ List.pairwise_lt_range) (List.pairwise_map.mpr (List.Pairwise.imp (fun h => by omega) List.pairwise_lt_range)) fun x => ?_
    rw [List.mem_filter, List.mem_range, decide_eq_true_iff, List.mem_map]
    constructor
    · rintro ⟨h1, h2⟩
      exact ⟨x - (i + 1), List.mem_range.mpr (by omega), by omega⟩
    · rintro ⟨k, h1, rfl⟩
      have := List.mem_range.mp h1
      omega
  rw [e, List.map_map]; rfl
theorem allPairs_eq (n : Nat) : allPairs n = (List.range n).flatMap (rowP n) := by
  unfold allPairs
  congr 1
  funext i
  exact rowP_eq n i
theorem flat_succ (n i : Nat) : (List.range (i + 1)).flatMap (rowP n) = (List.range i).flatMap (rowP n) ++ rowP n i := by
  rw [List.range_succ, List.flatMap_append]; simp
theorem rowP_len (n i : Nat) : (rowP n i).length ≤ n := by unfold rowP; rw [List.length_map, List.length_range]; omega
theorem flat_len (n : Nat) : ∀ i, ((List.range i).flatMap (rowP n)).length ≤ i * n
  | 0 => by simp
  | i + 1 => by
    have h1 := flat_len n i
    have h2 := rowP_len n i
    rw [flat_succ, List.length_append, Nat.succ_mul]; omega
theorem allPairs_below (n : Nat) : Below n (allPairs n) := fun e he => by
  unfold allPairs at he
  obtain ⟨i, hi, he⟩ := List.mem_flatMap.mp he
  obtain ⟨j, hj, rfl⟩ := List.mem_map.mp he
  exact ⟨List.mem_range.mp hi, List.mem_range.mp (List.mem_filter.mp hj).1⟩
theorem hs__law_web (t : Addr) : ∀ ds s R, sp__law_web t ds s R → rd__law_web t (endsD R) (startD N__law_web.length ds) s := by
  refine sp2.to fun x y st R h => ?_
  obtain ⟨n, rfl, rfl, n3, n5, h⟩ := h
  rw [st__law_web]; unfold rd__law_web
  simp [sizeLine_eq]
  intro p0 hp0
  refine ⟨by omega, loop_any (fun i ρ s' => ∃ (o3 : Option D) (p : Addr), ρ = [some (.ref t), some (.int (n : Nat)), some (.ref p), o3, none, none, none] ∧ DL.Sub st s' ∧ s' p = some (.lst (((List.range i).flatMap (rowP n)).map pairD)))
    ⟨none, p0, rfl, Sub.put hp0, put_same⟩ (fun _ _ _ _ => trivial) (fun i x ρ s' hx hP N hN => ?_) fun ρ s' hP => ?_⟩
  · obtain ⟨o3, p, rfl, sub, sp⟩ := hP
    obtain ⟨hi, rfl⟩ := rangeD_get hx
    have hi : i < n := by simpa using hi
    simp
    refine ⟨by omega, fun q hq => ?_⟩
    have npq : p ≠ q := ne_put sp hq
    have en : ((n : Int) - ((i : Int) + 1)).toNat = n - (i + 1) := by omega
    have rl := rowP_len n i
    have fl := flat_len n i
    have in5 : i * n ≤ 25 := by
      have := Nat.mul_le_mul (show i ≤ 5 by omega) n5
      omega
    rw [en]
    refine comp_keep (fun k acc => acc = ((rowP n i).take k).map pairD) (by rw [rangeD_len, sizeLine_eq]; omega) rfl (fun _ => trivial) (fun k acc q => by subst q; rw [List.length_map]; exact List.length_take_le _ _) (fun k x acc hx hQ Y Z hY hZ => ?_) fun acc hQ => ?_
    · subst hQ
      obtain ⟨hk, rfl⟩ := rangeD_get hx
      have e : (rowP n i)[k]? = some (i, i + 1 + k) := by
        unfold rowP
        rw [List.getElem?_map, List.getElem?_range hk]; rfl
      rw [take_snoc e] at hY
      generalize put s' q (.lst (((rowP n i).take k).map pairD)) = S at hY ⊢
      simp [sizeLine_eq]
      exact hY _ _ (Sub.refl _) (by simp [pairD])
    · subst hQ
      have rl2 : (rowP n i).length = n - (i + 1) := by unfold rowP; simp
      rw [rangeD_len, List.take_of_length_le (by omega)]
      rw [y_addL]
      refine ⟨_, _, by rw [put_ne npq]; exact sp, put_same, by rw [List.length_map, List.length_map, sizeLine_eq]; omega, fun r hr => ?_⟩
      rw [← List.map_append, ← flat_succ]
      exact hN _ _ _ (Sub.refl _) ⟨_, r, rfl, ((sub.putN (sub_none sub hq)).putN (sub_none sub (put_is_none.mp hr).2)), put_same⟩
  · obtain ⟨o3, p, rfl, sub, sp⟩ := hP
    rw [rangeD_len] at sp
    simp at sp ⊢
    rw [← allPairs_eq] at sp
    have al : (allPairs n).length ≤ 25 := by
      rw [allPairs_eq]
      have := flat_len n n
      have := Nat.mul_le_mul n5 n5
      omega
    refine Eq.mpr (z_len (getL_some sp)) ?_
    rw [List.length_map]
    refine ⟨_, rfl, rfl, by omega, fun o ord ho hord => ?_⟩
    have nop : p ≠ o := ne_put sp ho
    refine ⟨(n : Int), rfl, rfl, by omega, by omega, fun q xs hq xl xn => sort_names hq xl xn fun q2 qs s2 sub2 sq q0 qn ql qso => ?_⟩
    have so2 : s2 o = some (.lst (natsD ord)) := sub2 _ _ put_same
    have sp2 : s2 p = some (.lst ((allPairs n).map pairD)) := sub2 _ _ (by rw [put_ne nop]; exact sp)
    have h2 : DL.Sub st s2 := (sub.putN (sub_none sub ho)).trans sub2
    refine Eq.mpr (z_seq (getL_some so2)) fun v hv => ?_
    have npv : p ≠ v := ne_put sp2 hv
    have nov : o ≠ v := ne_put so2 hv
    have nqv : q2 ≠ v := ne_put sq hv
    have il : ord.length = (allPairs n).length := by rw [hord.length_eq, List.length_range]
    have nl : (natsD ord).length = (allPairs n).length := by unfold natsD; rw [List.length_map, il]
    have ib : ∀ j ∈ ord, j < (allPairs n).length := fun j hj => List.mem_range.mp (hord.mem_iff.mp hj)
    have el : ∀ j, j < (allPairs n).length → (allPairs n)[j]? = some ((allPairs n)[j]?.getD (0, 0)) := fun j hj => by rw [List.getElem?_eq_getElem hj]; rfl
    refine comp_keep (fun k acc => acc = (ord.take k).map fun j => pairD ((allPairs n)[j]?.getD (0, 0))) (by rw [nl, sizeLine_eq]; omega) rfl (fun acc => by rw [getL_ne nov]; exact getL_some so2) (fun k acc q => by subst q; rw [List.length_map]; exact List.length_take_le _ _) (fun k x acc hx hQ Y Z hY hZ => ?_) fun acc hQ => ?_
    · subst hQ
      obtain ⟨j, hj, rfl⟩ : ∃ n : Nat, ord[k]? = some n ∧ .int (n : Int) = x := by simpa [natsD] using hx
      have jn := ib j (List.mem_of_getElem? hj)
      rw [take_snoc hj] at hY
      have gp : getL (put s2 v (.lst ((ord.take k).map fun j => pairD ((allPairs n)[j]?.getD (0, 0))))) p = some ((allPairs n).map pairD) := by rw [getL_ne npv]; exact getL_some sp2
      generalize put s2 v (.lst ((ord.take k).map fun j => pairD ((allPairs n)[j]?.getD (0, 0)))) = S at gp hY ⊢
      have e : ((allPairs n).map pairD)[j]? = some (pairD ((allPairs n)[j]?.getD (0, 0))) := by
        rw [List.getElem?_map]
        exact congrArg (Option.map pairD) (el j jn)
      simp [z_ixL gp e]
      exact hY _ _ (Sub.refl _) (by simp)
    · subst hQ
      rw [nl, ← il, List.take_length]
      have em : (List.range (allPairs n).length).map (fun j => (allPairs n)[j]?.getD (0, 0)) = allPairs n := by
        refine List.ext_getElem? fun k => ?_
        rw [List.getElem?_map]
        by_cases hk : k < (allPairs n).length
        · rw [List.getElem?_range hk]
          exact (el k hk).symm
        · rw [List.getElem?_eq_none (by rw [List.length_range]; omega), List.getElem?_eq_none (by omega)]; rfl
      have hp2 : (ord.map fun j => (allPairs n)[j]?.getD (0, 0)).Perm (allPairs n) := by
        have := hord.map (fun j => (allPairs n)[j]?.getD (0, 0))
        rw [em] at this
        exact this
      have bel := allPairs_below n
      refine ⟨qs, q2, v, ord.map fun j => (((allPairs n)[j]?.getD (0, 0)).1, ((allPairs n)[j]?.getD (0, 0)).2, []), rfl, rfl, rfl, by rw [getL_ne nqv]; exact getL_some sq, by rw [getL_self, List.map_map]; rfl, ⟨qn, by omega⟩, by omega, qso, by rw [List.length_map]; omega, fun r hr => ?_, fun ls gls fl => ?_⟩
      · obtain ⟨j, hj, rfl⟩ := List.mem_map.mp hr
        have := bel _ (List.mem_of_getElem? (el j (ib j hj)))
        exact ⟨by simp only; omega, by simp only; omega⟩
      · have fl2 : Flip (edges ls) (ord.map fun j => (allPairs n)[j]?.getD (0, 0)) := by
          rw [List.map_map] at fl
          exact fl
        exact ⟨st, h2.putN (sub_none h2 hv), h qs ls _ gls (by omega) hp2 fl2⟩
end K11
-- text K11P17
set_option Elab.async false
set_option linter.all false
set_option maxRecDepth 100000
set_option maxHeartbeats 2000000
set_option exponentiation.threshold 10000
/-! K11P17 -/
namespace K11
open PySem PySem.Spec PyProof.Rows L2 DL DR DG
theorem Flip.R {E F : Edges} (h : Flip E F) : FlipR E F := flipR_of h.1 h.2
theorem adj_perm {E F : Edges} (h : E.Perm F) {x y : Nat} : Adj E x y ↔ Adj F x y := by unfold Adj; rw [h.mem_iff, h.mem_iff]
theorem web_whole {n : Nat} {E F : Edges} (hF : F.Perm (allPairs n)) (hE : Flip E F) : Whole n E := fun x hx => by
  by_cases h0 : x = 0
  · subst h0; exact .refl _
  · refine Conn.one ((hE.R.adj 0 x).mpr ((adj_perm hF).mpr (.inl ?_)))
    unfold allPairs
    refine List.mem_flatMap.mpr ⟨0, List.mem_range.mpr (by omega), List.mem_map.mpr ⟨x, List.mem_filter.mpr ⟨List.mem_range.mpr hx, by simp; omega⟩, rfl⟩⟩
theorem wf_of {w : List Int} {P : Int → Prop} (h : ∀ x ∈ w, P x) {j : Nat} (hj : j < w.length) : P (wf w j) := h _ (wf_mem hj)
theorem pos_ok {n : Nat} {E : Edges} {w : List Int} (hl : w.length = E.length) (hw : ∀ x ∈ w, 1 ≤ x ∧ x ≤ 1000000000000) (hW : Whole n E) : WOk n E w := by
  have wp : ∀ j, j < E.length → 1 ≤ wf w j := fun j hj => (wf_of hw (by omega)).1
  refine ⟨hl, fun x hx => by have := hw x hx; omega, ?_, ?_⟩
  · have : rigT E (wf w) = [] := List.filter_eq_nil_iff.mpr fun j hj => by
      have := wp j (List.mem_range.mp hj)
      simp; omega
    rw [this]
    exact forest_nil n
  · have : absT E (wf w) = [] := List.filter_eq_nil_iff.mpr fun j hj => by
      have := wp j (List.mem_range.mp hj)
      simp; omega
    rw [this]
    have em : ∀ f, f ∈ E ↔ f ∈ dropE E [] := fun f => by
      rw [mem_dropE]
      constructor
      · intro hf
        obtain ⟨j, hj⟩ := List.mem_iff_getElem?.mp hf
        exact ⟨j, by simp, hj⟩
      · rintro ⟨j, _, hj⟩; exact List.mem_of_getElem? hj
    exact fun x hx => (conn_mem em 0 x).mp (hW x hx)
def webN (n : Nat) : Nat := cntL (allPairs n) ((List.range n).map fun (i : Nat) => (i : Int)) (n - 1)
theorem webN3 : webN 3 = 3 := by decide +kernel
theorem webN4 : webN 4 = 16 := by decide +kernel
theorem webN5 : webN 5 = 125 := by decide +kernel
theorem web_count {n : Nat} {E F : Edges} {w : List Int} (n1 : 1 ≤ n) (hB : Below n E) (hF : F.Perm (allPairs n)) (hE : Flip E F) (hl : w.length = E.length) (hw : ∀ x ∈ w, 1 ≤ x ∧ x ≤ 1000000000000) : (treesL n E w).length = webN n := by
  have ok := pos_ok hl hw (web_whole hF hE)
  unfold treesL
  rw [tree_count hB n1 (fun j hj => by have := (wf_of hw (show j < w.length by omega)).1; omega) ok.f ok.c, cnt_flip hE.R (n - 1) .nil, cnt_swap hF, cnt_start (allPairs_below n)]
  rfl
/-! ### the scene of a ring -/
def rigN (w : List Int) : Nat := w.countP fun x => decide (x = -1)
theorem z_countI {st : Stor} {R : KD} {p : Addr} {w : List Int} {v : Int} (g : getL st p = some (w.map .int)) : dCount p [.int v] st R = R (.int ((w.countP fun x => decide (x = v) : Nat) : Int)) st := by
  rw [z_count g .int (pureDs_ints w), List.countP_map]
  congr 3
theorem z_setI {p : Addr} {j : Nat} {xs : List D} {d : D} {st : Stor} {R : Stor → Prop} (h : st p = some (.lst xs)) (hj : j < xs.length) : dSetL p (.int (j : Nat)) d st R = R (put st p (.lst (xs.set j d))) := by
  show (∃ ys k, _) = _
  refine propext ⟨fun ⟨ys, k, h1, h2, h3⟩ => ?_, fun z => ⟨xs, j, h, by rw [ixN_nat, if_pos hj], z⟩⟩
  rw [h] at h1
  cases h1
  rw [ixN_nat, if_pos hj] at h2
  cases h2
  exact h3
/-- trees by their scene -/
theorem trees_same {n : Nat} {E : Edges} {w : List Int} {L : List (List Nat)} (hE : Below n E) (ok : WOk n E w) (nd : L.Nodup) (h : ∀ T, T ∈ L ↔ TreeOk n E (wf w) T) : (treesL n E w).Perm L := by
  refine (List.perm_ext_iff_of_nodup (prog_nodup hE ok.f ok.c) nd).mpr fun T => ?_
  rw [h, prog_trees hE ok.f ok.c fun j hj => (ok.b _ (wf_mem (by rw [ok.l]; exact hj))).1]
theorem sort_same {L M : List (List Nat)} (h : L.Perm M) : sortD (L.map lotD) = sortD (M.map lotD) := by
  refine sort_oneI (((sortD_perm _).trans (h.map _)).trans (sortD_perm _).symm) (fun d hd => ?_) (sortD_sorted _) (sortD_sorted _)
  obtain ⟨o, _, rfl⟩ := List.mem_map.mp ((sortD_perm _).mem_iff.mp hd)
  exact ⟨nI o, rfl⟩
/-- sorted(a list of trees), as a tuple -/
theorem sort_trees {L : List (List Nat)} {st : Stor} {R : KD} {p : Addr} (h : st p = some (.lst (L.map lotD))) (k : ∀ q, st q = none → R (.ref q) (put st q (.lst (sortD (L.map lotD))))) : dSorted [.ref p] st R := by
  rw [lots_in] at h k
  refine ⟨_, getL_some h, pure_ins _, depDs_ins _, alike_ins _, fun x hx => ?_, k⟩
  obtain ⟨s, _, rfl⟩ := List.mem_map.mp hx
  intro z; cases z
theorem ringE_L (ord : List Nat) (n : Nat) : ringE ord n = ringL ord n := rfl
def butL (w : List Int) (n i : Nat) : List (List Nat) := ((List.range i).filter fun a => decide (0 < wf w a)).map (butT n)
theorem butL_succ {w : List Int} {n i : Nat} : butL w n (i + 1) = butL w n i ++ if 0 < wf w i then [butT n i] else [] := by
  unfold butL
  rw [pick_succ, List.map_append]
  by_cases h : 0 < wf w i <;> simp [h]
theorem butL_len {w : List Int} {n : Nat} : ∀ i, (butL w n i).length ≤ i := fun i => by
  unfold butL
  rw [List.length_map]
  exact Nat.le_trans (List.length_filter_le _ _) (by simp)
theorem hs__law_ring_scene (t : Addr) : ∀ ds s R, sp__law_ring_scene t ds s R → rd__law_ring_scene t (endsD R) (startD N__law_ring_scene.length ds) s := by
  refine sp2.to fun x y st R h => ?_
  obtain ⟨n, rfl, rfl, n3, n9, h⟩ := h
  rw [st__law_ring_scene]; unfold rd__law_ring_scene
  simp [sizeLine_eq]
  refine ⟨n, rfl, rfl, n3, n9, fun ps ls gl pn ring p hp => ?_⟩
  refine ⟨by omega, loop_list (fun i acc ρ => ∃ (o4 : Option D) (w : List Int), ρ = [some (.ref t), some (.int (n : Nat)), some (gD ps ls [[]]), some (.ref p), o4, none, none] ∧ acc = w.map .int ∧ w.length = i ∧ (∀ x ∈ w, x = -1 ∨ 1 ≤ x ∧ x ≤ 1000000000000) ∧ rigN w + 2 ≤ n)
    ⟨none, [], rfl, rfl, rfl, (fun x hx => by cases hx), by simp [rigN]; omega⟩ (fun _ => trivial) (fun i x acc ρ hx hQ N hN => ?_) fun acc ρ hQ => ?_⟩
  · obtain ⟨o4, w, rfl, rfl, wl, wb, wr⟩ := hQ
    obtain ⟨hi, rfl⟩ := rangeD_get hx
    have hi : i < n := by simpa using hi
    simp
    refine ⟨rfl, fun y y1 y2 => Eq.mpr (z_append put_same (by rw [List.length_map, sizeLine_eq]; omega)) fun kd kd0 kd1 => ?_⟩
    rw [put_put]
    have em : w.map D.int ++ [.int y] = (w ++ [y]).map .int := by simp
    rw [em]
    have rn : ∀ z : Int, rigN (w ++ [z]) = rigN w + if z = -1 then 1 else 0 := fun z => by
      unfold rigN
      rw [List.countP_append, List.countP_cons, List.countP_nil]
      simp
    have bnd : ∀ z : Int, (z = -1 ∨ 1 ≤ z ∧ z ≤ 1000000000000) → ∀ x ∈ w ++ [z], x = -1 ∨ 1 ≤ x ∧ x ≤ 1000000000000 := fun z hz x hx => by
      rcases List.mem_append.mp hx with hx | hx
      · exact wb x hx
      · rw [List.mem_singleton.mp hx]; exact hz
    have stay : N [some (.ref t), some (.int (n : Nat)), some (gD ps ls [[]]), some (.ref p), some (.int (i : Nat)), none, none] (put st p (.lst ((w ++ [y]).map .int))) :=
      hN _ _ _ (Sub.refl _) ⟨_, w ++ [y], rfl, rfl, by simp [wl], bnd y (.inr ⟨y1, y2⟩), by rw [rn, if_neg (by omega)]; exact wr⟩
    by_cases k0 : kd = 0
    · rw [if_pos k0]
      refine ⟨⟨_, getL_self⟩, ?_⟩
      rw [z_countI getL_self]
      have ec : ((w ++ [y]).countP fun x => decide (x = -1)) = rigN w := by
        have := rn y
        rw [if_neg (by omega)] at this
        exact this
      rw [ec]
      show if decide ((rigN w : Int) < (n : Int) - 2) = true then _ else _
      by_cases c : (rigN w : Int) < (n : Int) - 2
      · rw [if_pos (by simpa using c)]
        refine Eq.mpr (z_setI put_same (by simp [wl])) ?_
        have es : ((w ++ [y]).map D.int).set i (.int (-1)) = (w ++ [-1]).map .int := by
          rw [← wl]; simp
        rw [put_put, es]
        exact hN _ _ _ (Sub.refl _) ⟨_, w ++ [-1], rfl, rfl, by simp [wl], bnd (-1) (.inl rfl), by rw [rn, if_pos rfl]; omega⟩
      · rw [if_neg (by simpa using c)]
        exact stay
    · rw [if_neg k0]
      exact stay
  · obtain ⟨o4, w, rfl, rfl, wl, wb, wr⟩ := hQ
    rw [rangeD_len] at wl
    simp
    intro q hq
    have npq : p ≠ q := ne_put put_same hq
    have ebl : ∀ j, j < n → wf w j = -1 ∨ 0 < wf w j := fun j hj => by
      have := wf_of wb (show j < w.length by omega)
      omega
    have wg : getL (put st p (.lst (w.map .int))) p = some (w.map .int) := getL_self
    have sub : DL.Sub st (put st p (.lst (w.map .int))) := Sub.put hp
    generalize put st p (.lst (w.map .int)) = S at hq wg sub ⊢
    refine ⟨by omega, loop_list (fun i acc ρ => ∃ o4 : Option D, ρ = [some (.ref t), some (.int (n : Nat)), some (gD ps ls [[]]), some (.ref p), o4, some (.ref q), none] ∧ acc = (butL w n i).map lotD) ⟨_, rfl, rfl⟩ (fun _ => trivial) (fun i x acc ρ hx hQ N hN => ?_) fun acc ρ hQ => ?_⟩
    · obtain ⟨o4, rfl, rfl⟩ := hQ
      obtain ⟨hi, rfl⟩ := rangeD_get hx
      have hi : i < n := by simpa using hi
      have bl := butL_len (w := w) (n := n) i
      have gp : getL (put S q (.lst ((butL w n i).map lotD))) p = some (w.map .int) := by rw [getL_ne npq]; exact wg
      have wi : (w.map D.int)[i]? = some (.int (wf w i)) := by
        rw [List.getElem?_map]
        unfold wf
        rw [List.getElem?_eq_getElem (show i < w.length by omega)]; rfl
      rw [butL_succ] at hN
      simp [z_ixL gp wi]
      by_cases c : 0 < wf w i
      · rw [if_pos c] at hN
        rw [if_pos c]
        refine ⟨by omega, fun r hr => ?_⟩
        have nqr : q ≠ r := ne_put put_same hr
        refine comp_keep (fun k acc => acc = natsD ((List.range k).filter fun j => decide (j ≠ i))) (by rw [rangeD_len, sizeLine_eq]; omega) rfl (fun _ => trivial) (fun k acc q => by subst q; unfold natsD; rw [List.length_map]; exact Nat.le_trans (List.length_filter_le _ _) (by simp)) (fun k x acc hx hQ Y Z hY hZ => ?_) fun acc hQ => ?_
        · subst hQ
          obtain ⟨hk, rfl⟩ := rangeD_get hx
          rw [pick_succ] at hY hZ
          generalize put (put S q (.lst ((butL w n i).map lotD))) r (.lst (natsD ((List.range k).filter fun j => decide (j ≠ i)))) = S2 at hY hZ ⊢
          simp
          by_cases e : k = i
          · subst e
            simp
            exact hZ _ (Sub.refl _) (by simp)
          · have e2 : ¬ ((k : Int) = (i : Int)) := by omega
            simp [e, e2]
            exact hY _ _ (Sub.refl _) (by simp [e, natsD])
        · subst hQ
          rw [rangeD_len]
          refine Eq.mpr (z_tuple getL_self) ?_
          rw [tup_lot]
          refine ⟨_, Sub.put hr, ?_⟩
          refine Eq.mpr (z_append put_same (by rw [List.length_map, sizeLine_eq]; omega)) ?_
          rw [put_put]
          exact hN _ _ _ (Sub.refl _) ⟨_, rfl, by simp [butT]⟩
      · rw [if_neg c] at hN
        rw [if_neg c]
        exact hN _ _ _ (Sub.refl _) ⟨_, rfl, by simp⟩
    · obtain ⟨o4, rfl, rfl⟩ := hQ
      rw [rangeD_len]
      simp
      refine Eq.mpr (z_tuple (by rw [getL_ne npq]; exact wg)) ⟨_, Sub.refl _, sort_trees put_same fun u hu => Eq.mpr (z_tuple getL_self) ⟨_, Sub.refl _, by rw [sizeLine_eq]; omega, ?_⟩⟩
      obtain ⟨ord, F, ho, hF, hfl⟩ := ring
      have hE : Below n (edges ls) := by rw [← pn]; exact gl.ed
      have el : (edges ls).length = n := by rw [hfl.1, hF.length_eq]; simp
      have tr : ∀ T, T ∈ butL w n n ↔ TreeOk n (edges ls) (wf w) T := fun T => by
        rw [ring_trees (by omega) hE ho hF hfl.R ebl]
        unfold butL
        rw [List.mem_map]
        constructor
        · rintro ⟨a, h1, rfl⟩
          obtain ⟨h2, h3⟩ := List.mem_filter.mp h1
          exact ⟨a, List.mem_range.mp h2, of_decide_eq_true h3, rfl⟩
        · rintro ⟨a, h1, h2, rfl⟩
          exact ⟨a, List.mem_filter.mpr ⟨List.mem_range.mpr h1, decide_eq_true h2⟩, rfl⟩
      have nd : (butL w n n).Nodup := by
        refine List.pairwise_map.mpr (List.Pairwise.imp_of_mem (fun {a c} ha hc ne e => ?_) (List.Pairwise.filter _ List.nodup_range))
        have ha' := List.mem_range.mp (List.mem_filter.mp ha).1
        have : a ∉ butT n a := fun z => (mem_but.mp z).2 rfl
        rw [e] at this
        exact this (mem_but.mpr ⟨ha', ne⟩)
      obtain ⟨a, ha, wa⟩ : ∃ a, a < n ∧ 0 < wf w a := by
        refine Classical.byContradiction fun z => ?_
        have all : ∀ x ∈ w, decide (x = -1) = true := fun x hx => by
          obtain ⟨j, hj⟩ := List.mem_iff_getElem?.mp hx
          have hj' := (List.getElem?_eq_some_iff.mp hj).1
          have e : wf w j = x := by unfold wf; rw [hj]; rfl
          have := ebl j (by omega)
          rcases this with q | q
          · rw [e] at q; simpa using q
          · exact absurd ⟨j, by omega, q⟩ z
        have : rigN w = w.length := List.countP_eq_length.mpr all
        omega
      have t0 := (tr (butT n a)).mp (List.mem_map.mpr ⟨a, List.mem_filter.mpr ⟨List.mem_range.mpr ha, decide_eq_true wa⟩, rfl⟩)
      have ok : WOk n (edges ls) w := ⟨by omega, fun x hx => by have := wb x hx; omega, (tree_ok hE t0).1, (tree_ok hE t0).2⟩
      have pm := trees_same hE ok nd tr
      have bl := butL_len (w := w) (n := n) n
      have ed : (D.tup (sortD ((butL w n n).map lotD))) = treesD ps.length (edges ls) w := by
        unfold treesD
        rw [pn, sort_same pm]
      show ∃ s2, DL.Sub s2 _ ∧ R (.tup [gD ps ls [[]], inD w, .tup (sortD ((butL w n n).map lotD))]) s2
      rw [ed]
      have ll : ls.length = n := by rw [← edges_len (ls := ls)]; exact el
      refine ⟨st, (sub.putN (sub_none sub hq)).putN (sub_none sub (put_is_none.mp hu).2), h ps ls w ⟨gl, by omega, by rw [pn]; exact ok, by rw [pn, pm.length_eq]; omega⟩⟩
end K11
-- text K11P18
set_option Elab.async false
set_option linter.all false
set_option maxRecDepth 100000
set_option maxHeartbeats 2000000
set_option exponentiation.threshold 10000
/-! K11P18 -/
namespace K11
open PySem PySem.Spec PyProof.Rows L2 DL DR DG
def zAt (zs : List Nat) (k : Nat) : Nat := zs[k]?.getD 0
def blT (zs : List Nat) (i : Nat) : List Nat := (List.range i).flatMap fun k => List.replicate (zAt zs k) k
theorem blT_succ (zs : List Nat) (i : Nat) : blT zs (i + 1) = blT zs i ++ List.replicate (zAt zs i) i := by
  unfold blT
  rw [List.range_succ, List.flatMap_append]; simp
theorem blT_count (zs : List Nat) (k : Nat) : ∀ i, (blT zs i).count k = if k < i then zAt zs k else 0
  | 0 => by simp [blT]
  | i + 1 => by
    rw [blT_succ, List.count_append, blT_count zs k i, List.count_replicate]
    by_cases h : k < i
    · have ne : ¬ (i == k) = true := by simp; omega
      rw [if_pos h, if_neg ne, if_pos (by omega)]; rfl
    · rw [if_neg h]
      by_cases e : i = k
      · subst e; simp
      · rw [if_neg (by simpa using e), if_neg (by omega)]
theorem blT_len (zs : List Nat) : ∀ i, i ≤ zs.length → (blT zs i).length = (zs.take i).sum
  | 0, _ => by simp [blT]
  | i + 1, h => by
    have e : zs[i]? = some (zAt zs i) := by unfold zAt; rw [List.getElem?_eq_getElem (show i < zs.length by omega)]; rfl
    rw [blT_succ, List.length_append, blT_len zs i (by omega), List.length_replicate, List.take_add_one, e, List.sum_append]
    simp
theorem blT_lt (zs : List Nat) (i : Nat) : ∀ x ∈ blT zs i, x < i := fun x hx => by
  unfold blT at hx
  obtain ⟨k, hk, hx⟩ := List.mem_flatMap.mp hx
  rw [List.eq_of_mem_replicate hx]
  exact List.mem_range.mp hk
theorem sum_take (zs : List Nat) (i : Nat) : (zs.take i).sum ≤ zs.sum := by
  have := List.sum_append (l₁ := zs.take i) (l₂ := zs.drop i)
  rw [List.take_append_drop] at this
  omega
/-- the bundle of a link -/
def bAt (ms : List Nat) (j : Nat) : Nat := ms[j]?.getD 0
def gB (ms : List Nat) (k : Nat) : List Nat := (List.range ms.length).filter fun j => decide (bAt ms j = k)
theorem mem_gB {ms : List Nat} {k j : Nat} : j ∈ gB ms k ↔ j < ms.length ∧ bAt ms j = k := by unfold gB; rw [List.mem_filter, List.mem_range, decide_eq_true_iff]
theorem map_at (ms : List Nat) : (List.range ms.length).map (bAt ms) = ms := by
  refine List.ext_getElem? fun k => ?_
  rw [List.getElem?_map]
  by_cases hk : k < ms.length
  · rw [List.getElem?_range hk]
    show some (ms[k]?.getD 0) = _
    rw [List.getElem?_eq_getElem hk]; rfl
  · rw [List.getElem?_eq_none (by rw [List.length_range]; omega), List.getElem?_eq_none (by omega)]; rfl
theorem gB_len (ms : List Nat) (k : Nat) : (gB ms k).length = ms.count k := by
  have h := congrArg (List.count k) (map_at ms)
  rw [← h]
  unfold gB List.count
  rw [← List.countP_eq_length_filter, List.countP_map]
  refine List.countP_congr fun x _ => ?_
  simp
def prodZ (zs : List Nat) (k : Nat) : Nat := (zs.take k).foldl (· * ·) 1
theorem prodZ_succ {zs : List Nat} {k : Nat} (h : k < zs.length) : prodZ zs (k + 1) = prodZ zs k * zAt zs k := by
  have e : zs[k]? = some (zAt zs k) := by unfold zAt; rw [List.getElem?_eq_getElem h]; rfl
  unfold prodZ
  rw [List.take_add_one, e, List.foldl_append]; rfl
theorem prodZ_le {zs : List Nat} (hz : ∀ s ∈ zs, 1 ≤ s) : ∀ d k, k + d ≤ zs.length → prodZ zs k ≤ prodZ zs (k + d)
  | 0, _, _ => Nat.le_refl _
  | d + 1, k, h => by
    have h1 := prodZ_le hz d k (by omega)
    have z1 : 1 ≤ zAt zs (k + d) := by
      unfold zAt
      rw [List.getElem?_eq_getElem (show k + d < zs.length by omega)]
      exact hz _ (List.getElem_mem _)
    rw [← Nat.add_assoc, prodZ_succ (by omega)]
    have := Nat.mul_le_mul_left (prodZ zs (k + d)) z1
    omega
theorem prodZ_all (zs : List Nat) : prodZ zs zs.length = zs.foldl (· * ·) 1 := by unfold prodZ; rw [List.take_length]
/-- one link of a bundle as the law writes it -/
def trN (ord : List Nat) (k : Nat) : Nat × Nat × List D := (ord[k]?.getD 0, ord[k + 1]?.getD 0, [.int (k : Nat)])
/-- what the loop over the bundles keeps -/
structure BI (m K : Nat) (zs ms : List Nat) (w : List Int) (G : Nat → List Nat) (k : Nat) : Prop where
  l : w.length = m
  b : ∀ x ∈ w, -1 ≤ x ∧ x ≤ 1000000000000
  mem : ∀ k', k' < k → ∀ j ∈ G k', j < m ∧ bAt ms j = k' ∧ wf w j ≠ 0
  nd : ∀ k', k' < k → (G k').Nodup
  ne : ∀ k', k' < k → G k' ≠ []
  gl : ∀ k', k' < k → (G k').length ≤ zAt zs k'
  r : ∀ j, j < m → bAt ms j < k → wf w j = -1 → G (bAt ms j) = [j]
  x : ∀ j, j < m → bAt ms j < k → wf w j ≠ 0 → j ∉ G (bAt ms j) → ∃ i, i < m ∧ wf w i = -1 ∧ bAt ms i = bAt ms j
  f : ∀ j, j < m → k ≤ bAt ms j → 1 ≤ wf w j
def upG (G : Nat → List Nat) (k : Nat) (g : List Nat) : Nat → List Nat := fun i => if i = k then g else G i
theorem upG_same {G : Nat → List Nat} {k : Nat} {g : List Nat} : upG G k g k = g := if_pos rfl
theorem upG_ne {G : Nat → List Nat} {k i : Nat} {g : List Nat} (h : i ≠ k) : upG G k g i = G i := if_neg h
theorem wf_set {w : List Int} {i : Nat} {v : Int} (hi : i < w.length) (j : Nat) : wf (w.set i v) j = if j = i then v else wf w j := by
  unfold wf
  by_cases e : j = i
  · subst e; rw [if_pos rfl, List.getElem?_set_self hi]; rfl
  · rw [if_neg e, List.getElem?_set_ne (Ne.symm e)]
theorem set_bound {w : List Int} {i : Nat} {v : Int} (hb : ∀ x ∈ w, -1 ≤ x ∧ x ≤ 1000000000000) (hv : -1 ≤ v ∧ v ≤ 1000000000000) : ∀ x ∈ w.set i v, -1 ≤ x ∧ x ≤ 1000000000000 := fun x hx => by
  rcases List.mem_or_eq_of_mem_set hx with h | h
  · exact hb x h
  · rw [h]; exact hv
section
variable {m K : Nat} {zs ms : List Nat} {w : List Int} {G : Nat → List Nat} {k : Nat}
/-- the next bundle: w only changes in it -/
theorem BI.next (B : BI m K zs ms w G k) {w' : List Int} {g : List Nat} (wl : w'.length = m) (wb : ∀ x ∈ w', -1 ≤ x ∧ x ≤ 1000000000000) (same : ∀ j, bAt ms j ≠ k → wf w' j = wf w j)
    (gm : ∀ j ∈ g, j < m ∧ bAt ms j = k ∧ wf w' j ≠ 0) (gn : g.Nodup) (ge : g ≠ []) (gl : g.length ≤ zAt zs k) (gr : ∀ j, j < m → bAt ms j = k → wf w' j = -1 → g = [j])
    (gx : ∀ j, j < m → bAt ms j = k → wf w' j ≠ 0 → j ∉ g → ∃ i, i < m ∧ wf w' i = -1 ∧ bAt ms i = k) : BI m K zs ms w' (upG G k g) (k + 1) := by
  refine ⟨wl, wb, fun k' hk j hj => ?_, fun k' hk => ?_, fun k' hk => ?_, fun k' hk => ?_, fun j hj hk hw => ?_, fun j hj hk hw hg => ?_, fun j hj hk => ?_⟩
  · by_cases e : k' = k
    · subst e; rw [upG_same] at hj; exact gm j hj
    · rw [upG_ne e] at hj
      obtain ⟨a, b, c⟩ := B.mem k' (by omega) j hj
      exact ⟨a, b, by rw [same j (by omega)]; exact c⟩
  · by_cases e : k' = k
    · subst e; rw [upG_same]; exact gn
    · rw [upG_ne e]; exact B.nd k' (by omega)
  · by_cases e : k' = k
    · subst e; rw [upG_same]; exact ge
    · rw [upG_ne e]; exact B.ne k' (by omega)
  · by_cases e : k' = k
    · subst e; rw [upG_same]; exact gl
    · rw [upG_ne e]; exact B.gl k' (by omega)
  · by_cases e : bAt ms j = k
    · rw [e, upG_same]; exact gr j hj e hw
    · rw [upG_ne e]; exact B.r j hj (by omega) (by rw [← same j e]; exact hw)
  · by_cases e : bAt ms j = k
    · rw [e, upG_same] at hg; rw [e]; exact gx j hj e hw hg
    · rw [upG_ne e] at hg
      obtain ⟨i, h1, h2, h3⟩ := B.x j hj (by omega) (by rw [← same j e]; exact hw) hg
      exact ⟨i, h1, by rw [same i (by omega)]; exact h2, h3⟩
  · rw [same j (by omega)]; exact B.f j hj (by omega)
theorem BI.keep (B : BI m K zs ms w G k) (hm : ms.length = m) (hz : 1 ≤ zAt zs k) (hc : ms.count k = zAt zs k) : BI m K zs ms w (upG G k (gB ms k)) (k + 1) := by
  have gl := gB_len ms k
  refine B.next B.l B.b (fun _ _ => rfl) (fun j hj => ?_) (List.Pairwise.filter _ List.nodup_range) (fun e => by rw [e] at gl; simp at gl; omega) (by omega) (fun j hj e hw => ?_) fun j hj e _ hg => ?_
  · obtain ⟨a, b⟩ := mem_gB.mp hj
    exact ⟨by omega, b, by have := B.f j (by omega) (by omega); omega⟩
  · have := B.f j hj (by omega); omega
  · exact absurd (mem_gB.mpr ⟨by omega, e⟩) hg
theorem BI.drop (B : BI m K zs ms w G k) (hm : ms.length = m) (hc : ms.count k = zAt zs k) {i a : Nat} (hi : (gB ms k)[i]? = some a) (h1 : 1 < (gB ms k).length) : BI m K zs ms (w.set a 0) (upG G k ((gB ms k).eraseIdx i)) (k + 1) := by
  have gl := gB_len ms k
  have nd : (gB ms k).Nodup := List.Pairwise.filter _ List.nodup_range
  obtain ⟨a1, a2⟩ := mem_gB.mp (List.mem_of_getElem? hi)
  have al : a < w.length := by rw [B.l]; omega
  have hil := (List.getElem?_eq_some_iff.mp hi).1
  have mem : ∀ j, j ∈ (gB ms k).eraseIdx i ↔ j ∈ gB ms k ∧ j ≠ a := fun j => by
    rw [List.mem_eraseIdx_iff_getElem?]
    constructor
    · rintro ⟨c, h2, h3⟩
      refine ⟨List.mem_of_getElem? h3, fun e => h2 ?_⟩
      subst e
      obtain ⟨l1, e1⟩ := List.getElem?_eq_some_iff.mp h3
      obtain ⟨l2, e2⟩ := List.getElem?_eq_some_iff.mp hi
      have pw := List.pairwise_iff_getElem.mp nd
      rcases Nat.lt_trichotomy c i with q | q | q
      · exact absurd (e1.trans e2.symm) (pw c i l1 l2 q)
      · exact q
      · exact absurd (e2.trans e1.symm) (pw i c l2 l1 q)
    · rintro ⟨h2, h3⟩
      obtain ⟨c, hc⟩ := List.mem_iff_getElem?.mp h2
      exact ⟨c, fun e => by subst e; rw [hi] at hc; cases hc; exact h3 rfl, hc⟩
  have el : ((gB ms k).eraseIdx i).length = (gB ms k).length - 1 := List.length_eraseIdx_of_lt hil
  refine B.next (by rw [List.length_set]; exact B.l) (set_bound B.b (by omega)) (fun j hj => by rw [wf_set al, if_neg (fun e => hj (by rw [e]; exact a2))]) (fun j hj => ?_) (nd.sublist (List.eraseIdx_sublist _ _)) (fun e => by rw [e] at el; simp at el; omega) (by omega) (fun j hj e hw => ?_) fun j hj e hw hg => ?_
  · obtain ⟨h2, h3⟩ := (mem j).mp hj
    obtain ⟨h4, h5⟩ := mem_gB.mp h2
    refine ⟨by omega, h5, ?_⟩
    rw [wf_set al, if_neg h3]
    have := B.f j (by omega) (by omega); omega
  · rw [wf_set al] at hw
    split at hw
    · omega
    · have := B.f j hj (by omega); omega
  · rw [wf_set al] at hw
    by_cases q : j = a
    · rw [if_pos q] at hw; exact absurd rfl hw
    · exact absurd ((mem j).mpr ⟨mem_gB.mpr ⟨by omega, e⟩, q⟩) hg
theorem BI.rig (B : BI m K zs ms w G k) (hm : ms.length = m) (hz : 1 ≤ zAt zs k) {a : Nat} (ha : a ∈ gB ms k) : BI m K zs ms (w.set a (-1)) (upG G k [a]) (k + 1) := by
  obtain ⟨a1, a2⟩ := mem_gB.mp ha
  have al : a < w.length := by rw [B.l]; omega
  refine B.next (by rw [List.length_set]; exact B.l) (set_bound B.b (by omega)) (fun j hj => by rw [wf_set al, if_neg (fun e => hj (by rw [e]; exact a2))]) (fun j hj => ?_) (by simp) (by simp) (by simpa using hz) (fun j hj e hw => ?_) fun j hj e hw hg => ⟨a, by omega, by rw [wf_set al, if_pos rfl], a2⟩
  · rw [List.mem_singleton.mp hj]
    exact ⟨by omega, a2, by rw [wf_set al, if_pos rfl]; omega⟩
  · rw [wf_set al] at hw
    by_cases q : j = a
    · rw [q]
    · rw [if_neg q] at hw
      have := B.f j hj (by omega); omega
theorem BI.done (B : BI m K zs ms w G K) (hb : ∀ j, j < m → bAt ms j < K) : Grp K m (bAt ms) (wf w) G :=
  ⟨B.mem, B.nd, B.ne, fun j hj => B.r j hj (hb j hj), fun j hj => B.x j hj (hb j hj)⟩
end
theorem sel_prod {m : Nat} {zs : List Nat} {G : Nat → List Nat} : ∀ k, k ≤ zs.length → (∀ k', k' < k → (G k').length ≤ zAt zs k') → (selRows m G k).length ≤ prodZ zs k
  | 0, _, _ => by simp [selRows, prodZ]
  | k + 1, h, hg => by
    rw [sel_len, prodZ_succ (by omega), Nat.mul_comm]
    exact Nat.mul_le_mul (sel_prod k (by omega) fun k' hk => hg k' (by omega)) (hg k (by omega))
end K11
-- text K11P19
set_option Elab.async false
set_option linter.all false
set_option maxRecDepth 100000
set_option maxHeartbeats 4000000
set_option exponentiation.threshold 10000
/-! K11P19 -/
namespace K11
open PySem PySem.Spec PyProof.Rows L2 DL DR DG
def trD (ord : List Nat) (k : Nat) : D := tripD (trN ord k)
theorem rows_step {t a o p p7 p9 p11 p12 : Addr} {r z : Int} {gd : D} {o6 o13 o14 o15 : Option D} {EE : EndsD} {N : Rho → Stor → Prop} {s4 : Stor} {m k : Nat} {G : Nat → List Nat} {g : List Nat}
    (hr : s4 p11 = some (.lst ((selRows m G k).map lotD))) (hg : s4 p12 = some (.lst (natsD g))) (h9 : ∃ c, s4 p9 = some c) (gm : ∀ j ∈ g, j < m ∧ ∀ T ∈ selRows m G k, j ∉ T) (rm : ∀ T ∈ selRows m G k, Inc m T) (m16 : m ≤ 16) (len : g.length * (selRows m G k).length ≤ 400) (gl : g.length ≤ 16)
    (hN : ∀ o13 s5 p15, DL.Sub s4 s5 → s5 p15 = some (.lst ((g.flatMap fun a => (selRows m G k).map (insT m a)).map lotD)) → p15 ≠ p9 → N [some (.ref t), some (.ref a), some (.int r), some (.int z), some (.ref o), some (.ref p), o6, some (.ref p7), some gd, some (.ref p9), none, some (.ref p15), some (.ref p12), o13, o14, some (.ref p15), none] s5) :
    rk__law_bundles_0 t (EE.turn N) [some (.ref t), some (.ref a), some (.int r), some (.int z), some (.ref o), some (.ref p), o6, some (.ref p7), some gd, some (.ref p9), none, some (.ref p11), some (.ref p12), o13, o14, o15, none] s4 := by
  rw [ru__law_bundles_0]
  simp [sizeLine_eq]
  intro q hq
  obtain ⟨c9, h9⟩ := h9
  have nq9 : q ≠ p9 := fun e => by subst e; rw [hq] at h9; cases h9
  rw [z_seq (by rw [getL_ne (ne_put hg hq)]; exact getL_some hg)]
  have gnl : (natsD g).length = g.length := by unfold natsD; rw [List.length_map]
  refine loop_any (fun i ρ s' => ∃ (o13 : Option D) (p15 : Addr), ρ = [some (.ref t), some (.ref a), some (.int r), some (.int z), some (.ref o), some (.ref p), o6, some (.ref p7), some gd, some (.ref p9), none, some (.ref p11), some (.ref p12), o13, o14, some (.ref p15), none] ∧ DL.Sub s4 s' ∧ p15 ≠ p9 ∧ s' p15 = some (.lst (((g.take i).flatMap fun a => (selRows m G k).map (insT m a)).map lotD)))
    ⟨o13, q, rfl, Sub.put hq, nq9, by rw [put_same]; simp⟩ (fun i ρ s' h => by obtain ⟨_, _, _, h1, _⟩ := h; exact getL_some (h1 _ _ hg)) (fun i x ρ s' hx hP M hM => ?_) fun ρ s' hP => ?_
  · obtain ⟨o13, p15, rfl, sub, n15, s15⟩ := hP
    obtain ⟨b, hb, rfl⟩ : ∃ n : Nat, g[i]? = some n ∧ .int (n : Int) = x := by simpa [natsD] using hx
    have hi := (List.getElem?_eq_some_iff.mp hb).1
    obtain ⟨b1, b2⟩ := gm b (List.mem_of_getElem? hb)
    rw [take_snoc hb, List.flatMap_append, List.map_append] at hM
    simp
    have h11 := sub _ _ hr
    rw [z_seq (getL_some h11)]
    intro u hu
    have n11u : p11 ≠ u := ne_put h11 hu
    have n15u : p15 ≠ u := ne_put s15 hu
    have fl : ∀ j, ((g.take j).flatMap fun a => (selRows m G k).map (insT m a)).length = (g.take j).length * (selRows m G k).length := fun j => by
      generalize g.take j = gg
      induction gg with
      | nil => simp
      | cons a r ih => rw [List.flatMap_cons, List.length_append, List.length_map, ih, List.length_cons, Nat.succ_mul, Nat.add_comm]
    have l1 := Nat.mul_le_mul_right (selRows m G k).length (show i + 1 ≤ g.length by omega)
    rw [Nat.succ_mul] at l1
    have l2 := fl i
    rw [List.length_take, Nat.min_eq_left (by omega)] at l2
    refine comp_keep (fun d acc => acc = ((selRows m G k).take d).map fun T => lotD (insT m b T)) (by rw [List.length_map, sizeLine_eq]; omega) rfl (fun acc => by rw [getL_ne n11u]; exact getL_some h11) (fun d acc q => by subst q; rw [List.length_map]; exact List.length_take_le _ _) (fun d x acc hx hQ Y Z hY hZ => ?_) fun acc hQ => ?_
    · subst hQ
      obtain ⟨T, hT, rfl⟩ : ∃ T, (selRows m G k)[d]? = some T ∧ lotD T = x := by
        rw [List.getElem?_map] at hx
        cases e : (selRows m G k)[d]? with
        | none => rw [e] at hx; cases hx
        | some s => rw [e] at hx; exact ⟨s, rfl, by simpa using hx⟩
      have Tm := List.mem_of_getElem? hT
      have Tl := inc_len (rm T Tm)
      rw [take_snoc hT] at hY
      generalize put s' u (.lst (((selRows m G k).take d).map fun T => lotD (insT m b T))) = S at hY ⊢
      simp [x_addLot]
      refine ⟨by rw [sizeLine_eq]; omega, by rw [sizeLine_eq]; omega, sort_lot (ins_perm (rm T Tm) b1 (b2 T Tm)).symm (inc_filter _ _).1 fun v hv => Eq.mpr (z_tuple getL_self) ?_⟩
      rw [tup_lot]
      exact ⟨_, Sub.put hv, hY _ _ (Sub.refl _) (by simp [insT])⟩
    · subst hQ
      rw [List.length_map, List.take_length, y_addL]
      refine ⟨_, _, by rw [put_ne n15u]; exact s15, put_same, by rw [List.length_map, List.length_map, l2, sizeLine_eq]; omega, fun v hv => ?_⟩
      have sv : DL.Sub s4 (put s' u (.lst ((selRows m G k).map fun T => lotD (insT m b T)))) := sub.trans (Sub.put hu)
      have nv9 : v ≠ p9 := fun e => by subst e; rw [sv _ _ h9] at hv; cases hv
      refine hM _ _ _ (Sub.refl _) ⟨_, v, rfl, sv.trans (Sub.put hv), nv9, ?_⟩
      rw [put_same]
      simp [List.map_map]
  · obtain ⟨o13, p15, rfl, sub, n15, s15⟩ := hP
    rw [gnl, List.take_length] at s15
    simp
    exact hN _ _ _ sub s15 n15
theorem hs__law_bundles (t : Addr) : ∀ ds s R, sp__law_bundles t ds s R → rd__law_bundles t (endsD R) (startD N__law_bundles.length ds) s := by
  refine sp3.to fun x y z st R h => ?_
  obtain ⟨a, zs, r, rfl, rfl, rfl, ga, z1, z8, zp, zsum, zprod, r2, r30, h⟩ := h
  rw [st__law_bundles]; unfold rd__law_bundles
  have zl : (natsD zs).length = zs.length := by unfold natsD; rw [List.length_map]
  have zg : ∀ k, k < zs.length → (natsD zs)[k]? = some (.int (zAt zs k : Nat)) ∧ 1 ≤ zAt zs k := fun k hk => by
    unfold natsD zAt
    rw [List.getElem?_map, List.getElem?_eq_getElem hk]
    exact ⟨rfl, zp _ (List.getElem_mem _)⟩
  simp [sizeLine_eq, z_len ga, zl]
  refine ⟨zs.length + 1, rfl, by push_cast; rfl, by omega, fun o ord ho hord p5 hp5 => ?_⟩
  have ol : ord.length = zs.length + 1 := by rw [hord.length_eq, List.length_range]
  have og : ∀ k, k ≤ zs.length → ord[k]? = some (ord[k]?.getD 0) ∧ ord[k]?.getD 0 < zs.length + 1 := fun k hk => by
    have e := List.getElem?_eq_getElem (show k < ord.length by omega)
    rw [e]
    exact ⟨rfl, List.mem_range.mp (hord.mem_iff.mp (List.mem_of_getElem? e))⟩
  have og1 : ∀ k, k ≤ zs.length → (natsD ord)[k]? = some (.int ((ord[k]?.getD 0 : Nat) : Int)) := fun k hk => by
    unfold natsD
    rw [List.getElem?_map, (og k hk).1]; rfl
  have nop5 : o ≠ p5 := ne_put put_same hp5
  have s0 : DL.Sub st (put (put st o (.lst (natsD ord))) p5 (.lst [])) := (Sub.put ho).putN (put_is_none.mp hp5).2
  have so : put (put st o (.lst (natsD ord))) p5 (.lst []) o = some (.lst (natsD ord)) := by rw [put_ne nop5]; exact put_same
  have sp5 : put (put st o (.lst (natsD ord))) p5 (.lst []) p5 = some (.lst []) := put_same
  generalize put (put st o (.lst (natsD ord))) p5 (.lst []) = S at s0 so sp5 ⊢
  refine Eq.mpr (z_len (getL_sub s0 ga)) ?_
  rw [zl]
  refine ⟨by omega, loop_any (fun i ρ s' => ∃ (o6 : Option D) (p : Addr), ρ = [some (.ref t), some (.ref a), some (.int r), some (.int ((zs.length : Int) + 1)), some (.ref o), some (.ref p), o6, none, none, none, none, none, none, none, none, none, none] ∧ DL.Sub S s' ∧ s' p = some (.lst ((blT zs i).map (trD ord))))
    ⟨none, p5, rfl, Sub.refl _, sp5⟩ (fun _ _ _ _ => trivial) (fun i x ρ s' hx hP N hN => ?_) fun ρ s' hP => ?_⟩
  · obtain ⟨o6, p, rfl, sub, sp⟩ := hP
    obtain ⟨hi, rfl⟩ := rangeD_get hx
    have hi : i < zs.length := by simpa using hi
    obtain ⟨zi, zi1⟩ := zg i hi
    have gz := getL_sub (s0.trans sub) ga
    have go := getL_some (sub _ _ so)
    have e1 : (i : Int) + 1 = ((i + 1 : Nat) : Int) := by push_cast; rfl
    simp
    rw [z_ixL go (og1 i (by omega)), e1, z_ixL go (og1 (i + 1) (by omega))]
    refine ⟨by rw [sizeLine_eq]; omega, by rw [sizeLine_eq]; omega, fun q hq => ?_⟩
    have npq : p ≠ q := ne_put sp hq
    have naq : getL (put s' q (.lst [D.tup [.int ((ord[i]?.getD 0 : Nat) : Int), .int ((ord[i + 1]?.getD 0 : Nat) : Int), .int (i : Nat)]])) a = some (natsD zs) := getL_sub (Sub.put hq) gz
    have bl := blT_len zs i (by omega)
    have bs := sum_take zs i
    have bl1 := blT_len zs (i + 1) (by omega)
    have bs1 := sum_take zs (i + 1)
    rw [blT_succ, List.length_append, List.length_replicate] at bl1
    rw [z_ixL naq zi, z_mulL put_same (by omega) (by omega) (by simp [sizeLine_eq]; omega)]
    intro u hu
    have npu : p ≠ u := ne_put (Sub.put hq _ _ sp) hu
    rw [put_is_none] at hu
    rw [y_addL]
    refine ⟨_, _, by rw [put_ne npu, put_ne npq]; exact sp, put_same, ?_, fun v hv => ?_⟩
    · simp [sizeLine_eq]
      omega
    · rw [put_is_none, put_is_none] at hv
      have e2 : (List.replicate (zAt zs i : Int).toNat [D.tup [.int ((ord[i]?.getD 0 : Nat) : Int), .int ((ord[i + 1]?.getD 0 : Nat) : Int), .int (i : Nat)]]).flatten = (List.replicate (zAt zs i) i).map (trD ord) := by
        rw [List.flatten_replicate_singleton, List.map_replicate]
        rfl
      rw [e2, ← List.map_append, ← blT_succ]
      exact hN _ _ _ (Sub.refl _) ⟨_, v, rfl, ((sub.putN (sub_none sub hq)).putN (sub_none sub hu.2)).putN (sub_none sub hv.2.2), put_same⟩
  · obtain ⟨o6, p, rfl, sub, sp⟩ := hP
    rw [rangeD_len] at sp
    have en : ((zs.length : Int)).toNat = zs.length := by omega
    rw [en] at sp
    have so1 := sub _ _ so
    have s1 := s0.trans sub
    have bl := blT_len zs zs.length (Nat.le_refl _)
    rw [List.take_length] at bl
    simp
    refine Eq.mpr (z_len (getL_some sp)) ?_
    rw [List.length_map]
    refine ⟨_, rfl, rfl, by omega, fun q js hq hjs => ?_⟩
    have jl : js.length = zs.sum := by rw [hjs.length_eq, List.length_range, bl]
    have jb : ∀ j ∈ js, j < (blT zs zs.length).length := fun j hj => List.mem_range.mp (hjs.mem_iff.mp hj)
    have npq : p ≠ q := ne_put sp hq
    refine Eq.mpr (z_seq getL_self) fun p7 hp7 => ?_
    have nq7 : q ≠ p7 := ne_put put_same hp7
    rw [put_is_none] at hp7
    have np7 : p ≠ p7 := ne_put sp hp7.2
    refine comp_keep (fun k acc => acc = ((js.take k).map (bAt (blT zs zs.length))).map (trD ord)) (by unfold natsD; rw [List.length_map, sizeLine_eq]; omega) rfl (fun acc => by rw [getL_ne nq7]; exact getL_self) (fun k acc q => by subst q; simp; omega) (fun k x acc hx hQ Y Z hY hZ => ?_) fun acc hQ => ?_
    · subst hQ
      obtain ⟨j, hj, rfl⟩ : ∃ n : Nat, js[k]? = some n ∧ .int (n : Int) = x := by simpa [natsD] using hx
      have jn := jb j (List.mem_of_getElem? hj)
      rw [take_snoc hj] at hY
      have gp : getL (put (put s' q (.lst (natsD js))) p7 (.lst (((js.take k).map (bAt (blT zs zs.length))).map (trD ord)))) p = some ((blT zs zs.length).map (trD ord)) := by rw [getL_ne np7, getL_ne npq]; exact getL_some sp
      generalize put (put s' q (.lst (natsD js))) p7 (.lst (((js.take k).map (bAt (blT zs zs.length))).map (trD ord))) = S2 at gp hY ⊢
      have e : ((blT zs zs.length).map (trD ord))[j]? = some (trD ord (bAt (blT zs zs.length) j)) := by
        rw [List.getElem?_map]
        unfold bAt
        rw [List.getElem?_eq_getElem jn]; rfl
      simp [z_ixL gp e]
      exact hY _ _ (Sub.refl _) (by simp)
    subst hQ
    have e1 : (natsD js).length = js.length := by unfold natsD; rw [List.length_map]
    rw [e1, List.take_length]
    generalize hms : js.map (bAt (blT zs zs.length)) = ms
    have mp : ms.Perm (blT zs zs.length) := by
      have := hjs.map (bAt (blT zs zs.length))
      rw [map_at, hms] at this
      exact this
    have ml : ms.length = zs.sum := by rw [mp.length_eq, bl]
    have mb : ∀ x ∈ ms, x < zs.length := fun x hx => blT_lt zs _ x (mp.mem_iff.mp hx)
    have mc : ∀ k, k < zs.length → ms.count k = zAt zs k := fun k hk => by rw [mp.count_eq, blT_count, if_pos hk]
    have s2 : DL.Sub st (put (put s' q (.lst (natsD js))) p7 (.lst (ms.map (trD ord)))) := (s1.putN (sub_none s1 hq)).putN (sub_none s1 hp7.2)
    have so2 : put (put s' q (.lst (natsD js))) p7 (.lst (ms.map (trD ord))) o = some (.lst (natsD ord)) := by rw [put_ne (ne_put so1 hp7.2), put_ne (ne_put so1 hq)]; exact so1
    have sm2 : put (put s' q (.lst (natsD js))) p7 (.lst (ms.map (trD ord))) p7 = some (.lst (ms.map (trD ord))) := put_same
    generalize put (put s' q (.lst (natsD js))) p7 (.lst (ms.map (trD ord))) = S2 at s2 so2 sm2 ⊢
    refine ⟨(zs.length : Int) + 1, rfl, rfl, by omega, by omega, fun q8 xs hq8 xl xn => sort_names hq8 xl xn fun q2 qs s3 sub3 sq q0 qn ql qso => ?_⟩
    have sm3 := sub3 _ _ sm2
    have qle : qs.length = zs.length + 1 := by omega
    refine ⟨qs, q2, p7, ms.map (trN ord), rfl, rfl, rfl, getL_some sq, by rw [getL_some sm3, List.map_map]; rfl, ⟨qn, by omega⟩, by omega, qso, by rw [List.length_map]; omega, fun r hr => ?_, fun ls gls fl => ?_⟩
    · obtain ⟨k, hk, rfl⟩ := List.mem_map.mp hr
      have := mb k hk
      rw [qle]
      exact ⟨(og k (by omega)).2, (og (k + 1) (by omega)).2⟩
    have go3 := sub3 _ _ so2
    have st3 : DL.Sub st s3 := s2.trans sub3
    refine Eq.mpr (z_seq (getL_some sm3)) fun p9 hp9 => ?_
    have n79 : p7 ≠ p9 := ne_put sm3 hp9
    have mD : (ms.map (trD ord)).length = ms.length := by rw [List.length_map]
    refine comp_keep (fun i acc => ∃ w : List Int, acc = w.map .int ∧ w.length = i ∧ ∀ x ∈ w, 1 ≤ x ∧ x ≤ 1000000000000) (by rw [mD, sizeLine_eq]; omega) ⟨[], rfl, rfl, fun x hx => by cases hx⟩ (fun acc => by rw [getL_ne n79]; exact getL_some sm3) (fun i acc q => by obtain ⟨w, rfl, h2, _⟩ := q; rw [List.length_map]; omega) (fun i x acc hx hQ Y Z hY hZ => ?_) fun acc hQ => ?_
    · obtain ⟨w, rfl, wl, wb⟩ := hQ
      simp
      refine ⟨rfl, fun y y1 y2 => hY _ _ (Sub.refl _) ⟨w ++ [y], by simp, by simp [wl], fun x hx => ?_⟩⟩
      rcases List.mem_append.mp hx with hx | hx
      · exact wb x hx
      · rw [List.mem_singleton.mp hx]; exact ⟨y1, y2⟩
    obtain ⟨w0, rfl, w0l, w0b⟩ := hQ
    rw [mD] at w0l
    refine ⟨by rw [sizeLine_eq]; omega, fun p11 hp11 => ?_⟩
    have n911 : p9 ≠ p11 := ne_put put_same hp11
    rw [put_is_none] at hp11
    have n711 : p7 ≠ p11 := ne_put sm3 hp11.2
    have s4 : DL.Sub st (put (put s3 p9 (.lst (w0.map .int))) p11 (.lst [.tup []])) := (st3.putN (sub_none st3 hp9)).putN (sub_none st3 hp11.2)
    have h7 : put (put s3 p9 (.lst (w0.map .int))) p11 (.lst [.tup []]) p7 = some (.lst (ms.map (trD ord))) := by rw [put_ne n711, put_ne n79]; exact sm3
    have h9 : put (put s3 p9 (.lst (w0.map .int))) p11 (.lst [.tup []]) p9 = some (.lst (w0.map .int)) := by rw [put_ne n911]; exact put_same
    have h11 : put (put s3 p9 (.lst (w0.map .int))) p11 (.lst [.tup []]) p11 = some (.lst [.tup []]) := put_same
    have st9 : st p9 = none := sub_none st3 hp9
    generalize put (put s3 p9 (.lst (w0.map .int))) p11 (.lst [.tup []]) = S4 at s4 h7 h9 h11 ⊢
    refine Eq.mpr (z_len (getL_sub s4 ga)) ?_
    rw [zl]
    have B0 : BI ms.length zs.length zs ms w0 (fun _ => []) 0 := ⟨w0l, fun x hx => by have := w0b x hx; omega, fun k' hk => by omega, fun k' hk => by omega, fun k' hk => by omega, fun k' hk => by omega, fun j _ hk => by omega, fun j _ hk => by omega, fun j hj _ => (wf_of w0b (by omega)).1⟩
    refine ⟨by omega, loop_any (fun k ρ s' => ∃ (o6 o12 o13 o14 o15 : Option D) (p11 : Addr) (w : List Int) (G : Nat → List Nat), ρ = [some (.ref t), some (.ref a), some (.int r), some (.int ((zs.length : Int) + 1)), some (.ref o), some (.ref p), o6, some (.ref p7), some (gD qs ls [[]]), some (.ref p9), none, some (.ref p11), o12, o13, o14, o15, none] ∧ DL.Sub st s' ∧ s' p7 = some (.lst (ms.map (trD ord))) ∧ s' p9 = some (.lst (w.map .int)) ∧ p11 ≠ p9 ∧ s' p11 = some (.lst ((selRows ms.length G k).map lotD)) ∧ BI ms.length zs.length zs ms w G k)
      ⟨_, none, none, none, none, p11, w0, fun _ => [], rfl, s4, h7, h9, n911.symm, h11, B0⟩ (fun _ _ _ _ => trivial) (fun k x ρ s' hx hP N hN => ?_) fun ρ s' hP => ?_⟩
    · obtain ⟨o6, o12, o13, o14, o15, p11, w, G, rfl, sub, h7, h9, n11, h11, B⟩ := hP
      obtain ⟨hk, rfl⟩ := rangeD_get hx
      have hk : k < zs.length := by simpa using hk
      obtain ⟨zi, zi1⟩ := zg k hk
      simp
      refine Eq.mpr (z_len (getL_some h7)) ?_
      rw [mD]
      refine ⟨by omega, fun p12 hp12 => ?_⟩
      have n7 : p7 ≠ p12 := ne_put h7 hp12
      have n9 : p9 ≠ p12 := ne_put h9 hp12
      have n1112 : p11 ≠ p12 := ne_put h11 hp12
      refine comp_keep (fun j acc => acc = natsD ((List.range j).filter fun j => decide (bAt ms j = k))) (by rw [rangeD_len, sizeLine_eq]; omega) rfl (fun _ => trivial) (fun j acc q => by subst q; unfold natsD; rw [List.length_map]; exact Nat.le_trans (List.length_filter_le _ _) (by simp)) (fun j x acc hx hQ Y Z hY hZ => ?_) fun acc hQ => ?_
      · subst hQ
        obtain ⟨hj, rfl⟩ := rangeD_get hx
        have hj : j < ms.length := by simpa using hj
        rw [pick_succ] at hY hZ
        have g7 : getL (put s' p12 (.lst (natsD ((List.range j).filter fun j => decide (bAt ms j = k))))) p7 = some (ms.map (trD ord)) := by rw [getL_ne n7]; exact getL_some h7
        have e7 : (ms.map (trD ord))[j]? = some (trD ord (bAt ms j)) := by
          rw [List.getElem?_map]
          unfold bAt
          rw [List.getElem?_eq_getElem hj]; rfl
        generalize put s' p12 (.lst (natsD ((List.range j).filter fun j => decide (bAt ms j = k)))) = S5 at g7 hY hZ ⊢
        have i2 : ∀ {R' : KD}, dIx (trD ord (bAt ms j)) (.int 2) S5 R' = R' (.int (bAt ms j : Nat)) S5 := fun {_} => by unfold trD tripD trN; exact z_ix2
        simp [z_ixL g7 e7, i2]
        split
        · rename_i c
          have c : bAt ms j = k := by omega
          exact hY _ _ (Sub.refl _) (by simp [c, natsD])
        · rename_i c
          have c : ¬ bAt ms j = k := by omega
          exact hZ _ (Sub.refl _) (by simp [c])
      subst hQ
      rw [rangeD_len]
      have en2 : ((ms.length : Int)).toNat = ms.length := by omega
      rw [en2]
      have eg : (List.range ms.length).filter (fun j => decide (bAt ms j = k)) = gB ms k := rfl
      rw [eg]
      have s12 : put s' p12 (.lst (natsD (gB ms k))) p12 = some (.lst (natsD (gB ms k))) := put_same
      have sb5 : DL.Sub s' (put s' p12 (.lst (natsD (gB ms k)))) := Sub.put hp12
      have st12 : st p12 = none := sub_none sub hp12
      generalize put s' p12 (.lst (natsD (gB ms k))) = S5 at s12 sb5 ⊢
      have hJ : ∀ (EE : EndsD) (S6 : Stor) (kd : Int) (q12 : Addr) (w' : List Int) (g : List Nat), DL.Sub st S6 → S6 p7 = some (.lst (ms.map (trD ord))) → S6 p9 = some (.lst (w'.map .int)) → S6 p11 = some (.lst ((selRows ms.length G k).map lotD)) → S6 q12 = some (.lst (natsD g)) → BI ms.length zs.length zs ms w' (upG G k g) (k + 1) →
          rk__law_bundles_0 t (EE.turn N) [some (.ref t), some (.ref a), some (.int r), some (.int ((zs.length : Int) + 1)), some (.ref o), some (.ref p), some (.int (k : Nat)), some (.ref p7), some (gD qs ls [[]]), some (.ref p9), none, some (.ref p11), some (.ref q12), o13, some (.int kd), o15, none] S6 := fun EE S6 kd q12 w' g f1 f7 f9 f11 f12 B' => by
        have gm : ∀ j ∈ g, j < ms.length ∧ bAt ms j = k := fun j hj => by
          obtain ⟨a, b, _⟩ := B'.mem k (by omega) j (by rw [upG_same]; exact hj)
          exact ⟨a, b⟩
        have ss := sel_sub (m := ms.length) (G := G) (b := bAt ms) k fun k' hk' j hj => ⟨(B.mem k' hk' j hj).1, (B.mem k' hk' j hj).2.1⟩
        have gl := B'.gl k (by omega)
        rw [upG_same] at gl
        have sp := sel_prod (m := ms.length) (G := G) k (by omega) B.gl
        have pl := prodZ_le zp (zs.length - (k + 1)) (k + 1) (by omega)
        rw [show k + 1 + (zs.length - (k + 1)) = zs.length by omega, prodZ_all, prodZ_succ hk] at pl
        have ml2 := Nat.mul_le_mul gl sp
        rw [Nat.mul_comm (zAt zs k)] at ml2
        have zk : zAt zs k ≤ zs.sum := by
          have := blT_len zs (k + 1) (by omega)
          have := sum_take zs (k + 1)
          have := blT_succ zs k
          have h3 := congrArg List.length this
          rw [List.length_append, List.length_replicate] at h3
          omega
        have congr1 : selRows ms.length (upG G k g) k = selRows ms.length G k := sel_congr k fun k' hk' => upG_ne (by omega)
        refine rows_step f11 f12 ⟨_, f9⟩ (fun j hj => ⟨(gm j hj).1, fun T hT z => ?_⟩) (fun T hT => (ss T hT).1) (by omega) (by omega) (by omega) fun o13 s5 p15 f n15 f15 => ?_
        · have h1 := (ss T hT).2 j z
          have h2 := (gm j hj).2
          omega
        · refine hN _ _ _ (Sub.refl _) ⟨_, _, _, _, _, p15, w', upG G k g, rfl, f1.trans f, f _ _ f7, f _ _ f9, f15, ?_, B'⟩
          show s5 p15 = some (.lst (((upG G k g k).flatMap fun a => (selRows ms.length (upG G k g) k).map (insT ms.length a)).map lotD))
          rw [upG_same, congr1]
          exact n15
      have gnl : (natsD (gB ms k)).length = zAt zs k := by unfold natsD; rw [List.length_map, gB_len, mc k hk]
      have zk16 : zAt zs k ≤ 16 := by
        have h1 := blT_len zs (k + 1) (by omega)
        have h2 := sum_take zs (k + 1)
        have h3 := congrArg List.length (blT_succ zs k)
        rw [List.length_append, List.length_replicate] at h3
        omega
      have keep : ∀ (EE : EndsD) (kd : Int), rk__law_bundles_0 t (EE.turn N) [some (.ref t), some (.ref a), some (.int r), some (.int ((zs.length : Int) + 1)), some (.ref o), some (.ref p), some (.int (k : Nat)), some (.ref p7), some (gD qs ls [[]]), some (.ref p9), none, some (.ref p11), some (.ref p12), o13, some (.int kd), o15, none] S5 := fun EE kd =>
        hJ EE S5 kd p12 w _ (sub.trans sb5) (sb5 _ _ h7) (sb5 _ _ h9) (sb5 _ _ h11) s12 (B.keep rfl zi1 (mc k hk))
      have rigid : ∀ (EE : EndsD) (kd : Int) (i : Int), 0 ≤ i → i < zAt zs k → dIx (.ref p12) (.int i) S5 (fun d s1 => 1 ≤ sizeLine ∧ ∀ q, s1 q = none → dIx (.ref q) (.int 0) (put s1 q (.lst [d])) fun j s2 => dSetL p9 j (.int (-1)) s2 fun s3 => rk__law_bundles_0 t (EE.turn N) [some (.ref t), some (.ref a), some (.int r), some (.int ((zs.length : Int) + 1)), some (.ref o), some (.ref p), some (.int (k : Nat)), some (.ref p7), some (gD qs ls [[]]), some (.ref p9), none, some (.ref p11), some (.ref q), o13, some (.int kd), o15, none] s3) := fun EE kd i i0 i1 => by
        obtain ⟨c, rfl⟩ := Int.eq_ofNat_of_zero_le i0
        have cl : c < (gB ms k).length := by rw [gB_len, mc k hk]; omega
        have e := List.getElem?_eq_getElem cl
        have e2 : (natsD (gB ms k))[c]? = some (.int ((gB ms k)[c] : Nat)) := by unfold natsD; rw [List.getElem?_map, e]; rfl
        have hm := List.mem_of_getElem? e
        generalize (gB ms k)[c]'cl = b at e e2 hm
        rw [z_ixL (getL_some s12) e2]
        refine ⟨by rw [sizeLine_eq]; omega, fun q hq => ?_⟩
        have n9q : p9 ≠ q := ne_put (sb5 _ _ h9) hq
        have nq11 : p11 ≠ q := ne_put (sb5 _ _ h11) hq
        have n7q : p7 ≠ q := ne_put (sb5 _ _ h7) hq
        rw [z_ixL0 getL_self]
        have bm := (mem_gB.mp hm).1
        refine Eq.mpr (z_setI (by rw [put_ne n9q]; exact sb5 _ _ h9) (by rw [List.length_map, B.l]; exact bm)) ?_
        have ew : (w.map D.int).set b (.int (-1)) = (w.set b (-1)).map .int := by rw [List.map_set]
        rw [ew]
        have sbq := (sub.trans sb5).putN (c := .lst [D.int (b : Nat)]) (sub_none (sub.trans sb5) hq)
        exact hJ EE _ kd q _ [b] (sbq.putN st9) (by rw [put_ne n79, put_ne n7q]; exact sb5 _ _ h7) put_same (by rw [put_ne n11, put_ne nq11]; exact sb5 _ _ h11) (by rw [put_ne n9q.symm]; exact put_same) (B.rig rfl zi1 hm)
      have rest : ∀ (EE : EndsD) (kd : Int), if kd = 1 then (dLen [.ref p12] S5 fun d s1 => sp__law_draw t [.ref t, d] s1 fun y s2 => dIx (.ref p12) y s2 (fun d s1 => 1 ≤ sizeLine ∧ ∀ q, s1 q = none → dIx (.ref q) (.int 0) (put s1 q (.lst [d])) fun j s2 => dSetL p9 j (.int (-1)) s2 fun s3 => rk__law_bundles_0 t (EE.turn N) [some (.ref t), some (.ref a), some (.int r), some (.int ((zs.length : Int) + 1)), some (.ref o), some (.ref p), some (.int (k : Nat)), some (.ref p7), some (gD qs ls [[]]), some (.ref p9), none, some (.ref p11), some (.ref q), o13, some (.int kd), o15, none] s3))
          else rk__law_bundles_0 t (EE.turn N) [some (.ref t), some (.ref a), some (.int r), some (.int ((zs.length : Int) + 1)), some (.ref o), some (.ref p), some (.int (k : Nat)), some (.ref p7), some (gD qs ls [[]]), some (.ref p9), none, some (.ref p11), some (.ref p12), o13, some (.int kd), o15, none] S5 := fun EE kd => by
        by_cases k1 : kd = 1
        · rw [if_pos k1]
          refine Eq.mpr (z_len (getL_some s12)) ?_
          rw [gnl]
          simp
          exact ⟨by omega, by omega, fun i i0 i1 => rigid EE kd i i0 i1⟩
        · rw [if_neg k1]; exact keep EE kd
      refine ⟨by omega, by omega, fun kd kd0 kd1 => ?_⟩
      by_cases k0 : kd = 0
      · rw [if_pos k0]
        refine Eq.mpr (z_len (getL_some s12)) ?_
        rw [gnl]
        show if decide ((zAt zs k : Int) > 1) = true then _ else _
        by_cases c : (zAt zs k : Int) > 1
        · rw [if_pos (by simpa using c)]
          refine ⟨⟨_, getL_some s12⟩, Eq.mpr (z_len (getL_some s12)) ?_⟩
          rw [gnl]
          simp
          refine ⟨by omega, by omega, fun i i0 i1 => ?_⟩
          obtain ⟨c, rfl⟩ := Int.eq_ofNat_of_zero_le i0
          have cl : c < (gB ms k).length := by rw [gB_len, mc k hk]; omega
          have e := List.getElem?_eq_getElem cl
          have e2 : (natsD (gB ms k))[c]? = some (.int ((gB ms k)[c] : Nat)) := by unfold natsD; rw [List.getElem?_map, e]; rfl
          have hm := List.mem_of_getElem? e
          generalize (gB ms k)[c]'cl = b at e e2 hm
          have bm := (mem_gB.mp hm).1
          refine ⟨_, c, _, s12, by rw [ixN_nat, if_pos (by rw [gnl]; omega)], e2, ?_⟩
          have nc : c ≠ c + 1 := by omega
          have n912 : p9 ≠ p12 := n9
          refine Eq.mpr (z_setI (by rw [put_ne n912]; exact sb5 _ _ h9) (by rw [List.length_map, B.l]; exact bm)) ?_
          have ew : (w.map D.int).set b (.int 0) = (w.set b 0).map .int := by rw [List.map_set]
          have eg2 : (natsD (gB ms k)).eraseIdx c = natsD ((gB ms k).eraseIdx c) := by unfold natsD; rw [map_erase]
          rw [ew, eg2]
          have sbq := (sub.trans sb5).putN (c := .lst (natsD ((gB ms k).eraseIdx c))) st12
          exact hJ _ _ kd p12 _ _ (sbq.putN st9) (by rw [put_ne n79, put_ne n7]; exact sb5 _ _ h7) put_same (by rw [put_ne n11, put_ne n1112]; exact sb5 _ _ h11) (by rw [put_ne n912.symm]; exact put_same) (B.drop rfl (mc k hk) e (by rw [gB_len, mc k hk]; omega))
        · rw [if_neg (by simpa using c)]
          exact rest _ kd
      · rw [if_neg k0]
        exact rest _ kd
    · obtain ⟨o6, o12, o13, o14, o15, p11, w, G, rfl, sub, h7, h9, n11, h11, B⟩ := hP
      rw [rangeD_len] at h11 B
      have en : ((zs.length : Int)).toNat = zs.length := by omega
      rw [en] at h11 B
      simp
      refine Eq.mpr (z_tuple (getL_some h9)) ⟨_, Sub.refl _, sort_trees h11 fun u hu => Eq.mpr (z_tuple getL_self) ⟨_, Sub.refl _, by rw [sizeLine_eq]; omega, ?_⟩⟩
      have hE : Below (zs.length + 1) (edges ls) := by rw [← qle]; exact gls.ed
      have el : (edges ls).length = ms.length := by rw [fl.1, List.length_map, List.length_map]
      have Bd : Bund zs.length (edges ls) ord (bAt ms) := by
        refine ⟨hord, fun j e hj => ?_⟩
        have jl := (List.getElem?_eq_some_iff.mp hj).1
        have hm := List.getElem?_eq_getElem (show j < ms.length by omega)
        have eb : bAt ms j = ms[j]'(by omega) := by unfold bAt; rw [hm]; rfl
        refine ⟨by rw [eb]; exact mb _ (List.mem_of_getElem? hm), ?_⟩
        have hf : (List.map (fun r : Nat × Nat × List D => (r.1, r.2.1)) (List.map (trN ord) ms))[j]? = some (ord[bAt ms j]?.getD 0, ord[bAt ms j + 1]?.getD 0) := by
          rw [List.getElem?_map, List.getElem?_map, hm, eb]; rfl
        exact fl.2 j e _ hj hf
      have bk : ∀ j, j < ms.length → bAt ms j < zs.length := fun j hj => by
        have hm := List.getElem?_eq_getElem hj
        unfold bAt
        rw [hm]
        exact mb _ (List.mem_of_getElem? hm)
      have Gr : Grp zs.length (edges ls).length (bAt ms) (wf w) G := by rw [el]; exact B.done bk
      rw [← el] at h11
      have tr : ∀ T, T ∈ selRows (edges ls).length G zs.length ↔ TreeOk (zs.length + 1) (edges ls) (wf w) T := fun T => by
        rw [bund_trees Bd Gr, sel_mem Gr _ _ (Nat.le_refl _)]
      obtain ⟨T0, hT0⟩ := List.exists_mem_of_ne_nil _ (sel_ne Gr zs.length (Nat.le_refl _))
      have t0 := (tr T0).mp hT0
      have ok : WOk (zs.length + 1) (edges ls) w := ⟨by rw [B.l, el], B.b, (tree_ok hE t0).1, (tree_ok hE t0).2⟩
      have pm := trees_same hE ok (sel_nodup Gr _ (Nat.le_refl _)) tr
      have bl := sel_prod (m := (edges ls).length) (G := G) zs.length (Nat.le_refl _) B.gl
      rw [prodZ_all] at bl
      have ed : (D.tup (sortD ((selRows ms.length G zs.length).map lotD))) = treesD qs.length (edges ls) w := by
        unfold treesD
        rw [qle, sort_same pm, el]
      show ∃ s2, DL.Sub s2 _ ∧ R (.tup [gD qs ls [[]], inD w, .tup (sortD ((selRows ms.length G zs.length).map lotD))]) s2
      rw [ed]
      have ll : ls.length = ms.length := by rw [← edges_len (ls := ls)]; exact el
      exact ⟨st, sub.putN (sub_none sub hu), h qs ls w ⟨gls, by omega, by rw [qle]; exact ok, by rw [qle, pm.length_eq]; omega⟩⟩
end K11
-- text K11P20
set_option Elab.async false
set_option linter.all false
set_option maxRecDepth 100000
set_option maxHeartbeats 4000000
set_option exponentiation.threshold 10000
/-! K11P20 -/
namespace K11
open PySem PySem.Spec PyProof.Rows L2 DL DR DG
structure Sc where
  ps : List Str
  ls : List Lk
  ss : List (List Int)
  w : List Int
noncomputable def Sc.d (s : Sc) : D := scD s.ps s.ls s.ss s.w
def Sc.Ok (s : Sc) : Prop := ScOk s.ps s.ls s.w
theorem law_end {t : Addr} {R : KD} {o0 o2 o4 o5 o6 o7 o8 o9 o10 o11 o12 o13 : Option D} {p : Addr} {scs : List Sc} {S : Stor} (hs : S p = some (.lst (scs.map Sc.d))) (ok : ∀ s ∈ scs, s.Ok) (l : scs.length ≤ 10) (h : ∀ st', R (.bl true) st') :
    rk_law_0 t (endsD R) [o0, some (.ref t), o2, some (.ref p), o4, o5, o6, o7, o8, o9, o10, o11, o12, o13] S := by
  rw [ru_law_0]
  simp [sizeLine_eq]
  refine ⟨1, rfl, rfl, by omega, by omega, fun q xs hq xl xn => sort_names hq xl xn fun q2 qs s2 sub2 sq q0 qn ql qso => ?_⟩
  have q1 : qs.length = 1 := by omega
  obtain ⟨nm1, rfl⟩ : ∃ x, qs = [x] := List.length_eq_one_iff.mp q1
  have hs2 := sub2 _ _ hs
  refine ⟨⟨_, getL_some hs2⟩, Eq.mpr (z_tuple (getL_some sq)) ⟨_, Sub.refl _, ?_⟩⟩
  have gl : GL [nm1] [] := ⟨⟨qn, by simp⟩, by simp, qso, by simp, fun l hl => by cases hl⟩
  have wok : WOk 1 [] [] := pos_ok rfl (fun x hx => by cases hx) fun x hx => by
    have : x = 0 := by omega
    subst this; exact .refl _
  have t1 : treesL 1 [] [] = [[]] := by simp [treesL, progU, joinT]
  have sok : Sc.Ok ⟨[nm1], [], [[]], []⟩ := ⟨gl, by simp, wok, by show (treesL 1 [] []).length ≤ 2000; rw [t1]; decide⟩
  have ed : D.tup [.tup [.tup [.str nm1], .tup [], .tup [.tup []]], .tup [], .tup [.tup []]] = Sc.d ⟨[nm1], [], [[]], []⟩ := by
    have : treesD 1 [] [] = .tup [.tup []] := by
      unfold treesD
      rw [t1]
      have : sortD ([[]].map lotD) = [lotD []] := List.perm_singleton.mp (sortD_perm _)
      rw [this]; rfl
    show _ = scD [nm1] [] [[]] []
    unfold scD
    show _ = D.tup [gD [nm1] [] [[]], inD [], treesD 1 [] []]
    rw [this]; rfl
  refine Eq.mpr (z_append hs2 (by rw [List.length_map, sizeLine_eq]; omega)) ?_
  have e1 : scs.map Sc.d ++ [D.tup [.tup [.tup ([nm1].map .str), .tup [], .tup [.tup []]], .tup [], .tup [.tup []]]] = (scs ++ [(⟨[nm1], [], [[]], []⟩ : Sc)]).map Sc.d := by
    rw [List.map_append]
    show _ = scs.map Sc.d ++ [Sc.d ⟨[nm1], [], [[]], []⟩]
    rw [← ed]; rfl
  rw [e1]
  have ok2 : ∀ s ∈ scs ++ [(⟨[nm1], [], [[]], []⟩ : Sc)], s.Ok := fun s hs => by
    rcases List.mem_append.mp hs with hs | hs
    · exact ok s hs
    · rw [List.mem_singleton.mp hs]; exact sok
  have l2 : (scs ++ [(⟨[nm1], [], [[]], []⟩ : Sc)]).length ≤ 11 := by rw [List.length_append, List.length_singleton]; omega
  generalize scs ++ [(⟨[nm1], [], [[]], []⟩ : Sc)] = sc at ok2 l2 ⊢
  rw [z_sl getL_self]
  intro u hu
  have npu : p ≠ u := ne_put put_same hu
  rw [y_addL]
  have ec : cutD (sc.map Sc.d) none (some 1) = (sc.take 1).map Sc.d := by
    rw [show (1 : Int) = ((1 : Nat) : Int) from rfl, cutD_to, List.map_take]
  refine ⟨_, _, by rw [put_ne npu]; exact put_same, put_same, by rw [ec, List.length_map, List.length_map, List.length_take, sizeLine_eq]; omega, fun v hv => Eq.mpr (z_seq getL_self) ?_⟩
  rw [ec, ← List.map_append]
  have ok3 : ∀ s ∈ sc ++ sc.take 1, s.Ok := fun s hs => by
    rcases List.mem_append.mp hs with hs | hs
    · exact ok2 s hs
    · exact ok2 s (List.mem_of_mem_take hs)
  generalize sc ++ sc.take 1 = sd at ok3 ⊢
  have gv : getL (put (put (put s2 p (.lst (sc.map Sc.d))) u (.lst ((sc.take 1).map Sc.d))) v (.lst (sd.map Sc.d))) v = some (sd.map Sc.d) := getL_self
  generalize put (put (put s2 p (.lst (sc.map Sc.d))) u (.lst ((sc.take 1).map Sc.d))) v (.lst (sd.map Sc.d)) = S9 at gv ⊢
  refine loop_keep (fun i ρ => ∃ o13 : Option D, ρ = [o0, some (.ref t), o2, some (.ref p), o4, o5, o6, o7, o8, o9, o10, o11, some (.ref q2), o13]) ⟨_, rfl⟩ gv (fun i x ρ hx hQ N hN => ?_) fun ρ hQ => ?_
  · obtain ⟨o13, rfl⟩ := hQ
    obtain ⟨s, hs3, rfl⟩ : ∃ s, sd[i]? = some s ∧ s.d = x := by
      rw [List.getElem?_map] at hx
      cases e : sd[i]? with
      | none => rw [e] at hx; cases hx
      | some s => rw [e] at hx; exact ⟨s, rfl, by simpa using hx⟩
    have so := ok3 s (List.mem_of_getElem? hs3)
    simp
    refine ⟨s.ps, s.ls, s.ss, s.w, rfl, rfl, so, ?_⟩
    simp
    exact hN _ _ (Sub.refl _) ⟨_, rfl⟩
  · obtain ⟨o13, rfl⟩ := hQ
    simp
    exact ⟨_, Sub.refl _, h _⟩
theorem law_mid {t : Addr} {R : KD} {o0 o2 o4 o5 o7 o8 o9 o10 o11 o12 o13 : Option D} {p : Addr} {n : Nat} {scs : List Sc} {S : Stor} (hs : S p = some (.lst (scs.map Sc.d))) (ok : ∀ s ∈ scs, s.Ok) (l : scs.length = 3) (n3 : 3 ≤ n) (n5 : n ≤ 5) (h : ∀ st', R (.bl true) st') :
    rk_law_1 t (endsD R) [o0, some (.ref t), o2, some (.ref p), o4, o5, some (.int (n : Nat)), o7, o8, o9, o10, o11, o12, o13] S := by
  have bund : ∀ (o11 : Option D) (S' : Stor) (scs : List Sc) (q : Addr) (zs : List Nat) (r r' : Int), S' p = some (.lst (scs.map Sc.d)) → (∀ s ∈ scs, s.Ok) → scs.length ≤ 5 → getL S' q = some (natsD zs) → 1 ≤ zs.length → zs.length ≤ 8 → (∀ s ∈ zs, 1 ≤ s) → zs.sum ≤ 16 → zs.foldl (· * ·) 1 ≤ 400 → 2 ≤ r → r ≤ 30 → ∀ (w v : D),
      sp__law_bundles t [.ref t, .ref q, .int r] S' fun d s1 => dAppend p [d] s1 fun x s1 => rk_law_0 t (endsD R) [o0, some (.ref t), o2, some (.ref p), o4, o5, some (.int (n : Nat)), some w, some v, o9, some (.int r'), o11, o12, o13] s1 := fun o11 S' scs q zs r r' hs ok l hq z1 z8 zp zm zf r2 r30 w v => by
    refine ⟨q, zs, r, rfl, rfl, rfl, hq, z1, z8, zp, zm, zf, r2, r30, fun ps ls w sok => Eq.mpr (z_append hs (by rw [List.length_map, sizeLine_eq]; omega)) ?_⟩
    refine law_end (scs := scs ++ [⟨ps, ls, [[]], w⟩]) (by rw [put_same, List.map_append]; rfl) (fun s hs => ?_) (by simp; omega) h
    rcases List.mem_append.mp hs with hs | hs
    · exact ok s hs
    · rw [List.mem_singleton.mp hs]; exact sok
  rw [ru_law_1]
  simp [sizeLine_eq]
  refine ⟨n, rfl, rfl, n3, n5, fun ps ls F gl pn hF hE => ?_⟩
  simp
  intro q hq
  have npq : p ≠ q := ne_put hs hq
  subst pn
  have el := edges_len (ls := ls)
  have al : (allPairs ps.length).length ≤ 25 := by
    rw [allPairs_eq]
    have := flat_len ps.length ps.length
    have := Nat.mul_le_mul n5 n5
    omega
  have al2 : (allPairs ps.length).length ≤ 10 := by
    have : ps.length = 3 ∨ ps.length = 4 ∨ ps.length = 5 := by omega
    rcases this with e | e | e <;> rw [e] <;> decide
  have ll : ls.length ≤ 10 := by rw [← el, hE.1, hF.length_eq]; exact al2
  refine comp_keep (fun i acc => ∃ w : List Int, acc = w.map .int ∧ w.length = i ∧ ∀ x ∈ w, 1 ≤ x ∧ x ≤ 1000000000000) (by rw [List.length_map, sizeLine_eq]; omega) ⟨[], rfl, rfl, fun x hx => by cases hx⟩ (fun acc => trivial) (fun i acc q => by obtain ⟨w, rfl, h2, _⟩ := q; rw [List.length_map]; omega) (fun i x acc hx hQ Y Z hY hZ => ?_) fun acc hQ => ?_
  · obtain ⟨w, rfl, wl, wb⟩ := hQ
    simp
    refine ⟨rfl, fun y y1 y2 => hY _ _ (Sub.refl _) ⟨w ++ [y], by simp, by simp [wl], fun x hx => ?_⟩⟩
    rcases List.mem_append.mp hx with hx | hx
    · exact wb x hx
    · rw [List.mem_singleton.mp hx]; exact ⟨y1, y2⟩
  obtain ⟨w, rfl, wl, wb⟩ := hQ
  rw [List.length_map] at wl
  have hs1 : put S q (.lst (w.map .int)) p = some (.lst (scs.map Sc.d)) := by rw [put_ne npq]; exact hs
  refine Eq.mpr (z_tuple getL_self) ⟨_, Sub.refl _, ⟨_, getL_some hs1⟩, ?_⟩
  have wok : WOk ps.length (edges ls) w := pos_ok (by omega) wb (web_whole hF hE)
  have tc := web_count (by omega) gl.ed hF hE (show w.length = (edges ls).length by omega) wb
  refine ⟨ps, ls, [[]], w, rfl, rfl, gl, by omega, wok, Eq.mpr (z_append hs1 (by rw [List.length_map, sizeLine_eq]; omega)) ?_⟩
  have wn : (ps.length = 3 ∧ webN ps.length = 3) ∨ (ps.length = 4 ∧ webN ps.length = 16) ∨ (ps.length = 5 ∧ webN ps.length = 125) := by
    have : ps.length = 3 ∨ ps.length = 4 ∨ ps.length = 5 := by omega
    rcases this with e | e | e
    · exact .inl ⟨e, by rw [e]; exact webN3⟩
    · exact .inr (.inl ⟨e, by rw [e]; exact webN4⟩)
    · exact .inr (.inr ⟨e, by rw [e]; exact webN5⟩)
  have e1 : scs.map Sc.d ++ [D.tup [gD ps ls [[]], .tup (w.map .int), treesD ps.length (edges ls) w]] = (scs ++ [(⟨ps, ls, [[]], w⟩ : Sc)]).map Sc.d := by rw [List.map_append]; rfl
  have ok2 : ∀ s ∈ scs ++ [(⟨ps, ls, [[]], w⟩ : Sc)], s.Ok := fun s hs => by
    rcases List.mem_append.mp hs with hs | hs
    · exact ok s hs
    · rw [List.mem_singleton.mp hs]; exact ⟨gl, by simp only; omega, wok, by simp only; omega⟩
  have i3 : ((scs ++ [(⟨ps, ls, [[]], w⟩ : Sc)]).map Sc.d)[3]? = some (scD ps ls [[]] w) := by
    rw [List.getElem?_map, List.getElem?_append_right (by omega), l]; rfl
  have l2 : (scs ++ [(⟨ps, ls, [[]], w⟩ : Sc)]).length ≤ 5 := by simp; omega
  rw [e1]
  generalize scs ++ [(⟨ps, ls, [[]], w⟩ : Sc)] = sc at ok2 i3 l2 ⊢
  have sp2 : put (put S q (.lst (w.map .int))) p (.lst (sc.map Sc.d)) p = some (.lst (sc.map Sc.d)) := put_same
  generalize put (put S q (.lst (w.map .int))) p (.lst (sc.map Sc.d)) = S2 at sp2 ⊢
  refine Eq.mpr (z_ixL (n := 3) (getL_some sp2) i3) ?_
  have s2 : ∀ {S' : Stor} {R' : KD}, dIx (scD ps ls [[]] w) (.int 2) S' R' = R' (treesD ps.length (edges ls) w) S' := fun {_ _} => z_ix2
  have sl : (sortD ((treesL ps.length (edges ls) w).map lotD)).length = (treesL ps.length (edges ls) w).length := by rw [(sortD_perm _).length_eq, List.length_map]
  have lT : ∀ {S' : Stor} {R' : KD}, dLen [treesD ps.length (edges ls) w] S' R' = R' (.int ((treesL ps.length (edges ls) w).length : Nat)) S' := fun {_ _} => by unfold treesD; rw [y_lenT, sl]
  rw [s2, lT, tc]
  intro u hu
  have ui : ([.int 0, .int 0, .int 0, .int 3, .int 16, .int 125] : List D)[ps.length]? = some (.int (webN ps.length : Nat)) := by
    rcases wn with ⟨e, f⟩ | ⟨e, f⟩ | ⟨e, f⟩ <;> rw [f, e] <;> rfl
  rw [z_ixL getL_self ui]
  have sp3 : put S2 u (.lst [.int 0, .int 0, .int 0, .int 3, .int 16, .int 125]) p = some (.lst (sc.map Sc.d)) := Sub.put hu _ _ sp2
  generalize put S2 u (.lst [.int 0, .int 0, .int 0, .int 3, .int 16, .int 125]) = S3 at sp3 ⊢
  simp
  intro rare rr0 rr1
  split
  · intro p3 h3 p4 h4 p5 h5 p6 h6
    rw [z_mulL put_same (by decide) (by decide) (by decide)]
    intro p8 h8 p7 h7 r10 r100 r101
    have g6 : (List.replicate (Int.toNat 8) [D.int 2]).flatten = natsD [2, 2, 2, 2, 2, 2, 2, 2] := rfl
    rw [g6] at h7 ⊢
    have sb3 := Sub.put (c := .lst [.int 3, .int 3, .int 3, .int 3, .int 4]) h3
    have sb4 := Sub.put (c := .lst [.int 4, .int 4, .int 4, .int 4]) h4
    have sb5 := Sub.put (c := .lst [.int 5, .int 4, .int 4, .int 3]) h5
    have sb6 := Sub.put (c := .lst [.int 2]) h6
    have sb8 := Sub.put (c := .lst (natsD [2, 2, 2, 2, 2, 2, 2, 2])) h8
    have sb7 := Sub.put (c := .lst [.ref p3, .ref p4, .ref p5, .ref p8]) h7
    have g3 := getL_sub (((sb4.trans sb5).trans sb6).trans (sb8.trans sb7)) (getL_self (st := S3) (a := p3) (xs := [.int 3, .int 3, .int 3, .int 3, .int 4]))
    have g4 := getL_sub ((sb5.trans sb6).trans (sb8.trans sb7)) (getL_self (a := p4) (xs := [.int 4, .int 4, .int 4, .int 4]))
    have g5 := getL_sub (sb6.trans (sb8.trans sb7)) (getL_self (a := p5) (xs := [.int 5, .int 4, .int 4, .int 3]))
    have g8 := getL_sub sb7 (getL_self (a := p8) (xs := natsD [2, 2, 2, 2, 2, 2, 2, 2]))
    have hp := (((sb3.trans sb4).trans (sb5.trans sb6)).trans (sb8.trans sb7)) _ _ sp3
    refine ixL_all getL_self r100 (by simpa using r101) fun x hx => ?_
    refine ⟨⟨_, getL_some hp⟩, ?_⟩
    simp at hx
    rcases hx with rfl | rfl | rfl | rfl
    · exact bund _ _ sc _ [3, 3, 3, 3, 4] 30 _ hp ok2 l2 g3 (by decide) (by decide) (by decide) (by decide) (by decide) (by decide) (by decide) _ _
    · exact bund _ _ sc _ [4, 4, 4, 4] 30 _ hp ok2 l2 g4 (by decide) (by decide) (by decide) (by decide) (by decide) (by decide) (by decide) _ _
    · exact bund _ _ sc _ [5, 4, 4, 3] 30 _ hp ok2 l2 g5 (by decide) (by decide) (by decide) (by decide) (by decide) (by decide) (by decide) _ _
    · exact bund _ _ sc _ [2, 2, 2, 2, 2, 2, 2, 2] 30 _ hp ok2 l2 g8 (by decide) (by decide) (by decide) (by decide) (by decide) (by decide) (by decide) _ _
  · split
    · refine ⟨⟨_, getL_some sp3⟩, ?_⟩
      intro p3 h3 p4 h4 p5 h5 p7 h7 r10 r100 r101
      have sb3 := Sub.put (c := .lst [.int 16]) h3
      have sb4 := Sub.put (c := .lst [.int 5, .int 1, .int 4, .int 1, .int 5]) h4
      have sb5 := Sub.put (c := .lst [.int 2, .int 2, .int 1, .int 2, .int 2, .int 1]) h5
      have sb7 := Sub.put (c := .lst [.ref p3, .ref p4, .ref p5]) h7
      have g3 := getL_sub ((sb4.trans sb5).trans sb7) (getL_self (st := S3) (a := p3) (xs := [.int 16]))
      have g4 := getL_sub (sb5.trans sb7) (getL_self (a := p4) (xs := [.int 5, .int 1, .int 4, .int 1, .int 5]))
      have g5 := getL_sub sb7 (getL_self (a := p5) (xs := [.int 2, .int 2, .int 1, .int 2, .int 2, .int 1]))
      have hp := ((sb3.trans sb4).trans (sb5.trans sb7)) _ _ sp3
      refine ixL_all getL_self r100 (by simpa using r101) fun x hx => ?_
      simp at hx
      rcases hx with rfl | rfl | rfl
      · exact bund _ _ sc _ [16] 5 _ hp ok2 l2 g3 (by decide) (by decide) (by decide) (by decide) (by decide) (by decide) (by decide) _ _
      · exact bund _ _ sc _ [5, 1, 4, 1, 5] 5 _ hp ok2 l2 g4 (by decide) (by decide) (by decide) (by decide) (by decide) (by decide) (by decide) _ _
      · exact bund _ _ sc _ [2, 2, 1, 2, 2, 1] 5 _ hp ok2 l2 g5 (by decide) (by decide) (by decide) (by decide) (by decide) (by decide) (by decide) _ _
    · refine ⟨⟨_, getL_some sp3⟩, ?_⟩
      intro a a0 a1 b b0 b1 p3 h3
      have hp := Sub.put (c := .lst [.int (2 + a), .int (2 + b)]) h3 _ _ sp3
      obtain ⟨a, rfl⟩ := Int.eq_ofNat_of_zero_le a0
      obtain ⟨b, rfl⟩ := Int.eq_ofNat_of_zero_le b0
      have ab : (a = 0 ∨ a = 1) ∧ (b = 0 ∨ b = 1) := by omega
      obtain ⟨rfl | rfl, rfl | rfl⟩ := ab
      · exact bund _ _ sc _ [2, 2] 4 _ hp ok2 l2 getL_self (by decide) (by decide) (by decide) (by decide) (by decide) (by decide) (by decide) _ _
      · exact bund _ _ sc _ [2, 3] 4 _ hp ok2 l2 getL_self (by decide) (by decide) (by decide) (by decide) (by decide) (by decide) (by decide) _ _
      · exact bund _ _ sc _ [3, 2] 4 _ hp ok2 l2 getL_self (by decide) (by decide) (by decide) (by decide) (by decide) (by decide) (by decide) _ _
      · exact bund _ _ sc _ [3, 3] 4 _ hp ok2 l2 getL_self (by decide) (by decide) (by decide) (by decide) (by decide) (by decide) (by decide) _ _
theorem hs_law : ∀ ds s R, sp_law ds s R → rd_law (endsD R) (startD N_law.length ds) s := by
  refine sp1.to fun x st R h => ?_
  obtain ⟨ns, rfl, hl, hb, rfl, h⟩ := h
  rw [st_law]; unfold rd_law rd_law1
  refine tA_start hl hb fun t S0 i hi => ?_
  rw [hi]
  unfold rd_law2
  simp [sizeLine_eq]
  intro r r0 r1 l l0 l1
  obtain ⟨n, en⟩ : ∃ n : Nat, 2 + r = (n : Int) := ⟨(2 + r).toNat, by omega⟩
  refine ⟨n, 2 + l, 2, rfl, by rw [en], rfl, rfl, by omega, by omega, by omega, by omega, by omega, by omega, fun ps ls ss gl so pn ll _ bd => ?_⟩
  have l6 : ls.length ≤ 6 := by omega
  subst pn
  intro p hp
  refine loop_any (fun i ρ s' => ∃ (o4 o5 : Option D) (scs : List Sc), ρ = [some (.ro (ns.map .int)), some (.ref t), some (gD ps ls ss), some (.ref p), o4, o5, none, none, none, none, none, none, none, none] ∧ s' p = some (.lst (scs.map Sc.d)) ∧ scs.length = i ∧ ∀ s ∈ scs, s.Ok) ⟨none, none, [], rfl, put_same, rfl, fun s hs => by cases hs⟩ (fun _ _ _ _ => trivial) (fun i x ρ s' hx hP N hN => ?_) fun ρ s' hP => ?_
  · obtain ⟨o4, o5, scs, rfl, sp, sl, sok⟩ := hP
    have hi2 := (List.getElem?_eq_some_iff.mp hx).1
    rw [rangeD_len] at hi2
    simp
    refine ⟨ps, ls, ss, rfl, rfl, gl, by omega, bd, fun w wok => ⟨⟨_, getL_some sp⟩, ?_⟩⟩
    refine ⟨ps, ls, ss, w, rfl, rfl, gl, by omega, wok, by rw [sizeLine_eq]; omega, ?_⟩
    refine Eq.mpr (z_append sp (by rw [List.length_map, sizeLine_eq]; omega)) ?_
    have tl : (treesL ps.length (edges ls) w).length ≤ 2000 := by
      unfold treesL
      rw [List.length_map]
      have h1 := (progU_len ps.length (edges ls) (wf w) (edges ls).length).1
      have h2 : 2 ^ (edges ls).length ≤ 2 ^ 6 := Nat.pow_le_pow_right (by decide) (by rw [edges_len]; exact l6)
      omega
    refine hN _ _ _ (Sub.refl _) ⟨_, _, scs ++ [⟨ps, ls, ss, w⟩], rfl, ?_, by simp [sl], fun s hs => ?_⟩
    · rw [put_same, List.map_append]; rfl
    · rcases List.mem_append.mp hs with hs | hs
      · exact sok s hs
      · rw [List.mem_singleton.mp hs]; exact ⟨gl, by simp only; omega, wok, tl⟩
  · obtain ⟨o4, o5, scs, rfl, sp, sl, sok⟩ := hP
    rw [rangeD_len] at sl
    simp at sl ⊢
    refine ⟨⟨_, getL_some sp⟩, fun m m0 m1 => ?_⟩
    obtain ⟨k, ek⟩ : ∃ n : Nat, 3 + m = (n : Int) := ⟨(3 + m).toNat, by omega⟩
    rw [ek]
    refine ⟨k, rfl, rfl, by omega, by omega, fun ps2 ls2 w2 sok2 => ?_⟩
    refine Eq.mpr (z_append sp (by rw [List.length_map, sizeLine_eq]; omega)) ?_
    have sp2 : put s' p (.lst (scs.map Sc.d ++ [scD ps2 ls2 [[]] w2])) p = some (.lst ((scs ++ [(⟨ps2, ls2, [[]], w2⟩ : Sc)]).map Sc.d)) := by rw [put_same, List.map_append]; rfl
    have ok2 : ∀ s ∈ scs ++ [(⟨ps2, ls2, [[]], w2⟩ : Sc)], s.Ok := fun s hs => by
      rcases List.mem_append.mp hs with hs | hs
      · exact sok s hs
      · rw [List.mem_singleton.mp hs]; exact sok2
    have l2 : (scs ++ [(⟨ps2, ls2, [[]], w2⟩ : Sc)]).length = 3 := by simp [sl]
    intro a a0 a1 b b0 b1
    split
    · exact law_mid (n := 5) sp2 ok2 l2 (by omega) (by omega) h
    · obtain ⟨c, ec⟩ : ∃ n : Nat, 3 + a = (n : Int) := ⟨(3 + a).toNat, by omega⟩
      rw [ec]
      exact law_mid (n := c) sp2 ok2 l2 (by omega) (by omega) h
end K11
-- text K11E
set_option Elab.async false
set_option linter.all false
set_option maxRecDepth 100000
set_option maxHeartbeats 4000000
/-! K11E: the walk of k11_trees_of_wirings (printed by gen.py) -/
namespace K11
open PySem PySem.Spec PyProof.Rows L2 DL

section
variable {P : Program} {w : World} {K : PySem.W.Frag} {mg : Str → Option Value} {base h : Heap} {J : Hid}
theorem dd_heads_by (KX : K.In h) (G : h.Ns mainGlobals mg) (m : NoG mg) (F : FnAt K "heads_by" s_heads_by)  : DefD P w K mg base J "heads_by" 1 ["places", "links", "out"] sp_heads_by :=
  defD KX G F sc_heads_by (fun _ _ _ _ _ _ us hl => match us, hl with | [_, _, _], _ => rfl) (fun ds s R h => sp3.len h) (fun f cdv A outer s H E hr => have nd := sc_heads_by.nd
    (ssd_cons (sd_setDc (i := 3) (own := [("place", 4)]) rfl nd (id_seq (ed_var (i := 0))) (blkOk_by (own := [("place", 4)]) (N := N_heads_by) (sc := defScope s_heads_by) (by decide +kernel)) tg_name (fun _ _ _ _ _ => (pg_name (i := 4) nd rfl (Or.inl rfl))) (fun _ _ _ _ _ => tsd_nil) (fun _ _ _ _ _ => (ed_var (i := 4))) (fun _ _ _ _ _ => (ed_var (i := 4))) (sw_trueD rfl rfl rfl (by decide +kernel)))
    (ssd_cons (sd_for PassesOwn.never rfl (id_enum m.enumerate (ed_var (i := 1))) (gyd_tup rfl (gsd_cons (gd_name (i := 5) nd) (gsd_cons (gd_name (i := 6) nd) gsd_nil))) (ssd_cons (sd_if (td_w (wd_or (td_cmp (od_in (hu_room hr)) (ed_var (i := 5)) (ed_var (i := 2)) (by with_unfolding_all rfl)) (wd_or1 (td_cmp (od_eq (hu_room hr)) (ed_dget (hu_room hr) (ed_var (i := 3)) (ed_ix id_ix (ed_var (i := 6)) ed_int)) (ed_dget (hu_room hr) (ed_var (i := 3)) (ed_ix id_ix (ed_var (i := 6)) ed_int)) (nomark _))))) (ssd_one sd_continue) ssd_nil)
    (ssd_cons (sd_set (i := 7) nd (ed_min2X m rfl (ad_cons (ed_dget (hu_room hr) (ed_var (i := 3)) (ed_ix id_ix (ed_var (i := 6)) ed_int)) (ad_cons (ed_dget (hu_room hr) (ed_var (i := 3)) (ed_ix id_ix (ed_var (i := 6)) ed_int)) ad_nil))))
    (ssd_cons (sd_set (i := 8) nd (ed_max2X m rfl (ad_cons (ed_dget (hu_room hr) (ed_var (i := 3)) (ed_ix id_ix (ed_var (i := 6)) ed_int)) (ad_cons (ed_dget (hu_room hr) (ed_var (i := 3)) (ed_ix id_ix (ed_var (i := 6)) ed_int)) ad_nil))))
    (ssd_one (sd_for PassesOwn.never rfl (id_seq (ed_var (i := 0))) (gyd_val (gd_name (i := 4) nd)) (ssd_one (sd_if (td_cmp (od_eq (hu_room hr)) (ed_dget (hu_room hr) (ed_var (i := 3)) (ed_var (i := 4))) (ed_var (i := 8)) (nomark _)) (ssd_one (sd_asg (ed_var (i := 7)) (gd_sub (ed_var (i := 3)) (ed_var (i := 4)) (sd_dict (hu_room hr))))) ssd_nil))))))))
    (ssd_one (sd_ret (ed_var (i := 3))))))) (hs_heads_by)
theorem dd_tree_product (KX : K.In h) (G : h.Ns mainGlobals mg) (m : NoG mg) (F : FnAt K "tree_product" s_tree_product)  : DefD P w K mg base J "tree_product" 1 ["wiring", "tree"] sp_tree_product :=
  defD KX G F sc_tree_product (fun _ _ _ _ _ _ us hl => match us, hl with | [_, _], _ => rfl) (fun ds s R h => sp2.len h) (fun f cdv A outer s H E hr => have nd := sc_tree_product.nd
    (ssd_cons (sd_set (i := 2) nd ed_int)
    (ssd_cons (sd_for PassesOwn.never rfl (id_seq (ed_var (i := 1))) (gyd_val (gd_name (i := 3) nd)) (ssd_one (sd_if (td_cmp (od_ne (hu_room hr)) (ed_ix id_ix (ed_var (i := 0)) (ed_var (i := 3))) (ed_un ud_neg ed_int) (nomark _)) (ssd_one (sd_set (i := 2) nd (ed_op od_mul (ed_var (i := 2)) (ed_ix id_ix (ed_var (i := 0)) (ed_var (i := 3)))))) ssd_nil)))
    (ssd_one (sd_ret (ed_var (i := 2))))))) (hs_tree_product)
theorem dd__law_tape (KX : K.In h) (G : h.Ns mainGlobals mg) (m : NoG mg) (F : FnAt K "_law_tape" s__law_tape)  : DefD P w K mg base J "_law_tape" 1 ["script"] sp__law_tape :=
  defD KX G F sc__law_tape (fun _ _ _ _ _ _ us hl => match us, hl with | [_], _ => rfl) (fun ds s R h => sp1.len h) (fun f cdv A outer s H E hr => have nd := sc__law_tape.nd
    (ssd_cons (sd_setLc (i := 1) (own := [("cell", 2)]) rfl nd (id_seq (ed_var (i := 0))) (blkOk_by (own := [("cell", 2)]) (N := N__law_tape) (sc := defScope s__law_tape) (by decide +kernel)) tg_name (fun _ _ _ _ _ => (pg_name (i := 2) nd rfl (Or.inl rfl))) (fun _ _ _ _ _ => (tsd_one (td_cmp od_ge (ed_absD m (ad_cons (ed_var (i := 2)) ad_nil)) ed_int (nomark _)))) (fun _ _ _ _ _ => (ed_op od_add (ed_op od_mul ed_int (ed_absD m (ad_cons (ed_var (i := 2)) ad_nil))) (ed_intD m (ad_cons (ed_cmp od_lt (ed_var (i := 2)) ed_int (nomark _)) ad_nil)))) (sw_true rfl rfl rfl (by decide +kernel)))
    (ssd_cons (sd_set (i := 3) nd ed_int)
    (ssd_cons (sd_for PassesOwn.never rfl (id_seq (ed_var (i := 0))) (gyd_val (gd_name (i := 2) nd)) (ssd_one (sd_set (i := 3) nd (ed_op od_mod (ed_intD m (ad_cons (ed_op od_add (ed_op od_add (ed_op od_mul (ed_var (i := 3)) ed_int) (ed_var (i := 2))) ed_int) ad_nil)) ed_int))))
    (ssd_one (sd_ret (ed_lst (ad_cons (ed_var (i := 1)) (ad_cons (ed_var (i := 3)) ad_nil))))))))) (hs__law_tape)
theorem dd__law_draw {i : tAIdx} (KX : K.In h) (G : h.Ns mainGlobals mg) (m : NoG mg) (F : FnAt K "_law_draw" s__law_draw)  : DefD P w K mg base J "_law_draw" 1 ["tape", "many"] (sp0__law_draw i) :=
  defD KX G F sc__law_draw (fun _ _ _ _ _ _ us hl => match us, hl with | [_, _], _ => rfl) (fun ds s R h => sp2.len h) (fun f cdv A outer s H E hr => have nd := sc__law_draw.nd
    (ssd_cons (sd_if (td_cmp od_gt (ed_lenD m (ad_cons (ed_ix id_ix (ed_var (i := 0)) ed_int) ad_nil)) ed_int (nomark _)) (ssd_cons (sd_set (i := 2) nd (ed_ix id_ix (ed_ix id_ix (ed_var (i := 0)) ed_int) ed_int))
    (ssd_cons (sd_set (i := 3) nd (ed_op od_fdiv (ed_var (i := 2)) (ed_var (i := 1))))
    (ssd_cons (sd_asg (ed_var (i := 3)) (gd_sub (ed_ix id_ix (ed_var (i := 0)) ed_int) ed_int sd_list))
    (ssd_cons (sd_if (td_cmp (od_eq (hu_room hr)) (ed_var (i := 3)) ed_int (nomark _)) (ssd_one (sd_expr (ed_meth PySem.F.slot_list_pop PySem.F.type_list_pop md_popAt (ed_ix id_ix (ed_var (i := 0)) ed_int) (ad_cons ed_int ad_nil)))) ssd_nil)
    (ssd_one (sd_ret (ed_op od_mod (ed_intD m (ad_cons (ed_var (i := 2)) ad_nil)) (ed_var (i := 1))))))))) ssd_nil)
    (ssd_cons (sd_set (i := 4) nd (ed_op od_mod (ed_intD m (ad_cons (ed_op od_add (ed_op od_mul (ed_ix id_ix (ed_var (i := 0)) ed_int) ed_int) ed_int) ad_nil)) ed_int))
    (ssd_cons (sd_asg (ed_var (i := 4)) (gd_sub (ed_var (i := 0)) ed_int sd_list))
    (ssd_one (sd_ret (ed_op od_mod (ed_intD m (ad_cons (ed_op od_fdiv (ed_var (i := 4)) ed_int) ad_nil)) (ed_var (i := 1))))))))) (hs__law_draw i)
theorem dd__law_same (KX : K.In h) (G : h.Ns mainGlobals mg) (m : NoG mg) (F : FnAt K "_law_same" s__law_same)  : DefD P w K mg base J "_law_same" 1 ["due", "told"] sp__law_same :=
  defD KX G F sc__law_same (fun _ _ _ _ _ _ us hl => match us, hl with | [_, _], _ => rfl) (fun ds s R h => sp2.len h) (fun f cdv A outer s H E hr => have nd := sc__law_same.nd
    (ssd_cons (sd_set (i := 2) nd (ed_lst (ad_cons (ed_tup (ad_cons (ed_var (i := 0)) (ad_cons (ed_var (i := 1)) ad_nil))) ad_nil)))
    (ssd_cons (sd_while PassesOwn.never (td_cmp od_gt (ed_lenD m (ad_cons (ed_var (i := 2)) ad_nil)) ed_int (nomark _)) (ssd_cons (sd_set (i := 3) nd (ed_meth0 PySem.F.slot_list_pop PySem.F.type_list_pop md_pop (ed_var (i := 2))))
    (ssd_cons (sd_set (i := 4) nd (ed_ix id_ix (ed_var (i := 3)) ed_int))
    (ssd_cons (sd_set (i := 5) nd (ed_ix id_ix (ed_var (i := 3)) ed_int))
    (ssd_one (sd_if (td_cmp od_isN (ed_var (i := 4)) ed_non (nomark _)) (ssd_one (sd_if (td_cmp od_notN (ed_var (i := 5)) ed_non (nomark _)) (ssd_one (sd_ret ed_bl)) ssd_nil)) (ssd_one (sd_if (td_tru (ed_isi .bool m.isinstance m.bool (ed_var (i := 4)))) (ssd_one (sd_if (td_w (wd_or (td_not (td_tru (ed_isi .bool m.isinstance m.bool (ed_var (i := 5))))) (wd_or1 (td_cmp (od_ne (hu_room hr)) (ed_var (i := 4)) (ed_var (i := 5)) (nomark _))))) (ssd_one (sd_ret ed_bl)) ssd_nil)) (ssd_one (sd_if (td_tru (ed_isi .int m.isinstance m.int (ed_var (i := 4)))) (ssd_one (sd_if (td_w (wd_or (td_tru (ed_isi .bool m.isinstance m.bool (ed_var (i := 5)))) (wd_or (td_not (td_tru (ed_isi .int m.isinstance m.int (ed_var (i := 5))))) (wd_or1 (td_cmp (od_ne (hu_room hr)) (ed_var (i := 4)) (ed_var (i := 5)) (nomark _)))))) (ssd_one (sd_ret ed_bl)) ssd_nil)) (ssd_one (sd_if (td_tru (ed_isi .str m.isinstance m.str (ed_var (i := 4)))) (ssd_one (sd_if (td_w (wd_or (td_not (td_tru (ed_isi .str m.isinstance m.str (ed_var (i := 5))))) (wd_or1 (td_cmp (od_ne (hu_room hr)) (ed_var (i := 4)) (ed_var (i := 5)) (nomark _))))) (ssd_one (sd_ret ed_bl)) ssd_nil)) (ssd_one (sd_if (td_tru (ed_isi .tuple m.isinstance m.tuple (ed_var (i := 4)))) (ssd_cons (sd_if (td_w (wd_or (td_not (td_tru (ed_isi .tuple m.isinstance m.tuple (ed_var (i := 5))))) (wd_or1 (td_cmp (od_ne (hu_room hr)) (ed_lenD m (ad_cons (ed_var (i := 4)) ad_nil)) (ed_lenD m (ad_cons (ed_var (i := 5)) ad_nil)) (nomark _))))) (ssd_one (sd_ret ed_bl)) ssd_nil)
    (ssd_one (sd_expr (ed_meth PySem.F.slot_list_extend PySem.F.type_list_extend md_extend (ed_var (i := 2)) (ad_cons (ed_lc (own := [("k", 6)]) rfl nd (id_range1 m.range (ad_cons (ed_lenD m (ad_cons (ed_var (i := 4)) ad_nil)) ad_nil)) (blkOk_by (own := [("k", 6)]) (N := N__law_same) (sc := defScope s__law_same) (by decide +kernel)) tg_name (fun _ _ _ _ _ => (pg_name (i := 6) nd rfl (Or.inl rfl))) (fun _ _ _ _ _ => tsd_nil) (fun _ _ _ _ _ => (ed_tup (ad_cons (ed_ix id_ix (ed_var (i := 4)) (ed_var (i := 6))) (ad_cons (ed_ix id_ix (ed_var (i := 5)) (ed_var (i := 6))) ad_nil))))) ad_nil))))) (ssd_cons (sd_if (td_w (wd_or (td_not (td_tru (ed_isi .list m.isinstance m.list (ed_var (i := 5))))) (wd_or1 (td_cmp (od_ne (hu_room hr)) (ed_lenD m (ad_cons (ed_var (i := 4)) ad_nil)) (ed_lenD m (ad_cons (ed_var (i := 5)) ad_nil)) (nomark _))))) (ssd_one (sd_ret ed_bl)) ssd_nil)
    (ssd_one (sd_expr (ed_meth PySem.F.slot_list_extend PySem.F.type_list_extend md_extend (ed_var (i := 2)) (ad_cons (ed_lc (own := [("k", 6)]) rfl nd (id_range1 m.range (ad_cons (ed_lenD m (ad_cons (ed_var (i := 4)) ad_nil)) ad_nil)) (blkOk_by (own := [("k", 6)]) (N := N__law_same) (sc := defScope s__law_same) (by decide +kernel)) tg_name (fun _ _ _ _ _ => (pg_name (i := 6) nd rfl (Or.inl rfl))) (fun _ _ _ _ _ => tsd_nil) (fun _ _ _ _ _ => (ed_tup (ad_cons (ed_ix id_ix (ed_var (i := 4)) (ed_var (i := 6))) (ad_cons (ed_ix id_ix (ed_var (i := 5)) (ed_var (i := 6))) ad_nil))))) ad_nil)))))))))))))))))))
    (ssd_one (sd_ret ed_bl))))) (hs__law_same)
theorem dd__law_apart (KX : K.In h) (G : h.Ns mainGlobals mg) (m : NoG mg) (F : FnAt K "_law_apart" s__law_apart)  : DefD P w K mg base J "_law_apart" 1 ["many", "ends", "out"] sp__law_apart :=
  defD KX G F sc__law_apart (fun _ _ _ _ _ _ us hl => match us, hl with | [_, _, _], _ => rfl) (fun ds s R h => sp3.len h) (fun f cdv A outer s H E hr => have nd := sc__law_apart.nd
    (ssd_cons (sd_setLc (i := 3) (own := [("k", 4)]) rfl nd (id_range1 m.range (ad_cons (ed_var (i := 0)) ad_nil)) (blkOk_by (own := [("k", 4)]) (N := N__law_apart) (sc := defScope s__law_apart) (by decide +kernel)) tg_name (fun _ _ _ _ _ => (pg_name (i := 4) nd rfl (Or.inl rfl))) (fun _ _ _ _ _ => tsd_nil) (fun _ _ _ _ _ => (ed_var (i := 4))) (sw_true rfl rfl rfl (by decide +kernel)))
    (ssd_cons (sd_for PassesOwn.never rfl (id_range1 m.range (ad_cons (ed_lenD m (ad_cons (ed_var (i := 1)) ad_nil)) ad_nil)) (gyd_val (gd_name (i := 5) nd)) (ssd_cons (sd_set (i := 6) nd (ed_ix id_ix (ed_var (i := 3)) (ed_ix id_ix (ed_ix id_ix (ed_var (i := 1)) (ed_var (i := 5))) ed_int)))
    (ssd_cons (sd_set (i := 7) nd (ed_ix id_ix (ed_var (i := 3)) (ed_ix id_ix (ed_ix id_ix (ed_var (i := 1)) (ed_var (i := 5))) ed_int)))
    (ssd_one (sd_if (td_w (wd_and (td_cmp (od_notIn (hu_room hr)) (ed_var (i := 5)) (ed_var (i := 2)) (by with_unfolding_all rfl)) (wd_and1 (td_cmp (od_ne (hu_room hr)) (ed_var (i := 6)) (ed_var (i := 7)) (nomark _))))) (ssd_one (sd_setLc (i := 3) (own := [("label", 8)]) rfl nd (id_seq (ed_var (i := 3))) (blkOk_by (own := [("label", 8)]) (N := N__law_apart) (sc := defScope s__law_apart) (by decide +kernel)) tg_name (fun _ _ _ _ _ => (pg_name (i := 8) nd rfl (Or.inl rfl))) (fun _ _ _ _ _ => tsd_nil) (fun _ _ _ _ _ => (ed_op od_add (ed_var (i := 6)) (ed_op od_mul (ed_op od_sub (ed_var (i := 8)) (ed_var (i := 6))) (ed_intD m (ad_cons (ed_cmp (od_ne (hu_room hr)) (ed_var (i := 8)) (ed_var (i := 7)) (nomark _)) ad_nil))))) (sw_true rfl rfl rfl (by decide +kernel)))) ssd_nil)))))
    (ssd_one (sd_ret (ed_var (i := 3))))))) (hs__law_apart)
theorem dd__law_read (KX : K.In h) (G : h.Ns mainGlobals mg) (m : NoG mg) (F : FnAt K "_law_read" s__law_read)  : DefD P w K mg base J "_law_read" 1 ["grid"] sp__law_read :=
  defD KX G F sc__law_read (fun _ _ _ _ _ _ us hl => match us, hl with | [_], _ => rfl) (fun ds s R h => sp1.len h) (fun f cdv A outer s H E hr => have nd := sc__law_read.nd
    (ssd_one (sd_ret (ed_lc (own := [("link", 1)]) rfl nd (id_seq (ed_ix id_ix (ed_var (i := 0)) ed_int)) (blkOk_by (own := [("link", 1)]) (N := N__law_read) (sc := defScope s__law_read) (by decide +kernel)) tg_name (fun _ _ _ _ _ => (pg_name (i := 1) nd rfl (Or.inl rfl))) (fun _ _ _ _ _ => tsd_nil) (fun _ _ _ _ _ => (ed_tup (ad_cons (ed_index (hu_room hr) (ed_ix id_ix (ed_var (i := 0)) ed_int) (ad_cons (ed_ix id_ix (ed_var (i := 1)) ed_int) ad_nil)) (ad_cons (ed_index (hu_room hr) (ed_ix id_ix (ed_var (i := 0)) ed_int) (ad_cons (ed_ix id_ix (ed_var (i := 1)) ed_int) ad_nil)) ad_nil)))))))) (hs__law_read)
theorem dd__law_product (KX : K.In h) (G : h.Ns mainGlobals mg) (m : NoG mg) (F : FnAt K "_law_product" s__law_product)  : DefD P w K mg base J "_law_product" 1 ["wiring", "tree"] sp__law_product :=
  defD KX G F sc__law_product (fun _ _ _ _ _ _ us hl => match us, hl with | [_, _], _ => rfl) (fun ds s R h => sp2.len h) (fun f cdv A outer s H E hr => have nd := sc__law_product.nd
    (ssd_cons (sd_set (i := 2) nd ed_int)
    (ssd_cons (sd_for PassesOwn.never rfl (id_seq (ed_var (i := 1))) (gyd_val (gd_name (i := 3) nd)) (ssd_one (sd_if (td_cmp od_gt (ed_ix id_ix (ed_var (i := 0)) (ed_var (i := 3))) ed_int (nomark _)) (ssd_one (sd_set (i := 2) nd (ed_op od_mul (ed_var (i := 2)) (ed_ix id_ix (ed_var (i := 0)) (ed_var (i := 3)))))) ssd_nil)))
    (ssd_one (sd_ret (ed_var (i := 2))))))) (hs__law_product)
theorem dd_hangs_by (KX : K.In h) (G : h.Ns mainGlobals mg) (m : NoG mg) (F : FnAt K "hangs_by" s_hangs_by) (d_heads_by : DefD P w K mg base J "heads_by" 1 ["places", "links", "out"] sp_heads_by) : DefD P w K mg base J "hangs_by" 2 ["places", "links", "out"] sp_hangs_by :=
  defD KX G F sc_hangs_by (fun _ _ _ _ _ _ us hl => match us, hl with | [_, _, _], _ => rfl) (fun ds s R h => sp3.len h) (fun f cdv A outer s H E hr => have nd := sc_hangs_by.nd
    (ssd_cons (sd_set (i := 3) nd (ed_callD d_heads_by (hr.mono (by decide)) (ad_cons (ed_var (i := 0)) (ad_cons (ed_var (i := 1)) (ad_cons (ed_var (i := 2)) ad_nil)))))
    (ssd_one (sd_ret (ed_allD m rfl (ad_cons (ed_lc (own := [("place", 4)]) rfl nd (id_seq (ed_var (i := 0))) (blkOk_by (own := [("place", 4)]) (N := N_hangs_by) (sc := defScope s_hangs_by) (by decide +kernel)) tg_name (fun _ _ _ _ _ => (pg_name (i := 4) nd rfl (Or.inl rfl))) (fun _ _ _ _ _ => tsd_nil) (fun _ _ _ _ _ => (ed_cmp (od_eq (hu_room hr)) (ed_dget (hu_room hr) (ed_var (i := 3)) (ed_var (i := 4))) (ed_ix id_ix (ed_var (i := 0)) ed_int) (nomark _)))) ad_nil)))))) (hs_hangs_by)
theorem dd_closes_ring (KX : K.In h) (G : h.Ns mainGlobals mg) (m : NoG mg) (F : FnAt K "closes_ring" s_closes_ring) (d_heads_by : DefD P w K mg base J "heads_by" 1 ["places", "links", "out"] sp_heads_by) : DefD P w K mg base J "closes_ring" 2 ["grid", "taken", "number"] sp_closes_ring :=
  defD KX G F sc_closes_ring (fun _ _ _ _ _ _ us hl => match us, hl with | [_, _, _], _ => rfl) (fun ds s R h => sp3.len h) (fun f cdv A outer s H E hr => have nd := sc_closes_ring.nd
    (ssd_cons (sd_asg (ed_var (i := 0)) (gd_tup rfl (gsd_cons (gd_name (i := 3) nd) (gsd_cons (gd_name (i := 4) nd) (gsd_cons (gd_name (i := 5) nd) gsd_nil)))))
    (ssd_cons (sd_set (i := 6) nd (ed_callD d_heads_by (hr.mono (by decide)) (ad_cons (ed_var (i := 3)) (ad_cons (ed_lc (own := [("kept", 7)]) rfl nd (id_seq (ed_var (i := 1))) (blkOk_by (own := [("kept", 7)]) (N := N_closes_ring) (sc := defScope s_closes_ring) (by decide +kernel)) tg_name (fun _ _ _ _ _ => (pg_name (i := 7) nd rfl (Or.inl rfl))) (fun _ _ _ _ _ => tsd_nil) (fun _ _ _ _ _ => (ed_ix id_ix (ed_var (i := 4)) (ed_var (i := 7))))) (ad_cons (ed_tup ad_nil) ad_nil)))))
    (ssd_one (sd_ret (ed_cmp (od_eq (hu_room hr)) (ed_dget (hu_room hr) (ed_var (i := 6)) (ed_ix id_ix (ed_ix id_ix (ed_var (i := 4)) (ed_var (i := 2))) ed_int)) (ed_dget (hu_room hr) (ed_var (i := 6)) (ed_ix id_ix (ed_ix id_ix (ed_var (i := 4)) (ed_var (i := 2))) ed_int)) (nomark _))))))) (hs_closes_ring)
theorem dd_tree_flow (KX : K.In h) (G : h.Ns mainGlobals mg) (m : NoG mg) (F : FnAt K "tree_flow" s_tree_flow) (d_heads_by : DefD P w K mg base J "heads_by" 1 ["places", "links", "out"] sp_heads_by) : DefD P w K mg base J "tree_flow" 2 ["grid", "tree", "place", "other"] sp_tree_flow :=
  defD KX G F sc_tree_flow (fun _ _ _ _ _ _ us hl => match us, hl with | [_, _, _, _], _ => rfl) (fun ds s R h => sp4.len h) (fun f cdv A outer s H E hr => have nd := sc_tree_flow.nd
    (ssd_cons (sd_asg (ed_var (i := 0)) (gd_tup rfl (gsd_cons (gd_name (i := 4) nd) (gsd_cons (gd_name (i := 5) nd) (gsd_cons (gd_name (i := 6) nd) gsd_nil)))))
    (ssd_cons (sd_set (i := 7) nd (ed_lst ad_nil))
    (ssd_cons (sd_for PassesOwn.never rfl (id_enum m.enumerate (ed_var (i := 5))) (gyd_tup rfl (gsd_cons (gd_name (i := 8) nd) (gsd_cons (gd_name (i := 9) nd) gsd_nil))) (ssd_cons (sd_set (i := 10) nd ed_int)
    (ssd_cons (sd_if (td_cmp (od_in (hu_room hr)) (ed_var (i := 8)) (ed_var (i := 1)) (by with_unfolding_all rfl)) (ssd_cons (sd_set (i := 11) nd (ed_callD d_heads_by (hr.mono (by decide)) (ad_cons (ed_var (i := 4)) (ad_cons (ed_lc (own := [("kept", 12)]) rfl nd (id_seq (ed_var (i := 1))) (blkOk_by (own := [("kept", 12)]) (N := N_tree_flow) (sc := defScope s_tree_flow) (by decide +kernel)) tg_name (fun _ _ _ _ _ => (pg_name (i := 12) nd rfl (Or.inl rfl))) (fun _ _ _ _ _ => (tsd_one (td_cmp (od_ne (hu_room hr)) (ed_var (i := 12)) (ed_var (i := 8)) (nomark _)))) (fun _ _ _ _ _ => (ed_ix id_ix (ed_var (i := 5)) (ed_var (i := 12))))) (ad_cons (ed_tup ad_nil) ad_nil)))))
    (ssd_one (sd_if (td_cmp (od_ne (hu_room hr)) (ed_dget (hu_room hr) (ed_var (i := 11)) (ed_var (i := 2))) (ed_dget (hu_room hr) (ed_var (i := 11)) (ed_var (i := 3))) (nomark _)) (ssd_cons (sd_set (i := 10) nd (ed_un ud_neg ed_int))
    (ssd_one (sd_if (td_cmp (od_eq (hu_room hr)) (ed_dget (hu_room hr) (ed_var (i := 11)) (ed_ix id_ix (ed_var (i := 9)) ed_int)) (ed_dget (hu_room hr) (ed_var (i := 11)) (ed_var (i := 2))) (nomark _)) (ssd_one (sd_set (i := 10) nd ed_int)) ssd_nil))) ssd_nil))) ssd_nil)
    (ssd_one (sd_expr (ed_meth PySem.F.slot_list_append PySem.F.type_list_append md_append (ed_var (i := 7)) (ad_cons (ed_var (i := 10)) ad_nil)))))))
    (ssd_one (sd_ret (ed_tupleD m (ad_cons (ed_var (i := 7)) ad_nil)))))))) (hs_tree_flow)
theorem dd__law_names {t : Addr} (KX : K.In h) (G : h.Ns mainGlobals mg) (m : NoG mg) (F : FnAt K "_law_names" s__law_names) (d__law_draw : DefD P w K mg base J "_law_draw" 1 ["tape", "many"] (sp__law_draw t)) : DefD P w K mg base J "_law_names" 2 ["tape", "many"] (sp__law_names t) :=
  defD KX G F sc__law_names (fun _ _ _ _ _ _ us hl => match us, hl with | [_, _], _ => rfl) (fun ds s R h => sp2.len h) (fun f cdv A outer s H E hr => have nd := sc__law_names.nd
    (ssd_cons (sd_set (i := 2) nd (ed_lst ad_nil))
    (ssd_cons (sd_for PassesOwn.never rfl (id_range1 m.range (ad_cons (ed_var (i := 1)) ad_nil)) (gyd_val (gd_name (i := 3) nd)) (ssd_cons (sd_set (i := 4) nd (ed_ix id_ix ed_str (ed_callD d__law_draw (hr.mono (by decide)) (ad_cons (ed_var (i := 0)) (ad_cons ed_int ad_nil)))))
    (ssd_cons (sd_for PassesOwn.never rfl (id_range1 m.range (ad_cons (ed_ix id_ix (ed_lst (ad_cons ed_int (ad_cons ed_int (ad_cons ed_int (ad_cons ed_int (ad_cons ed_int ad_nil)))))) (ed_callD d__law_draw (hr.mono (by decide)) (ad_cons (ed_var (i := 0)) (ad_cons ed_int ad_nil)))) ad_nil)) (gyd_val (gd_name (i := 5) nd)) (ssd_one (sd_set (i := 4) nd (ed_op od_add (ed_var (i := 4)) (ed_ix id_ix ed_str (ed_callD d__law_draw (hr.mono (by decide)) (ad_cons (ed_var (i := 0)) (ad_cons ed_int ad_nil))))))))
    (ssd_cons (sd_for PassesOwn.never rfl (id_range1 m.range (ad_cons (ed_op od_add (ed_var (i := 1)) ed_int) ad_nil)) (gyd_val (gd_name (i := 6) nd)) (ssd_cons (sd_if (td_cmp (od_notIn (hu_room hr)) (ed_var (i := 4)) (ed_var (i := 2)) (by with_unfolding_all rfl)) (ssd_one sd_break) ssd_nil)
    (ssd_one (sd_set (i := 4) nd (ed_op od_add ed_str (ed_strD m (ad_cons (ed_var (i := 6)) ad_nil)))))))
    (ssd_one (sd_expr (ed_meth PySem.F.slot_list_append PySem.F.type_list_append md_append (ed_var (i := 2)) (ad_cons (ed_var (i := 4)) ad_nil))))))))
    (ssd_one (sd_ret (ed_var (i := 2))))))) (hs__law_names t)
theorem dd__law_whole_out (KX : K.In h) (G : h.Ns mainGlobals mg) (m : NoG mg) (F : FnAt K "_law_whole_out" s__law_whole_out) (d__law_apart : DefD P w K mg base J "_law_apart" 1 ["many", "ends", "out"] sp__law_apart) : DefD P w K mg base J "_law_whole_out" 2 ["many", "ends", "out"] sp__law_whole_out :=
  defD KX G F sc__law_whole_out (fun _ _ _ _ _ _ us hl => match us, hl with | [_, _, _], _ => rfl) (fun ds s R h => sp3.len h) (fun f cdv A outer s H E hr => have nd := sc__law_whole_out.nd
    (ssd_cons (sd_set (i := 3) nd (ed_callD d__law_apart (hr.mono (by decide)) (ad_cons (ed_var (i := 0)) (ad_cons (ed_var (i := 1)) (ad_cons (ed_var (i := 2)) ad_nil)))))
    (ssd_one (sd_ret (ed_cmp (od_eq (hu_room hr)) (ed_meth PySem.F.slot_list_count PySem.F.type_list_count (md_count (hu_room hr)) (ed_var (i := 3)) (ad_cons (ed_ix id_ix (ed_var (i := 3)) ed_int) ad_nil)) (ed_var (i := 0)) (nomark _)))))) (hs__law_whole_out)
theorem dd__law_admittance {t : Addr} (KX : K.In h) (G : h.Ns mainGlobals mg) (m : NoG mg) (F : FnAt K "_law_admittance" s__law_admittance) (d__law_draw : DefD P w K mg base J "_law_draw" 1 ["tape", "many"] (sp__law_draw t)) : DefD P w K mg base J "_law_admittance" 2 ["tape"] (sp__law_admittance t) :=
  defD KX G F sc__law_admittance (fun _ _ _ _ _ _ us hl => match us, hl with | [_], _ => rfl) (fun ds s R h => sp1.len h) (fun f cdv A outer s H E hr => have nd := sc__law_admittance.nd
    (ssd_cons (sd_set (i := 1) nd (ed_callD d__law_draw (hr.mono (by decide)) (ad_cons (ed_var (i := 0)) (ad_cons ed_int ad_nil))))
    (ssd_cons (sd_if (td_cmp (od_eq (hu_room hr)) (ed_var (i := 1)) ed_int (nomark _)) (ssd_one (sd_ret ed_non)) ssd_nil)
    (ssd_cons (sd_if (td_cmp od_lt (ed_var (i := 1)) ed_int (nomark _)) (ssd_cons (sd_set (i := 2) nd (ed_op od_add ed_int (ed_callD d__law_draw (hr.mono (by decide)) (ad_cons (ed_var (i := 0)) (ad_cons ed_int ad_nil)))))
    (ssd_one (sd_ret (ed_tup (ad_cons (ed_var (i := 2)) (ad_cons (ed_var (i := 2)) ad_nil)))))) ssd_nil)
    (ssd_cons (sd_if (td_cmp (od_eq (hu_room hr)) (ed_var (i := 1)) ed_int (nomark _)) (ssd_cons (sd_set (i := 2) nd (ed_op od_add ed_int (ed_callD d__law_draw (hr.mono (by decide)) (ad_cons (ed_var (i := 0)) (ad_cons ed_int ad_nil)))))
    (ssd_one (sd_ret (ed_tup (ad_cons (ed_var (i := 2)) (ad_cons (ed_op od_add (ed_var (i := 2)) (ed_callD d__law_draw (hr.mono (by decide)) (ad_cons (ed_var (i := 0)) (ad_cons ed_int ad_nil)))) ad_nil)))))) ssd_nil)
    (ssd_cons (sd_set (i := 2) nd (ed_op od_add ed_int (ed_callD d__law_draw (hr.mono (by decide)) (ad_cons (ed_var (i := 0)) (ad_cons ed_int ad_nil)))))
    (ssd_one (sd_ret (ed_tup (ad_cons (ed_var (i := 2)) (ad_cons (ed_op od_add (ed_var (i := 2)) (ed_callD d__law_draw (hr.mono (by decide)) (ad_cons (ed_var (i := 0)) (ad_cons (ed_op od_sub ed_int (ed_var (i := 2))) ad_nil)))) ad_nil))))))))))) (hs__law_admittance t)
theorem dd__law_room {t : Addr} (KX : K.In h) (G : h.Ns mainGlobals mg) (m : NoG mg) (F : FnAt K "_law_room" s__law_room) (d__law_draw : DefD P w K mg base J "_law_draw" 1 ["tape", "many"] (sp__law_draw t)) : DefD P w K mg base J "_law_room" 2 ["tape"] (sp__law_room t) :=
  defD KX G F sc__law_room (fun _ _ _ _ _ _ us hl => match us, hl with | [_], _ => rfl) (fun ds s R h => sp1.len h) (fun f cdv A outer s H E hr => have nd := sc__law_room.nd
    (ssd_one (sd_ret (ed_ix id_ix (ed_lst (ad_cons (ed_callD d__law_draw (hr.mono (by decide)) (ad_cons (ed_var (i := 0)) (ad_cons ed_int ad_nil))) (ad_cons ed_int (ad_cons (ed_op od_sub ed_int (ed_callD d__law_draw (hr.mono (by decide)) (ad_cons (ed_var (i := 0)) (ad_cons ed_int ad_nil)))) (ad_cons (ed_callD d__law_draw (hr.mono (by decide)) (ad_cons (ed_var (i := 0)) (ad_cons ed_int ad_nil))) ad_nil))))) (ed_callD d__law_draw (hr.mono (by decide)) (ad_cons (ed_var (i := 0)) (ad_cons ed_int ad_nil))))))) (hs__law_room t)
theorem dd__law_order {t : Addr} (KX : K.In h) (G : h.Ns mainGlobals mg) (m : NoG mg) (F : FnAt K "_law_order" s__law_order) (d__law_draw : DefD P w K mg base J "_law_draw" 1 ["tape", "many"] (sp__law_draw t)) : DefD P w K mg base J "_law_order" 2 ["tape", "many"] (sp__law_order t) :=
  defD KX G F sc__law_order (fun _ _ _ _ _ _ us hl => match us, hl with | [_, _], _ => rfl) (fun ds s R h => sp2.len h) (fun f cdv A outer s H E hr => have nd := sc__law_order.nd
    (ssd_cons (sd_setLc (i := 2) (own := [("k", 3)]) rfl nd (id_range1 m.range (ad_cons (ed_var (i := 1)) ad_nil)) (blkOk_by (own := [("k", 3)]) (N := N__law_order) (sc := defScope s__law_order) (by decide +kernel)) tg_name (fun _ _ _ _ _ => (pg_name (i := 3) nd rfl (Or.inl rfl))) (fun _ _ _ _ _ => tsd_nil) (fun _ _ _ _ _ => (ed_var (i := 3))) (sw_true rfl rfl rfl (by decide +kernel)))
    (ssd_cons (sd_set (i := 4) nd (ed_lst ad_nil))
    (ssd_cons (sd_for PassesOwn.never rfl (id_range1 m.range (ad_cons (ed_var (i := 1)) ad_nil)) (gyd_val (gd_name (i := 5) nd)) (ssd_one (sd_expr (ed_meth PySem.F.slot_list_append PySem.F.type_list_append md_append (ed_var (i := 4)) (ad_cons (ed_meth PySem.F.slot_list_pop PySem.F.type_list_pop md_popAt (ed_var (i := 2)) (ad_cons (ed_callD d__law_draw (hr.mono (by decide)) (ad_cons (ed_var (i := 0)) (ad_cons (ed_lenD m (ad_cons (ed_var (i := 2)) ad_nil)) ad_nil))) ad_nil)) ad_nil)))))
    (ssd_one (sd_ret (ed_var (i := 4)))))))) (hs__law_order t)
theorem dd__law_trees (KX : K.In h) (G : h.Ns mainGlobals mg) (m : NoG mg) (F : FnAt K "_law_trees" s__law_trees) (d__law_read : DefD P w K mg base J "_law_read" 1 ["grid"] sp__law_read) : DefD P w K mg base J "_law_trees" 2 ["grid", "wiring"] sp__law_trees :=
  defD KX G F sc__law_trees (fun _ _ _ _ _ _ us hl => match us, hl with | [_, _], _ => rfl) (fun ds s R h => sp2.len h) (fun f cdv A outer s H E hr => have nd := sc__law_trees.nd
    (ssd_cons (sd_set (i := 2) nd (ed_callD d__law_read (hr.mono (by decide)) (ad_cons (ed_var (i := 0)) ad_nil)))
    (ssd_cons (sd_set (i := 3) nd (ed_lst (ad_cons (ed_tup (ad_cons (ed_tup ad_nil) (ad_cons (ed_lc (own := [("k", 4)]) rfl nd (id_range1 m.range (ad_cons (ed_lenD m (ad_cons (ed_ix id_ix (ed_var (i := 0)) ed_int) ad_nil)) ad_nil)) (blkOk_by (own := [("k", 4)]) (N := N__law_trees) (sc := defScope s__law_trees) (by decide +kernel)) tg_name (fun _ _ _ _ _ => (pg_name (i := 4) nd rfl (Or.inl rfl))) (fun _ _ _ _ _ => tsd_nil) (fun _ _ _ _ _ => (ed_var (i := 4)))) ad_nil))) ad_nil)))
    (ssd_cons (sd_for PassesOwn.never rfl (id_range1 m.range (ad_cons (ed_lenD m (ad_cons (ed_var (i := 2)) ad_nil)) ad_nil)) (gyd_val (gd_name (i := 5) nd)) (ssd_cons (sd_set (i := 6) nd (ed_lst ad_nil))
    (ssd_cons (sd_for PassesOwn.never rfl (id_seq (ed_var (i := 3))) (gyd_val (gd_name (i := 7) nd)) (ssd_cons (sd_set (i := 8) nd (ed_ix id_ix (ed_ix id_ix (ed_var (i := 7)) ed_int) (ed_ix id_ix (ed_ix id_ix (ed_var (i := 2)) (ed_var (i := 5))) ed_int)))
    (ssd_cons (sd_set (i := 9) nd (ed_ix id_ix (ed_ix id_ix (ed_var (i := 7)) ed_int) (ed_ix id_ix (ed_ix id_ix (ed_var (i := 2)) (ed_var (i := 5))) ed_int)))
    (ssd_cons (sd_if (td_cmp (od_ne (hu_room hr)) (ed_ix id_ix (ed_var (i := 1)) (ed_var (i := 5))) (ed_un ud_neg ed_int) (nomark _)) (ssd_one (sd_expr (ed_meth PySem.F.slot_list_append PySem.F.type_list_append md_append (ed_var (i := 6)) (ad_cons (ed_var (i := 7)) ad_nil)))) ssd_nil)
    (ssd_one (sd_if (td_w (wd_and (td_cmp (od_ne (hu_room hr)) (ed_ix id_ix (ed_var (i := 1)) (ed_var (i := 5))) ed_int (nomark _)) (wd_and1 (td_cmp (od_ne (hu_room hr)) (ed_var (i := 8)) (ed_var (i := 9)) (nomark _))))) (ssd_one (sd_expr (ed_meth PySem.F.slot_list_append PySem.F.type_list_append md_append (ed_var (i := 6)) (ad_cons (ed_tup (ad_cons (ed_op od_add (ed_ix id_ix (ed_var (i := 7)) ed_int) (ed_tup (ad_cons (ed_var (i := 5)) ad_nil))) (ad_cons (ed_lc (own := [("label", 10)]) rfl nd (id_seq (ed_ix id_ix (ed_var (i := 7)) ed_int)) (blkOk_by (own := [("label", 10)]) (N := N__law_trees) (sc := defScope s__law_trees) (by decide +kernel)) tg_name (fun _ _ _ _ _ => (pg_name (i := 10) nd rfl (Or.inl rfl))) (fun _ _ _ _ _ => tsd_nil) (fun _ _ _ _ _ => (ed_op od_add (ed_var (i := 8)) (ed_op od_mul (ed_op od_sub (ed_var (i := 10)) (ed_var (i := 8))) (ed_intD m (ad_cons (ed_cmp (od_ne (hu_room hr)) (ed_var (i := 10)) (ed_var (i := 9)) (nomark _)) ad_nil)))))) ad_nil))) ad_nil)))) ssd_nil))))))
    (ssd_one (sd_set (i := 3) nd (ed_var (i := 6)))))))
    (ssd_one (sd_ret (ed_tupleD m (ad_cons (ed_sortedD m (hu_room3 hr) (ad_cons (ed_lc (own := [("row", 7)]) rfl nd (id_seq (ed_var (i := 3))) (blkOk_by (own := [("row", 7)]) (N := N__law_trees) (sc := defScope s__law_trees) (by decide +kernel)) tg_name (fun _ _ _ _ _ => (pg_name (i := 7) nd rfl (Or.inl rfl))) (fun _ _ _ _ _ => (tsd_one (td_cmp (od_eq (hu_room hr)) (ed_lenD m (ad_cons (ed_ix id_ix (ed_var (i := 7)) ed_int) ad_nil)) (ed_op od_sub (ed_lenD m (ad_cons (ed_ix id_ix (ed_var (i := 0)) ed_int) ad_nil)) ed_int) (nomark _)))) (fun _ _ _ _ _ => (ed_ix id_ix (ed_var (i := 7)) ed_int))) ad_nil)) ad_nil)))))))) (hs__law_trees)
theorem dd__law_flow (KX : K.In h) (G : h.Ns mainGlobals mg) (m : NoG mg) (F : FnAt K "_law_flow" s__law_flow) (d__law_read : DefD P w K mg base J "_law_read" 1 ["grid"] sp__law_read) (d__law_apart : DefD P w K mg base J "_law_apart" 1 ["many", "ends", "out"] sp__law_apart) : DefD P w K mg base J "_law_flow" 2 ["grid", "tree", "first", "second"] sp__law_flow :=
  defD KX G F sc__law_flow (fun _ _ _ _ _ _ us hl => match us, hl with | [_, _, _, _], _ => rfl) (fun ds s R h => sp4.len h) (fun f cdv A outer s H E hr => have nd := sc__law_flow.nd
    (ssd_cons (sd_set (i := 4) nd (ed_callD d__law_read (hr.mono (by decide)) (ad_cons (ed_var (i := 0)) ad_nil)))
    (ssd_cons (sd_set (i := 5) nd (ed_lst ad_nil))
    (ssd_cons (sd_for PassesOwn.never rfl (id_range1 m.range (ad_cons (ed_lenD m (ad_cons (ed_var (i := 4)) ad_nil)) ad_nil)) (gyd_val (gd_name (i := 6) nd)) (ssd_cons (sd_setLc (i := 7) (own := [("k", 8)]) rfl nd (id_range1 m.range (ad_cons (ed_lenD m (ad_cons (ed_var (i := 4)) ad_nil)) ad_nil)) (blkOk_by (own := [("k", 8)]) (N := N__law_flow) (sc := defScope s__law_flow) (by decide +kernel)) tg_name (fun _ _ _ _ _ => (pg_name (i := 8) nd rfl (Or.inl rfl))) (fun _ _ _ _ _ => (tsd_one (td_w (wd_or (td_cmp (od_notIn (hu_room hr)) (ed_var (i := 8)) (ed_var (i := 1)) (by with_unfolding_all rfl)) (wd_or1 (td_cmp (od_eq (hu_room hr)) (ed_var (i := 8)) (ed_var (i := 6)) (nomark _))))))) (fun _ _ _ _ _ => (ed_var (i := 8))) (sw_true rfl rfl rfl (by decide +kernel)))
    (ssd_cons (sd_set (i := 9) nd (ed_callD d__law_apart (hr.mono (by decide)) (ad_cons (ed_lenD m (ad_cons (ed_ix id_ix (ed_var (i := 0)) ed_int) ad_nil)) (ad_cons (ed_var (i := 4)) (ad_cons (ed_var (i := 7)) ad_nil)))))
    (ssd_one (sd_if (td_w (wd_or (td_cmp (od_notIn (hu_room hr)) (ed_var (i := 6)) (ed_var (i := 1)) (by with_unfolding_all rfl)) (wd_or1 (td_cmp (od_eq (hu_room hr)) (ed_ix id_ix (ed_var (i := 9)) (ed_var (i := 2))) (ed_ix id_ix (ed_var (i := 9)) (ed_var (i := 3))) (nomark _))))) (ssd_one (sd_expr (ed_meth PySem.F.slot_list_append PySem.F.type_list_append md_append (ed_var (i := 5)) (ad_cons ed_int ad_nil)))) (ssd_one (sd_if (td_cmp (od_eq (hu_room hr)) (ed_ix id_ix (ed_var (i := 9)) (ed_ix id_ix (ed_ix id_ix (ed_var (i := 4)) (ed_var (i := 6))) ed_int)) (ed_ix id_ix (ed_var (i := 9)) (ed_var (i := 2))) (nomark _)) (ssd_one (sd_expr (ed_meth PySem.F.slot_list_append PySem.F.type_list_append md_append (ed_var (i := 5)) (ad_cons ed_int ad_nil)))) (ssd_one (sd_expr (ed_meth PySem.F.slot_list_append PySem.F.type_list_append md_append (ed_var (i := 5)) (ad_cons (ed_un ud_neg ed_int) ad_nil)))))))))))
    (ssd_one (sd_ret (ed_tupleD m (ad_cons (ed_var (i := 5)) ad_nil)))))))) (hs__law_flow)
theorem dd__law_worth {t : Addr} (KX : K.In h) (G : h.Ns mainGlobals mg) (m : NoG mg) (F : FnAt K "_law_worth" s__law_worth) (d__law_draw : DefD P w K mg base J "_law_draw" 1 ["tape", "many"] (sp__law_draw t)) : DefD P w K mg base J "_law_worth" 2 ["tape"] (sp__law_worth t) :=
  defD KX G F sc__law_worth (fun _ _ _ _ _ _ us hl => match us, hl with | [_], _ => rfl) (fun ds s R h => sp1.len h) (fun f cdv A outer s H E hr => have nd := sc__law_worth.nd
    (ssd_cons (sd_set (i := 1) nd (ed_callD d__law_draw (hr.mono (by decide)) (ad_cons (ed_var (i := 0)) (ad_cons ed_int ad_nil))))
    (ssd_cons (sd_if (td_cmp od_lt (ed_var (i := 1)) ed_int (nomark _)) (ssd_one (sd_ret (ed_op od_add ed_int (ed_callD d__law_draw (hr.mono (by decide)) (ad_cons (ed_var (i := 0)) (ad_cons ed_int ad_nil)))))) ssd_nil)
    (ssd_cons (sd_if (td_cmp (od_eq (hu_room hr)) (ed_var (i := 1)) ed_int (nomark _)) (ssd_one (sd_ret (ed_op od_add ed_int (ed_callD d__law_draw (hr.mono (by decide)) (ad_cons (ed_var (i := 0)) (ad_cons ed_int ad_nil)))))) ssd_nil)
    (ssd_one (sd_ret (ed_op od_sub ed_int (ed_callD d__law_draw (hr.mono (by decide)) (ad_cons (ed_var (i := 0)) (ad_cons ed_int ad_nil)))))))))) (hs__law_worth t)
theorem dd_trees_of (KX : K.In h) (G : h.Ns mainGlobals mg) (m : NoG mg) (F : FnAt K "trees_of" s_trees_of) (d_closes_ring : DefD P w K mg base J "closes_ring" 2 ["grid", "taken", "number"] sp_closes_ring) (d_hangs_by : DefD P w K mg base J "hangs_by" 2 ["places", "links", "out"] sp_hangs_by) : DefD P w K mg base J "trees_of" 3 ["grid", "wiring"] sp_trees_of :=
  defD KX G F sc_trees_of (fun _ _ _ _ _ _ us hl => match us, hl with | [_, _], _ => rfl) (fun ds s R h => sp2.len h) (fun f cdv A outer s H E hr => have nd := sc_trees_of.nd
    (ssd_cons (sd_asg (ed_var (i := 0)) (gd_tup rfl (gsd_cons (gd_name (i := 2) nd) (gsd_cons (gd_name (i := 3) nd) (gsd_cons (gd_name (i := 4) nd) gsd_nil)))))
    (ssd_cons (sd_set (i := 5) nd (ed_tupleD m (ad_cons (ed_lc (own := [("number", 6), ("admittance", 7)]) rfl nd (id_enum m.enumerate (ed_var (i := 1))) (blkOk_by (own := [("number", 6), ("admittance", 7)]) (N := N_trees_of) (sc := defScope s_trees_of) (by decide +kernel)) (tg_tup (tgs_cons tg_name (tgs_cons tg_name tgs_nil))) (fun _ _ _ _ _ => (pg_tup rfl (pgs_cons (pg_name (i := 6) nd rfl (Or.inl rfl)) (pgs_cons (pg_name (i := 7) nd rfl (Or.inl rfl)) pgs_nil)))) (fun _ _ _ _ _ => (tsd_one (td_cmp (od_eq (hu_room hr)) (ed_var (i := 7)) (ed_un ud_neg ed_int) (nomark _)))) (fun _ _ _ _ _ => (ed_var (i := 6)))) ad_nil)))
    (ssd_cons (sd_set (i := 8) nd (ed_tupleD m (ad_cons (ed_lc (own := [("number", 6), ("admittance", 7)]) rfl nd (id_enum m.enumerate (ed_var (i := 1))) (blkOk_by (own := [("number", 6), ("admittance", 7)]) (N := N_trees_of) (sc := defScope s_trees_of) (by decide +kernel)) (tg_tup (tgs_cons tg_name (tgs_cons tg_name tgs_nil))) (fun _ _ _ _ _ => (pg_tup rfl (pgs_cons (pg_name (i := 6) nd rfl (Or.inl rfl)) (pgs_cons (pg_name (i := 7) nd rfl (Or.inl rfl)) pgs_nil)))) (fun _ _ _ _ _ => (tsd_one (td_cmp (od_eq (hu_room hr)) (ed_var (i := 7)) ed_int (nomark _)))) (fun _ _ _ _ _ => (ed_var (i := 6)))) ad_nil)))
    (ssd_cons (sd_set (i := 9) nd (ed_lst (ad_cons (ed_tup (ad_cons (ed_var (i := 5)) (ad_cons (ed_var (i := 8)) ad_nil))) ad_nil)))
    (ssd_cons (sd_for PassesOwn.never rfl (id_enum m.enumerate (ed_var (i := 1))) (gyd_tup rfl (gsd_cons (gd_name (i := 6) nd) (gsd_cons (gd_name (i := 7) nd) gsd_nil))) (ssd_cons (sd_if (td_cmp od_le (ed_var (i := 7)) ed_int (nomark _)) (ssd_one sd_continue) ssd_nil)
    (ssd_cons (sd_set (i := 10) nd (ed_lst ad_nil))
    (ssd_cons (sd_for PassesOwn.never rfl (id_seq (ed_var (i := 9))) (gyd_val (gd_tup rfl (gsd_cons (gd_name (i := 11) nd) (gsd_cons (gd_name (i := 12) nd) gsd_nil)))) (ssd_cons (sd_set (i := 13) nd (ed_callD d_closes_ring (hr.mono (by decide)) (ad_cons (ed_var (i := 0)) (ad_cons (ed_var (i := 11)) (ad_cons (ed_var (i := 6)) ad_nil)))))
    (ssd_cons (sd_if (td_not (td_tru (ed_var (i := 13)))) (ssd_one (sd_expr (ed_meth PySem.F.slot_list_append PySem.F.type_list_append md_append (ed_var (i := 10)) (ad_cons (ed_tup (ad_cons (ed_op od_add (ed_var (i := 11)) (ed_tup (ad_cons (ed_var (i := 6)) ad_nil))) (ad_cons (ed_var (i := 12)) ad_nil))) ad_nil)))) ssd_nil)
    (ssd_one (sd_if (td_w (wd_or (td_tru (ed_var (i := 13))) (wd_or1 (td_tru (ed_callD d_hangs_by (hr.mono (by decide)) (ad_cons (ed_var (i := 2)) (ad_cons (ed_var (i := 3)) (ad_cons (ed_op od_add (ed_var (i := 12)) (ed_tup (ad_cons (ed_var (i := 6)) ad_nil))) ad_nil)))))))) (ssd_one (sd_expr (ed_meth PySem.F.slot_list_append PySem.F.type_list_append md_append (ed_var (i := 10)) (ad_cons (ed_tup (ad_cons (ed_var (i := 11)) (ad_cons (ed_op od_add (ed_var (i := 12)) (ed_tup (ad_cons (ed_var (i := 6)) ad_nil))) ad_nil))) ad_nil)))) ssd_nil)))))
    (ssd_one (sd_set (i := 9) nd (ed_var (i := 10))))))))
    (ssd_one (sd_ret (ed_tupleD m (ad_cons (ed_sortedD m (hu_room3 hr) (ad_cons (ed_lc (own := [("taken", 11), ("_", 4)]) rfl nd (id_seq (ed_var (i := 9))) (blkOk_by (own := [("taken", 11), ("_", 4)]) (N := N_trees_of) (sc := defScope s_trees_of) (by decide +kernel)) (tg_tupV (tgs_cons tg_name (tgs_cons tg_name tgs_nil))) (fun _ _ _ _ _ => (pg_tup rfl (pgs_cons (pg_name (i := 11) nd rfl (Or.inl rfl)) (pgs_cons (pg_name (i := 4) nd rfl (Or.inl rfl)) pgs_nil)))) (fun _ _ _ _ _ => tsd_nil) (fun _ _ _ _ _ => (ed_tupleD m (ad_cons (ed_sortedD m (hu_room3 hr) (ad_cons (ed_var (i := 11)) ad_nil)) ad_nil)))) ad_nil)) ad_nil)))))))))) (hs_trees_of)
theorem dd__law_ends {t : Addr} (KX : K.In h) (G : h.Ns mainGlobals mg) (m : NoG mg) (F : FnAt K "_law_ends" s__law_ends) (d__law_order : DefD P w K mg base J "_law_order" 2 ["tape", "many"] (sp__law_order t)) (d__law_draw : DefD P w K mg base J "_law_draw" 1 ["tape", "many"] (sp__law_draw t)) : DefD P w K mg base J "_law_ends" 3 ["tape", "many", "links"] (sp__law_ends t) :=
  defD KX G F sc__law_ends (fun _ _ _ _ _ _ us hl => match us, hl with | [_, _, _], _ => rfl) (fun ds s R h => sp3.len h) (fun f cdv A outer s H E hr => have nd := sc__law_ends.nd
    (ssd_cons (sd_set (i := 3) nd (ed_callD d__law_order (hr.mono (by decide)) (ad_cons (ed_var (i := 0)) (ad_cons (ed_var (i := 1)) ad_nil))))
    (ssd_cons (sd_set (i := 4) nd (ed_lst ad_nil))
    (ssd_cons (sd_for PassesOwn.never rfl (id_range2 m.range (ad_cons ed_int (ad_cons (ed_var (i := 1)) ad_nil))) (gyd_val (gd_name (i := 5) nd)) (ssd_one (sd_expr (ed_meth PySem.F.slot_list_append PySem.F.type_list_append md_append (ed_var (i := 4)) (ad_cons (ed_tup (ad_cons (ed_ix id_ix (ed_var (i := 3)) (ed_var (i := 5))) (ad_cons (ed_ix id_ix (ed_var (i := 3)) (ed_callD d__law_draw (hr.mono (by decide)) (ad_cons (ed_var (i := 0)) (ad_cons (ed_var (i := 5)) ad_nil)))) ad_nil))) ad_nil)))))
    (ssd_cons (sd_for PassesOwn.never rfl (id_range1 m.range (ad_cons (ed_op od_sub (ed_var (i := 2)) (ed_lenD m (ad_cons (ed_var (i := 4)) ad_nil))) ad_nil)) (gyd_val (gd_name (i := 6) nd)) (ssd_cons (sd_set (i := 7) nd (ed_callD d__law_draw (hr.mono (by decide)) (ad_cons (ed_var (i := 0)) (ad_cons (ed_var (i := 1)) ad_nil))))
    (ssd_one (sd_expr (ed_meth PySem.F.slot_list_append PySem.F.type_list_append md_append (ed_var (i := 4)) (ad_cons (ed_tup (ad_cons (ed_var (i := 7)) (ad_cons (ed_op od_mod (ed_intD m (ad_cons (ed_op od_add (ed_op od_add (ed_var (i := 7)) ed_int) (ed_callD d__law_draw (hr.mono (by decide)) (ad_cons (ed_var (i := 0)) (ad_cons (ed_op od_sub (ed_var (i := 1)) ed_int) ad_nil)))) ad_nil)) (ed_var (i := 1))) ad_nil))) ad_nil))))))
    (ssd_cons (sd_set (i := 8) nd (ed_lst ad_nil))
    (ssd_cons (sd_for PassesOwn.never rfl (id_seq (ed_callD d__law_order (hr.mono (by decide)) (ad_cons (ed_var (i := 0)) (ad_cons (ed_lenD m (ad_cons (ed_var (i := 4)) ad_nil)) ad_nil)))) (gyd_val (gd_name (i := 9) nd)) (ssd_cons (sd_set (i := 10) nd (ed_ix id_ix (ed_var (i := 4)) (ed_var (i := 9))))
    (ssd_cons (sd_if (td_cmp (od_eq (hu_room hr)) (ed_callD d__law_draw (hr.mono (by decide)) (ad_cons (ed_var (i := 0)) (ad_cons ed_int ad_nil))) ed_int (nomark _)) (ssd_one (sd_set (i := 10) nd (ed_tup (ad_cons (ed_ix id_ix (ed_var (i := 10)) ed_int) (ad_cons (ed_ix id_ix (ed_var (i := 10)) ed_int) ad_nil))))) ssd_nil)
    (ssd_one (sd_expr (ed_meth PySem.F.slot_list_append PySem.F.type_list_append md_append (ed_var (i := 8)) (ad_cons (ed_var (i := 10)) ad_nil)))))))
    (ssd_one (sd_ret (ed_var (i := 8))))))))))) (hs__law_ends t)
theorem dd__law_states {t : Addr} (KX : K.In h) (G : h.Ns mainGlobals mg) (m : NoG mg) (F : FnAt K "_law_states" s__law_states) (d__law_draw : DefD P w K mg base J "_law_draw" 1 ["tape", "many"] (sp__law_draw t)) (d__law_whole_out : DefD P w K mg base J "_law_whole_out" 2 ["many", "ends", "out"] sp__law_whole_out) : DefD P w K mg base J "_law_states" 3 ["tape", "many", "ends", "most"] (sp__law_states t) :=
  defD KX G F sc__law_states (fun _ _ _ _ _ _ us hl => match us, hl with | [_, _, _, _], _ => rfl) (fun ds s R h => sp4.len h) (fun f cdv A outer s H E hr => have nd := sc__law_states.nd
    (ssd_cons (sd_set (i := 4) nd (ed_lst (ad_cons (ed_tup ad_nil) ad_nil)))
    (ssd_cons (sd_for PassesOwn.never rfl (id_range1 m.range (ad_cons (ed_op od_mul ed_int (ed_var (i := 3))) ad_nil)) (gyd_val (gd_name (i := 5) nd)) (ssd_cons (sd_setLc (i := 6) (own := [("at", 7)]) rfl nd (id_range1 m.range (ad_cons (ed_lenD m (ad_cons (ed_var (i := 2)) ad_nil)) ad_nil)) (blkOk_by (own := [("at", 7)]) (N := N__law_states) (sc := defScope s__law_states) (by decide +kernel)) tg_name (fun _ _ _ _ _ => (pg_name (i := 7) nd rfl (Or.inl rfl))) (fun _ _ _ _ _ => (tsd_one (td_cmp (od_eq (hu_room hr)) (ed_callD d__law_draw (hr.mono (by decide)) (ad_cons (ed_var (i := 0)) (ad_cons (ed_op od_add ed_int (ed_op od_mod (ed_var (i := 5)) ed_int)) ad_nil))) ed_int (nomark _)))) (fun _ _ _ _ _ => (ed_var (i := 7))) (sw_true rfl rfl rfl (by decide +kernel)))
    (ssd_one (sd_if (td_w (wd_and (td_cmp od_le (ed_lenD m (ad_cons (ed_var (i := 4)) ad_nil)) (ed_var (i := 3)) (nomark _)) (wd_and (td_cmp (od_notIn (hu_room hr)) (ed_tupleD m (ad_cons (ed_var (i := 6)) ad_nil)) (ed_var (i := 4)) (by with_unfolding_all rfl)) (wd_and1 (td_tru (ed_callD d__law_whole_out (hr.mono (by decide)) (ad_cons (ed_var (i := 1)) (ad_cons (ed_var (i := 2)) (ad_cons (ed_var (i := 6)) ad_nil))))))))) (ssd_one (sd_expr (ed_meth PySem.F.slot_list_append PySem.F.type_list_append md_append (ed_var (i := 4)) (ad_cons (ed_tupleD m (ad_cons (ed_var (i := 6)) ad_nil)) ad_nil)))) ssd_nil))))
    (ssd_one (sd_ret (ed_var (i := 4))))))) (hs__law_states t)
theorem dd__law_wiring {t : Addr} (KX : K.In h) (G : h.Ns mainGlobals mg) (m : NoG mg) (F : FnAt K "_law_wiring" s__law_wiring) (d__law_read : DefD P w K mg base J "_law_read" 1 ["grid"] sp__law_read) (d__law_draw : DefD P w K mg base J "_law_draw" 1 ["tape", "many"] (sp__law_draw t)) (d__law_apart : DefD P w K mg base J "_law_apart" 1 ["many", "ends", "out"] sp__law_apart) (d__law_whole_out : DefD P w K mg base J "_law_whole_out" 2 ["many", "ends", "out"] sp__law_whole_out) (d__law_worth : DefD P w K mg base J "_law_worth" 2 ["tape"] (sp__law_worth t)) : DefD P w K mg base J "_law_wiring" 3 ["tape", "grid"] (sp__law_wiring t) :=
  defD KX G F sc__law_wiring (fun _ _ _ _ _ _ us hl => match us, hl with | [_, _], _ => rfl) (fun ds s R h => sp2.len h) (fun f cdv A outer s H E hr => have nd := sc__law_wiring.nd
    (ssd_cons (sd_set (i := 2) nd (ed_lenD m (ad_cons (ed_ix id_ix (ed_var (i := 1)) ed_int) ad_nil)))
    (ssd_cons (sd_set (i := 3) nd (ed_callD d__law_read (hr.mono (by decide)) (ad_cons (ed_var (i := 1)) ad_nil)))
    (ssd_cons (sd_set (i := 4) nd (ed_lst ad_nil))
    (ssd_cons (sd_set (i := 5) nd (ed_lst ad_nil))
    (ssd_cons (sd_set (i := 6) nd (ed_lst ad_nil))
    (ssd_cons (sd_for PassesOwn.never rfl (id_range1 m.range (ad_cons (ed_lenD m (ad_cons (ed_var (i := 3)) ad_nil)) ad_nil)) (gyd_val (gd_name (i := 7) nd)) (ssd_cons (sd_set (i := 8) nd (ed_callD d__law_draw (hr.mono (by decide)) (ad_cons (ed_var (i := 0)) (ad_cons ed_int ad_nil))))
    (ssd_cons (sd_setLc (i := 9) (own := [("k", 10)]) rfl nd (id_range1 m.range (ad_cons (ed_lenD m (ad_cons (ed_var (i := 3)) ad_nil)) ad_nil)) (blkOk_by (own := [("k", 10)]) (N := N__law_wiring) (sc := defScope s__law_wiring) (by decide +kernel)) tg_name (fun _ _ _ _ _ => (pg_name (i := 10) nd rfl (Or.inl rfl))) (fun _ _ _ _ _ => (tsd_one (td_cmp (od_notIn (hu_room hr)) (ed_var (i := 10)) (ed_var (i := 5)) (by with_unfolding_all rfl)))) (fun _ _ _ _ _ => (ed_var (i := 10))) (sw_true rfl rfl rfl (by decide +kernel)))
    (ssd_cons (sd_set (i := 11) nd (ed_callD d__law_apart (hr.mono (by decide)) (ad_cons (ed_var (i := 2)) (ad_cons (ed_var (i := 3)) (ad_cons (ed_var (i := 9)) ad_nil)))))
    (ssd_one (sd_if (td_w (wd_and (td_cmp (od_eq (hu_room hr)) (ed_var (i := 8)) ed_int (nomark _)) (wd_and1 (td_tru (ed_callD d__law_whole_out (hr.mono (by decide)) (ad_cons (ed_var (i := 2)) (ad_cons (ed_var (i := 3)) (ad_cons (ed_op od_add (ed_var (i := 4)) (ed_lst (ad_cons (ed_var (i := 7)) ad_nil))) ad_nil)))))))) (ssd_cons (sd_expr (ed_meth PySem.F.slot_list_append PySem.F.type_list_append md_append (ed_var (i := 4)) (ad_cons (ed_var (i := 7)) ad_nil)))
    (ssd_one (sd_expr (ed_meth PySem.F.slot_list_append PySem.F.type_list_append md_append (ed_var (i := 6)) (ad_cons ed_int ad_nil))))) (ssd_one (sd_if (td_w (wd_and (td_cmp (od_eq (hu_room hr)) (ed_var (i := 8)) ed_int (nomark _)) (wd_and1 (td_cmp (od_ne (hu_room hr)) (ed_ix id_ix (ed_var (i := 11)) (ed_ix id_ix (ed_ix id_ix (ed_var (i := 3)) (ed_var (i := 7))) ed_int)) (ed_ix id_ix (ed_var (i := 11)) (ed_ix id_ix (ed_ix id_ix (ed_var (i := 3)) (ed_var (i := 7))) ed_int)) (nomark _))))) (ssd_cons (sd_expr (ed_meth PySem.F.slot_list_append PySem.F.type_list_append md_append (ed_var (i := 5)) (ad_cons (ed_var (i := 7)) ad_nil)))
    (ssd_one (sd_expr (ed_meth PySem.F.slot_list_append PySem.F.type_list_append md_append (ed_var (i := 6)) (ad_cons (ed_un ud_neg ed_int) ad_nil))))) (ssd_one (sd_expr (ed_meth PySem.F.slot_list_append PySem.F.type_list_append md_append (ed_var (i := 6)) (ad_cons (ed_callD d__law_worth (hr.mono (by decide)) (ad_cons (ed_var (i := 0)) ad_nil)) ad_nil))))))))))))
    (ssd_one (sd_ret (ed_tupleD m (ad_cons (ed_var (i := 6)) ad_nil))))))))))) (hs__law_wiring t)
theorem dd__law_linked {t : Addr} (KX : K.In h) (G : h.Ns mainGlobals mg) (m : NoG mg) (F : FnAt K "_law_linked" s__law_linked) (d__law_draw : DefD P w K mg base J "_law_draw" 1 ["tape", "many"] (sp__law_draw t)) (d__law_room : DefD P w K mg base J "_law_room" 2 ["tape"] (sp__law_room t)) (d__law_admittance : DefD P w K mg base J "_law_admittance" 2 ["tape"] (sp__law_admittance t)) : DefD P w K mg base J "_law_linked" 3 ["tape", "names", "pairs"] (sp__law_linked t) :=
  defD KX G F sc__law_linked (fun _ _ _ _ _ _ us hl => match us, hl with | [_, _, _], _ => rfl) (fun ds s R h => sp3.len h) (fun f cdv A outer s H E hr => have nd := sc__law_linked.nd
    (ssd_cons (sd_set (i := 3) nd (ed_lst ad_nil))
    (ssd_cons (sd_for PassesOwn.never rfl (id_seq (ed_var (i := 2))) (gyd_val (gd_name (i := 4) nd)) (ssd_cons (sd_set (i := 5) nd (ed_var (i := 4)))
    (ssd_cons (sd_if (td_cmp (od_eq (hu_room hr)) (ed_callD d__law_draw (hr.mono (by decide)) (ad_cons (ed_var (i := 0)) (ad_cons ed_int ad_nil))) ed_int (nomark _)) (ssd_one (sd_set (i := 5) nd (ed_tup (ad_cons (ed_ix id_ix (ed_var (i := 4)) ed_int) (ad_cons (ed_ix id_ix (ed_var (i := 4)) ed_int) ad_nil))))) ssd_nil)
    (ssd_one (sd_expr (ed_meth PySem.F.slot_list_append PySem.F.type_list_append md_append (ed_var (i := 3)) (ad_cons (ed_tup (ad_cons (ed_ix id_ix (ed_var (i := 1)) (ed_ix id_ix (ed_var (i := 5)) ed_int)) (ad_cons (ed_ix id_ix (ed_var (i := 1)) (ed_ix id_ix (ed_var (i := 5)) ed_int)) (ad_cons (ed_callD d__law_admittance (hr.mono (by decide)) (ad_cons (ed_var (i := 0)) ad_nil)) (ad_cons (ed_callD d__law_room (hr.mono (by decide)) (ad_cons (ed_var (i := 0)) ad_nil)) (ad_cons (ed_callD d__law_room (hr.mono (by decide)) (ad_cons (ed_var (i := 0)) ad_nil)) ad_nil)))))) ad_nil)))))))
    (ssd_one (sd_ret (ed_tup (ad_cons (ed_tupleD m (ad_cons (ed_var (i := 1)) ad_nil)) (ad_cons (ed_tupleD m (ad_cons (ed_var (i := 3)) ad_nil)) (ad_cons (ed_tup (ad_cons (ed_tup ad_nil) ad_nil)) ad_nil))))))))) (hs__law_linked t)
theorem dd__law_grid {t : Addr} (KX : K.In h) (G : h.Ns mainGlobals mg) (m : NoG mg) (F : FnAt K "_law_grid" s__law_grid) (d__law_names : DefD P w K mg base J "_law_names" 2 ["tape", "many"] (sp__law_names t)) (d__law_ends : DefD P w K mg base J "_law_ends" 3 ["tape", "many", "links"] (sp__law_ends t)) (d__law_room : DefD P w K mg base J "_law_room" 2 ["tape"] (sp__law_room t)) (d__law_admittance : DefD P w K mg base J "_law_admittance" 2 ["tape"] (sp__law_admittance t)) (d__law_states : DefD P w K mg base J "_law_states" 3 ["tape", "many", "ends", "most"] (sp__law_states t)) : DefD P w K mg base J "_law_grid" 4 ["tape", "many", "links", "most"] (sp__law_grid t) :=
  defD KX G F sc__law_grid (fun _ _ _ _ _ _ us hl => match us, hl with | [_, _, _, _], _ => rfl) (fun ds s R h => sp4.len h) (fun f cdv A outer s H E hr => have nd := sc__law_grid.nd
    (ssd_cons (sd_set (i := 4) nd (ed_sortedD m (hu_room3 hr) (ad_cons (ed_callD d__law_names (hr.mono (by decide)) (ad_cons (ed_var (i := 0)) (ad_cons (ed_var (i := 1)) ad_nil))) ad_nil)))
    (ssd_cons (sd_set (i := 5) nd (ed_lst ad_nil))
    (ssd_cons (sd_if (td_cmp od_gt (ed_var (i := 1)) ed_int (nomark _)) (ssd_one (sd_set (i := 5) nd (ed_callD d__law_ends (hr.mono (by decide)) (ad_cons (ed_var (i := 0)) (ad_cons (ed_var (i := 1)) (ad_cons (ed_var (i := 2)) ad_nil)))))) ssd_nil)
    (ssd_cons (sd_set (i := 6) nd (ed_lst ad_nil))
    (ssd_cons (sd_for PassesOwn.never rfl (id_seq (ed_var (i := 5))) (gyd_val (gd_name (i := 7) nd)) (ssd_one (sd_expr (ed_meth PySem.F.slot_list_append PySem.F.type_list_append md_append (ed_var (i := 6)) (ad_cons (ed_tup (ad_cons (ed_ix id_ix (ed_var (i := 4)) (ed_ix id_ix (ed_var (i := 7)) ed_int)) (ad_cons (ed_ix id_ix (ed_var (i := 4)) (ed_ix id_ix (ed_var (i := 7)) ed_int)) (ad_cons (ed_callD d__law_admittance (hr.mono (by decide)) (ad_cons (ed_var (i := 0)) ad_nil)) (ad_cons (ed_callD d__law_room (hr.mono (by decide)) (ad_cons (ed_var (i := 0)) ad_nil)) (ad_cons (ed_callD d__law_room (hr.mono (by decide)) (ad_cons (ed_var (i := 0)) ad_nil)) ad_nil)))))) ad_nil)))))
    (ssd_one (sd_ret (ed_tup (ad_cons (ed_tupleD m (ad_cons (ed_var (i := 4)) ad_nil)) (ad_cons (ed_tupleD m (ad_cons (ed_var (i := 6)) ad_nil)) (ad_cons (ed_tupleD m (ad_cons (ed_sortedD m (hu_room3 hr) (ad_cons (ed_callD d__law_states (hr.mono (by decide)) (ad_cons (ed_var (i := 0)) (ad_cons (ed_var (i := 1)) (ad_cons (ed_var (i := 5)) (ad_cons (ed_var (i := 3)) ad_nil))))) ad_nil)) ad_nil)) ad_nil)))))))))))) (hs__law_grid t)
theorem dd__law_web {t : Addr} (KX : K.In h) (G : h.Ns mainGlobals mg) (m : NoG mg) (F : FnAt K "_law_web" s__law_web) (d__law_order : DefD P w K mg base J "_law_order" 2 ["tape", "many"] (sp__law_order t)) (d__law_linked : DefD P w K mg base J "_law_linked" 3 ["tape", "names", "pairs"] (sp__law_linked t)) (d__law_names : DefD P w K mg base J "_law_names" 2 ["tape", "many"] (sp__law_names t)) : DefD P w K mg base J "_law_web" 4 ["tape", "many"] (sp__law_web t) :=
  defD KX G F sc__law_web (fun _ _ _ _ _ _ us hl => match us, hl with | [_, _], _ => rfl) (fun ds s R h => sp2.len h) (fun f cdv A outer s H E hr => have nd := sc__law_web.nd
    (ssd_cons (sd_set (i := 2) nd (ed_lst ad_nil))
    (ssd_cons (sd_for PassesOwn.never rfl (id_range1 m.range (ad_cons (ed_var (i := 1)) ad_nil)) (gyd_val (gd_name (i := 3) nd)) (ssd_one (sd_set (i := 2) nd (ed_op od_add (ed_var (i := 2)) (ed_lc (own := [("other", 4)]) rfl nd (id_range2 m.range (ad_cons (ed_op od_add (ed_var (i := 3)) ed_int) (ad_cons (ed_var (i := 1)) ad_nil))) (blkOk_by (own := [("other", 4)]) (N := N__law_web) (sc := defScope s__law_web) (by decide +kernel)) tg_name (fun _ _ _ _ _ => (pg_name (i := 4) nd rfl (Or.inl rfl))) (fun _ _ _ _ _ => tsd_nil) (fun _ _ _ _ _ => (ed_tup (ad_cons (ed_var (i := 3)) (ad_cons (ed_var (i := 4)) ad_nil)))))))))
    (ssd_cons (sd_set (i := 5) nd (ed_callD d__law_order (hr.mono (by decide)) (ad_cons (ed_var (i := 0)) (ad_cons (ed_lenD m (ad_cons (ed_var (i := 2)) ad_nil)) ad_nil))))
    (ssd_one (sd_ret (ed_callD d__law_linked (hr.mono (by decide)) (ad_cons (ed_var (i := 0)) (ad_cons (ed_sortedD m (hu_room3 hr) (ad_cons (ed_callD d__law_names (hr.mono (by decide)) (ad_cons (ed_var (i := 0)) (ad_cons (ed_var (i := 1)) ad_nil))) ad_nil)) (ad_cons (ed_lc (own := [("k", 6)]) rfl nd (id_seq (ed_var (i := 5))) (blkOk_by (own := [("k", 6)]) (N := N__law_web) (sc := defScope s__law_web) (by decide +kernel)) tg_name (fun _ _ _ _ _ => (pg_name (i := 6) nd rfl (Or.inl rfl))) (fun _ _ _ _ _ => tsd_nil) (fun _ _ _ _ _ => (ed_ix id_ix (ed_var (i := 2)) (ed_var (i := 6))))) ad_nil)))))))))) (hs__law_web t)
theorem dd__law_ring {t : Addr} (KX : K.In h) (G : h.Ns mainGlobals mg) (m : NoG mg) (F : FnAt K "_law_ring" s__law_ring) (d__law_order : DefD P w K mg base J "_law_order" 2 ["tape", "many"] (sp__law_order t)) (d__law_linked : DefD P w K mg base J "_law_linked" 3 ["tape", "names", "pairs"] (sp__law_linked t)) (d__law_names : DefD P w K mg base J "_law_names" 2 ["tape", "many"] (sp__law_names t)) : DefD P w K mg base J "_law_ring" 4 ["tape", "many"] (sp__law_ring t) :=
  defD KX G F sc__law_ring (fun _ _ _ _ _ _ us hl => match us, hl with | [_, _], _ => rfl) (fun ds s R h => sp2.len h) (fun f cdv A outer s H E hr => have nd := sc__law_ring.nd
    (ssd_cons (sd_set (i := 2) nd (ed_callD d__law_order (hr.mono (by decide)) (ad_cons (ed_var (i := 0)) (ad_cons (ed_var (i := 1)) ad_nil))))
    (ssd_cons (sd_set (i := 3) nd (ed_lc (own := [("k", 4)]) rfl nd (id_range1 m.range (ad_cons (ed_var (i := 1)) ad_nil)) (blkOk_by (own := [("k", 4)]) (N := N__law_ring) (sc := defScope s__law_ring) (by decide +kernel)) tg_name (fun _ _ _ _ _ => (pg_name (i := 4) nd rfl (Or.inl rfl))) (fun _ _ _ _ _ => tsd_nil) (fun _ _ _ _ _ => (ed_tup (ad_cons (ed_ix id_ix (ed_var (i := 2)) (ed_var (i := 4))) (ad_cons (ed_ix id_ix (ed_var (i := 2)) (ed_op od_mod (ed_intD m (ad_cons (ed_op od_add (ed_var (i := 4)) ed_int) ad_nil)) (ed_var (i := 1)))) ad_nil))))))
    (ssd_one (sd_ret (ed_callD d__law_linked (hr.mono (by decide)) (ad_cons (ed_var (i := 0)) (ad_cons (ed_sortedD m (hu_room3 hr) (ad_cons (ed_callD d__law_names (hr.mono (by decide)) (ad_cons (ed_var (i := 0)) (ad_cons (ed_var (i := 1)) ad_nil))) ad_nil)) (ad_cons (ed_lc (own := [("k", 4)]) rfl nd (id_seq (ed_callD d__law_order (hr.mono (by decide)) (ad_cons (ed_var (i := 0)) (ad_cons (ed_var (i := 1)) ad_nil)))) (blkOk_by (own := [("k", 4)]) (N := N__law_ring) (sc := defScope s__law_ring) (by decide +kernel)) tg_name (fun _ _ _ _ _ => (pg_name (i := 4) nd rfl (Or.inl rfl))) (fun _ _ _ _ _ => tsd_nil) (fun _ _ _ _ _ => (ed_ix id_ix (ed_var (i := 3)) (ed_var (i := 4))))) ad_nil))))))))) (hs__law_ring t)
theorem dd__law_bundles {t : Addr} (KX : K.In h) (G : h.Ns mainGlobals mg) (m : NoG mg) (F : FnAt K "_law_bundles" s__law_bundles) (d__law_order : DefD P w K mg base J "_law_order" 2 ["tape", "many"] (sp__law_order t)) (d__law_linked : DefD P w K mg base J "_law_linked" 3 ["tape", "names", "pairs"] (sp__law_linked t)) (d__law_names : DefD P w K mg base J "_law_names" 2 ["tape", "many"] (sp__law_names t)) (d__law_worth : DefD P w K mg base J "_law_worth" 2 ["tape"] (sp__law_worth t)) (d__law_draw : DefD P w K mg base J "_law_draw" 1 ["tape", "many"] (sp__law_draw t)) : DefD P w K mg base J "_law_bundles" 4 ["tape", "sizes", "rare"] (sp__law_bundles t) :=
  defD KX G F sc__law_bundles (fun _ _ _ _ _ _ us hl => match us, hl with | [_, _, _], _ => rfl) (fun ds s R h => sp3.len h) (fun f cdv A outer s H E hr => have nd := sc__law_bundles.nd
    (ssd_cons (sd_set (i := 3) nd (ed_op od_add (ed_lenD m (ad_cons (ed_var (i := 1)) ad_nil)) ed_int))
    (ssd_cons (sd_set (i := 4) nd (ed_callD d__law_order (hr.mono (by decide)) (ad_cons (ed_var (i := 0)) (ad_cons (ed_var (i := 3)) ad_nil))))
    (ssd_cons (sd_set (i := 5) nd (ed_lst ad_nil))
    (ssd_cons (sd_for PassesOwn.never rfl (id_range1 m.range (ad_cons (ed_lenD m (ad_cons (ed_var (i := 1)) ad_nil)) ad_nil)) (gyd_val (gd_name (i := 6) nd)) (ssd_one (sd_set (i := 5) nd (ed_op od_add (ed_var (i := 5)) (ed_op od_mul (ed_lst (ad_cons (ed_tup (ad_cons (ed_ix id_ix (ed_var (i := 4)) (ed_var (i := 6))) (ad_cons (ed_ix id_ix (ed_var (i := 4)) (ed_op od_add (ed_var (i := 6)) ed_int)) (ad_cons (ed_var (i := 6)) ad_nil)))) ad_nil)) (ed_ix id_ix (ed_var (i := 1)) (ed_var (i := 6))))))))
    (ssd_cons (sd_set (i := 7) nd (ed_lc (own := [("k", 6)]) rfl nd (id_seq (ed_callD d__law_order (hr.mono (by decide)) (ad_cons (ed_var (i := 0)) (ad_cons (ed_lenD m (ad_cons (ed_var (i := 5)) ad_nil)) ad_nil)))) (blkOk_by (own := [("k", 6)]) (N := N__law_bundles) (sc := defScope s__law_bundles) (by decide +kernel)) tg_name (fun _ _ _ _ _ => (pg_name (i := 6) nd rfl (Or.inl rfl))) (fun _ _ _ _ _ => tsd_nil) (fun _ _ _ _ _ => (ed_ix id_ix (ed_var (i := 5)) (ed_var (i := 6))))))
    (ssd_cons (sd_set (i := 8) nd (ed_callD d__law_linked (hr.mono (by decide)) (ad_cons (ed_var (i := 0)) (ad_cons (ed_sortedD m (hu_room3 hr) (ad_cons (ed_callD d__law_names (hr.mono (by decide)) (ad_cons (ed_var (i := 0)) (ad_cons (ed_var (i := 3)) ad_nil))) ad_nil)) (ad_cons (ed_var (i := 7)) ad_nil)))))
    (ssd_cons (sd_setLc (i := 9) (own := [("pair", 10)]) rfl nd (id_seq (ed_var (i := 7))) (blkOk_by (own := [("pair", 10)]) (N := N__law_bundles) (sc := defScope s__law_bundles) (by decide +kernel)) tg_name (fun _ _ _ _ _ => (pg_name (i := 10) nd rfl (Or.inl rfl))) (fun _ _ _ _ _ => tsd_nil) (fun _ _ _ _ _ => (ed_callD d__law_worth (hr.mono (by decide)) (ad_cons (ed_var (i := 0)) ad_nil))) (sw_true rfl rfl rfl (by decide +kernel)))
    (ssd_cons (sd_set (i := 11) nd (ed_lst (ad_cons (ed_tup ad_nil) ad_nil)))
    (ssd_cons (sd_for PassesOwn.never rfl (id_range1 m.range (ad_cons (ed_lenD m (ad_cons (ed_var (i := 1)) ad_nil)) ad_nil)) (gyd_val (gd_name (i := 6) nd)) (ssd_cons (sd_setLc (i := 12) (own := [("at", 13)]) rfl nd (id_range1 m.range (ad_cons (ed_lenD m (ad_cons (ed_var (i := 7)) ad_nil)) ad_nil)) (blkOk_by (own := [("at", 13)]) (N := N__law_bundles) (sc := defScope s__law_bundles) (by decide +kernel)) tg_name (fun _ _ _ _ _ => (pg_name (i := 13) nd rfl (Or.inl rfl))) (fun _ _ _ _ _ => (tsd_one (td_cmp (od_eq (hu_room hr)) (ed_ix id_ix (ed_ix id_ix (ed_var (i := 7)) (ed_var (i := 13))) ed_int) (ed_var (i := 6)) (nomark _)))) (fun _ _ _ _ _ => (ed_var (i := 13))) (sw_true rfl rfl rfl (by decide +kernel)))
    (ssd_cons (sd_set (i := 14) nd (ed_callD d__law_draw (hr.mono (by decide)) (ad_cons (ed_var (i := 0)) (ad_cons (ed_var (i := 2)) ad_nil))))
    (ssd_cons (sd_if (td_w (wd_and (td_cmp (od_eq (hu_room hr)) (ed_var (i := 14)) ed_int (nomark _)) (wd_and1 (td_cmp od_gt (ed_lenD m (ad_cons (ed_var (i := 12)) ad_nil)) ed_int (nomark _))))) (ssd_one (sd_asg ed_int (gd_sub (ed_var (i := 9)) (ed_meth PySem.F.slot_list_pop PySem.F.type_list_pop md_popAt (ed_var (i := 12)) (ad_cons (ed_callD d__law_draw (hr.mono (by decide)) (ad_cons (ed_var (i := 0)) (ad_cons (ed_lenD m (ad_cons (ed_var (i := 12)) ad_nil)) ad_nil))) ad_nil)) sd_list))) (ssd_one (sd_if (td_cmp (od_eq (hu_room hr)) (ed_var (i := 14)) ed_int (nomark _)) (ssd_cons (sd_set (i := 12) nd (ed_lst (ad_cons (ed_ix id_ix (ed_var (i := 12)) (ed_callD d__law_draw (hr.mono (by decide)) (ad_cons (ed_var (i := 0)) (ad_cons (ed_lenD m (ad_cons (ed_var (i := 12)) ad_nil)) ad_nil)))) ad_nil)))
    (ssd_one (sd_asg (ed_un ud_neg ed_int) (gd_sub (ed_var (i := 9)) (ed_ix id_ix (ed_var (i := 12)) ed_int) sd_list)))) ssd_nil)))
    (ssd_cons (sd_set (i := 15) nd (ed_lst ad_nil))
    (ssd_cons (sd_for PassesOwn.never rfl (id_seq (ed_var (i := 12))) (gyd_val (gd_name (i := 13) nd)) (ssd_one (sd_set (i := 15) nd (ed_op od_add (ed_var (i := 15)) (ed_lc (own := [("row", 16)]) rfl nd (id_seq (ed_var (i := 11))) (blkOk_by (own := [("row", 16)]) (N := N__law_bundles) (sc := defScope s__law_bundles) (by decide +kernel)) tg_name (fun _ _ _ _ _ => (pg_name (i := 16) nd rfl (Or.inl rfl))) (fun _ _ _ _ _ => tsd_nil) (fun _ _ _ _ _ => (ed_tupleD m (ad_cons (ed_sortedD m (hu_room3 hr) (ad_cons (ed_op od_add (ed_var (i := 16)) (ed_tup (ad_cons (ed_var (i := 13)) ad_nil))) ad_nil)) ad_nil))))))))
    (ssd_one (sd_set (i := 11) nd (ed_var (i := 15))))))))))
    (ssd_one (sd_ret (ed_tup (ad_cons (ed_var (i := 8)) (ad_cons (ed_tupleD m (ad_cons (ed_var (i := 9)) ad_nil)) (ad_cons (ed_tupleD m (ad_cons (ed_sortedD m (hu_room3 hr) (ad_cons (ed_var (i := 11)) ad_nil)) ad_nil)) ad_nil)))))))))))))))) (hs__law_bundles t)
theorem dd__law_asked {t : Addr} (KX : K.In h) (G : h.Ns mainGlobals mg) (m : NoG mg) (F : FnAt K "_law_asked" s__law_asked) (d_trees_of : DefD P w K mg base J "trees_of" 3 ["grid", "wiring"] sp_trees_of) (d__law_same : DefD P w K mg base J "_law_same" 1 ["due", "told"] sp__law_same) (d__law_draw : DefD P w K mg base J "_law_draw" 1 ["tape", "many"] (sp__law_draw t)) (d_tree_product : DefD P w K mg base J "tree_product" 1 ["wiring", "tree"] sp_tree_product) (d__law_product : DefD P w K mg base J "_law_product" 1 ["wiring", "tree"] sp__law_product) (d__law_flow : DefD P w K mg base J "_law_flow" 2 ["grid", "tree", "first", "second"] sp__law_flow) (d_tree_flow : DefD P w K mg base J "tree_flow" 2 ["grid", "tree", "place", "other"] sp_tree_flow) : DefD P w K mg base J "_law_asked" 4 ["tape", "scene"] (sp__law_asked t) :=
  defD KX G F sc__law_asked (fun _ _ _ _ _ _ us hl => match us, hl with | [_, _], _ => rfl) (fun ds s R h => sp2.len h) (fun f cdv A outer s H E hr => have nd := sc__law_asked.nd
    (ssd_cons (sd_set (i := 2) nd (ed_ix id_ix (ed_var (i := 1)) ed_int))
    (ssd_cons (sd_set (i := 3) nd (ed_callD d_trees_of (hr.mono (by decide)) (ad_cons (ed_var (i := 2)) (ad_cons (ed_ix id_ix (ed_var (i := 1)) ed_int) ad_nil))))
    (ssd_cons (sd_if (td_not (td_tru (ed_callD d__law_same (hr.mono (by decide)) (ad_cons (ed_ix id_ix (ed_var (i := 1)) ed_int) (ad_cons (ed_var (i := 3)) ad_nil))))) (ssd_one (sd_ret ed_bl)) ssd_nil)
    (ssd_cons (sd_for PassesOwn.never rfl (id_range1 m.range (ad_cons ed_int ad_nil)) (gyd_val (gd_name (i := 4) nd)) (ssd_cons (sd_set (i := 5) nd (ed_ix id_ix (ed_ix id_ix (ed_var (i := 1)) ed_int) (ed_callD d__law_draw (hr.mono (by decide)) (ad_cons (ed_var (i := 0)) (ad_cons (ed_lenD m (ad_cons (ed_ix id_ix (ed_var (i := 1)) ed_int) ad_nil)) ad_nil)))))
    (ssd_cons (sd_if (td_not (td_tru (ed_callD d__law_same (hr.mono (by decide)) (ad_cons (ed_callD d__law_product (hr.mono (by decide)) (ad_cons (ed_ix id_ix (ed_var (i := 1)) ed_int) (ad_cons (ed_var (i := 5)) ad_nil))) (ad_cons (ed_callD d_tree_product (hr.mono (by decide)) (ad_cons (ed_ix id_ix (ed_var (i := 1)) ed_int) (ad_cons (ed_var (i := 5)) ad_nil))) ad_nil))))) (ssd_one (sd_ret ed_bl)) ssd_nil)
    (ssd_cons (sd_set (i := 6) nd (ed_callD d__law_draw (hr.mono (by decide)) (ad_cons (ed_var (i := 0)) (ad_cons (ed_lenD m (ad_cons (ed_ix id_ix (ed_var (i := 2)) ed_int) ad_nil)) ad_nil))))
    (ssd_cons (sd_set (i := 7) nd (ed_callD d__law_draw (hr.mono (by decide)) (ad_cons (ed_var (i := 0)) (ad_cons (ed_lenD m (ad_cons (ed_ix id_ix (ed_var (i := 2)) ed_int) ad_nil)) ad_nil))))
    (ssd_one (sd_for PassesOwn.never rfl (id_seq (ed_tup (ad_cons (ed_tup (ad_cons (ed_var (i := 6)) (ad_cons (ed_var (i := 7)) ad_nil))) (ad_cons (ed_tup (ad_cons (ed_var (i := 7)) (ad_cons (ed_var (i := 6)) ad_nil))) (ad_cons (ed_tup (ad_cons (ed_var (i := 6)) (ad_cons (ed_var (i := 6)) ad_nil))) (ad_cons (ed_tup (ad_cons ed_int (ad_cons (ed_op od_sub (ed_lenD m (ad_cons (ed_ix id_ix (ed_var (i := 2)) ed_int) ad_nil)) ed_int) ad_nil))) ad_nil)))))) (gyd_val (gd_name (i := 8) nd)) (ssd_cons (sd_set (i := 9) nd (ed_callD d__law_flow (hr.mono (by decide)) (ad_cons (ed_var (i := 2)) (ad_cons (ed_var (i := 5)) (ad_cons (ed_ix id_ix (ed_var (i := 8)) ed_int) (ad_cons (ed_ix id_ix (ed_var (i := 8)) ed_int) ad_nil))))))
    (ssd_one (sd_if (td_not (td_tru (ed_callD d__law_same (hr.mono (by decide)) (ad_cons (ed_var (i := 9)) (ad_cons (ed_callD d_tree_flow (hr.mono (by decide)) (ad_cons (ed_var (i := 2)) (ad_cons (ed_var (i := 5)) (ad_cons (ed_ix id_ix (ed_ix id_ix (ed_var (i := 2)) ed_int) (ed_ix id_ix (ed_var (i := 8)) ed_int)) (ad_cons (ed_ix id_ix (ed_ix id_ix (ed_var (i := 2)) ed_int) (ed_ix id_ix (ed_var (i := 8)) ed_int)) ad_nil))))) ad_nil))))) (ssd_one (sd_ret ed_bl)) ssd_nil))))))))))
    (ssd_one (sd_ret ed_bl))))))) (hs__law_asked t)
theorem dd__law_ring_scene {t : Addr} (KX : K.In h) (G : h.Ns mainGlobals mg) (m : NoG mg) (F : FnAt K "_law_ring_scene" s__law_ring_scene) (d__law_ring : DefD P w K mg base J "_law_ring" 4 ["tape", "many"] (sp__law_ring t)) (d__law_worth : DefD P w K mg base J "_law_worth" 2 ["tape"] (sp__law_worth t)) (d__law_draw : DefD P w K mg base J "_law_draw" 1 ["tape", "many"] (sp__law_draw t)) : DefD P w K mg base J "_law_ring_scene" 5 ["tape", "many"] (sp__law_ring_scene t) :=
  defD KX G F sc__law_ring_scene (fun _ _ _ _ _ _ us hl => match us, hl with | [_, _], _ => rfl) (fun ds s R h => sp2.len h) (fun f cdv A outer s H E hr => have nd := sc__law_ring_scene.nd
    (ssd_cons (sd_set (i := 2) nd (ed_callD d__law_ring (hr.mono (by decide)) (ad_cons (ed_var (i := 0)) (ad_cons (ed_var (i := 1)) ad_nil))))
    (ssd_cons (sd_set (i := 3) nd (ed_lst ad_nil))
    (ssd_cons (sd_for PassesOwn.never rfl (id_range1 m.range (ad_cons (ed_var (i := 1)) ad_nil)) (gyd_val (gd_name (i := 4) nd)) (ssd_cons (sd_expr (ed_meth PySem.F.slot_list_append PySem.F.type_list_append md_append (ed_var (i := 3)) (ad_cons (ed_callD d__law_worth (hr.mono (by decide)) (ad_cons (ed_var (i := 0)) ad_nil)) ad_nil)))
    (ssd_one (sd_if (td_w (wd_and (td_cmp (od_eq (hu_room hr)) (ed_callD d__law_draw (hr.mono (by decide)) (ad_cons (ed_var (i := 0)) (ad_cons ed_int ad_nil))) ed_int (nomark _)) (wd_and1 (td_cmp od_lt (ed_meth PySem.F.slot_list_count PySem.F.type_list_count (md_count (hu_room hr)) (ed_var (i := 3)) (ad_cons (ed_un ud_neg ed_int) ad_nil)) (ed_op od_sub (ed_var (i := 1)) ed_int) (nomark _))))) (ssd_one (sd_asg (ed_un ud_neg ed_int) (gd_sub (ed_var (i := 3)) (ed_var (i := 4)) sd_list))) ssd_nil))))
    (ssd_cons (sd_set (i := 5) nd (ed_lst ad_nil))
    (ssd_cons (sd_for PassesOwn.never rfl (id_range1 m.range (ad_cons (ed_var (i := 1)) ad_nil)) (gyd_val (gd_name (i := 4) nd)) (ssd_one (sd_if (td_cmp od_gt (ed_ix id_ix (ed_var (i := 3)) (ed_var (i := 4))) ed_int (nomark _)) (ssd_one (sd_expr (ed_meth PySem.F.slot_list_append PySem.F.type_list_append md_append (ed_var (i := 5)) (ad_cons (ed_tupleD m (ad_cons (ed_lc (own := [("k", 6)]) rfl nd (id_range1 m.range (ad_cons (ed_var (i := 1)) ad_nil)) (blkOk_by (own := [("k", 6)]) (N := N__law_ring_scene) (sc := defScope s__law_ring_scene) (by decide +kernel)) tg_name (fun _ _ _ _ _ => (pg_name (i := 6) nd rfl (Or.inl rfl))) (fun _ _ _ _ _ => (tsd_one (td_cmp (od_ne (hu_room hr)) (ed_var (i := 6)) (ed_var (i := 4)) (nomark _)))) (fun _ _ _ _ _ => (ed_var (i := 6)))) ad_nil)) ad_nil)))) ssd_nil)))
    (ssd_one (sd_ret (ed_tup (ad_cons (ed_var (i := 2)) (ad_cons (ed_tupleD m (ad_cons (ed_var (i := 3)) ad_nil)) (ad_cons (ed_tupleD m (ad_cons (ed_sortedD m (hu_room3 hr) (ad_cons (ed_var (i := 5)) ad_nil)) ad_nil)) ad_nil)))))))))))) (hs__law_ring_scene t)
theorem dd_law {fa : Addr} (hfa : mg "law" = some (.ref fa)) (m : NoG mg) (F : FnAt K "law" s_law) (KX : K.In h) (G : h.Ns mainGlobals mg)
    (ds : ∀ base : Heap, K.In base → base.Ns mainGlobals mg → (DefD P w K mg base Hid.none "_law_tape" 1 ["script"] sp__law_tape) ∧ (∀ i : tAIdx, DefD P w K mg base (hidJ K (tAAs i) (tAOk i)) "_law_grid" 4 ["tape", "many", "links", "most"] (sp__law_grid i.1)) ∧ (∀ i : tAIdx, DefD P w K mg base (hidJ K (tAAs i) (tAOk i)) "_law_draw" 1 ["tape", "many"] (sp__law_draw i.1)) ∧ (∀ i : tAIdx, DefD P w K mg base (hidJ K (tAAs i) (tAOk i)) "_law_wiring" 3 ["tape", "grid"] (sp__law_wiring i.1)) ∧ (∀ i : tAIdx, DefD P w K mg base (hidJ K (tAAs i) (tAOk i)) "_law_trees" 2 ["grid", "wiring"] sp__law_trees) ∧ (∀ i : tAIdx, DefD P w K mg base (hidJ K (tAAs i) (tAOk i)) "_law_ring_scene" 5 ["tape", "many"] (sp__law_ring_scene i.1)) ∧ (∀ i : tAIdx, DefD P w K mg base (hidJ K (tAAs i) (tAOk i)) "_law_web" 4 ["tape", "many"] (sp__law_web i.1)) ∧ (∀ i : tAIdx, DefD P w K mg base (hidJ K (tAAs i) (tAOk i)) "_law_worth" 2 ["tape"] (sp__law_worth i.1)) ∧ (∀ i : tAIdx, DefD P w K mg base (hidJ K (tAAs i) (tAOk i)) "_law_bundles" 4 ["tape", "sizes", "rare"] (sp__law_bundles i.1)) ∧ (∀ i : tAIdx, DefD P w K mg base (hidJ K (tAAs i) (tAOk i)) "_law_names" 2 ["tape", "many"] (sp__law_names i.1)) ∧ (∀ i : tAIdx, DefD P w K mg base (hidJ K (tAAs i) (tAOk i)) "_law_asked" 4 ["tape", "scene"] (sp__law_asked i.1))) :
    ∃ fd : FuncData, (∀ (s : Shared) (v : Value), BindsTo s fd ⟨[v], []⟩ [("script", v)]) ∧ ∀ base : Heap, K.In base → base.Ns mainGlobals mg → FnOk P w K mg base CX0 6 fa fd ["script"] (spUp K Hid.none sp_law) := by
  obtain ⟨f, oc, od, kV, doc, pm, an, cdv, ct, osl, a, l, c, kp⟩ := F.ex
  have e := hfa.symm.trans (PySem.W.mg_of KX G a)
  cases e
  have F1 := fun_mk (st := s_law) l c kp
  refine ⟨PySem.W.fnOf "law" "law" (defArgs s_law) (defBody s_law) (defScope s_law) .none kV doc pm an cdv ct, fun s v => .of_eq rfl, fun base Kb Gb => ?_⟩
  obtain ⟨d__law_tape, e__law_grid, e__law_draw, e__law_wiring, e__law_trees, e__law_ring_scene, e__law_web, e__law_worth, e__law_bundles, e__law_names, e__law_asked⟩ := ds base Kb Gb
  refine fn_okD F1 sc_law (fun ds s R h => sp1.len h) (fun cdv A outer s H E hr => ?_) hs_law
  have nd := sc_law.nd
  refine ssd_hide (sd_set (i := 1) nd (ed_callD d__law_tape (hr.mono (by decide)) (ad_cons (ed_var (i := 0)) ad_nil))) fun i => ?_
  have d__law_grid := e__law_grid i
  have d__law_draw := e__law_draw i
  have d__law_wiring := e__law_wiring i
  have d__law_trees := e__law_trees i
  have d__law_ring_scene := e__law_ring_scene i
  have d__law_web := e__law_web i
  have d__law_worth := e__law_worth i
  have d__law_bundles := e__law_bundles i
  have d__law_names := e__law_names i
  have d__law_asked := e__law_asked i
  exact (ssd_cons (sd_set (i := 2) nd (ed_callD d__law_grid (hr.mono (by decide)) (ad_cons (ed_var (i := 1)) (ad_cons (ed_op od_add ed_int (ed_callD d__law_draw (hr.mono (by decide)) (ad_cons (ed_var (i := 1)) (ad_cons ed_int ad_nil)))) (ad_cons (ed_op od_add ed_int (ed_callD d__law_draw (hr.mono (by decide)) (ad_cons (ed_var (i := 1)) (ad_cons ed_int ad_nil)))) (ad_cons ed_int ad_nil))))))
    (ssd_cons (sd_set (i := 3) nd (ed_lst ad_nil))
    (ssd_cons (sd_for PassesOwn.never rfl (id_range1 m.range (ad_cons ed_int ad_nil)) (gyd_val (gd_name (i := 4) nd)) (ssd_cons (sd_set (i := 5) nd (ed_callD d__law_wiring (hr.mono (by decide)) (ad_cons (ed_var (i := 1)) (ad_cons (ed_var (i := 2)) ad_nil))))
    (ssd_one (sd_expr (ed_meth PySem.F.slot_list_append PySem.F.type_list_append md_append (ed_var (i := 3)) (ad_cons (ed_tup (ad_cons (ed_var (i := 2)) (ad_cons (ed_var (i := 5)) (ad_cons (ed_callD d__law_trees (hr.mono (by decide)) (ad_cons (ed_var (i := 2)) (ad_cons (ed_var (i := 5)) ad_nil))) ad_nil)))) ad_nil))))))
    (ssd_cons (sd_expr (ed_meth PySem.F.slot_list_append PySem.F.type_list_append md_append (ed_var (i := 3)) (ad_cons (ed_callD d__law_ring_scene (hr.mono (by decide)) (ad_cons (ed_var (i := 1)) (ad_cons (ed_op od_add ed_int (ed_callD d__law_draw (hr.mono (by decide)) (ad_cons (ed_var (i := 1)) (ad_cons ed_int ad_nil)))) ad_nil))) ad_nil)))
    (ssd_cons (sd_set (i := 6) nd (ed_op od_add ed_int (ed_callD d__law_draw (hr.mono (by decide)) (ad_cons (ed_var (i := 1)) (ad_cons ed_int ad_nil)))))
    (ssd_cons (sd_if (td_cmp (od_eq (hu_room hr)) (ed_callD d__law_draw (hr.mono (by decide)) (ad_cons (ed_var (i := 1)) (ad_cons ed_int ad_nil))) ed_int (nomark _)) (ssd_one (sd_set (i := 6) nd ed_int)) ssd_nil)
    (ssd_cons (sd_set (i := 7) nd (ed_callD d__law_web (hr.mono (by decide)) (ad_cons (ed_var (i := 1)) (ad_cons (ed_var (i := 6)) ad_nil))))
    (ssd_cons (sd_set (i := 8) nd (ed_tupleD m (ad_cons (ed_lc (own := [("link", 9)]) rfl nd (id_seq (ed_ix id_ix (ed_var (i := 7)) ed_int)) (blkOk_by (own := [("link", 9)]) (N := N_law) (sc := defScope s_law) (by decide +kernel)) tg_name (fun _ _ _ _ _ => (pg_name (i := 9) nd rfl (Or.inl rfl))) (fun _ _ _ _ _ => tsd_nil) (fun _ _ _ _ _ => (ed_callD d__law_worth (hr.mono (by decide)) (ad_cons (ed_var (i := 1)) ad_nil)))) ad_nil)))
    (ssd_cons (sd_expr (ed_meth PySem.F.slot_list_append PySem.F.type_list_append md_append (ed_var (i := 3)) (ad_cons (ed_tup (ad_cons (ed_var (i := 7)) (ad_cons (ed_var (i := 8)) (ad_cons (ed_callD d__law_trees (hr.mono (by decide)) (ad_cons (ed_var (i := 7)) (ad_cons (ed_var (i := 8)) ad_nil))) ad_nil)))) ad_nil)))
    (ssd_cons (sd_if (td_cmp (od_ne (hu_room hr)) (ed_lenD m (ad_cons (ed_ix id_ix (ed_ix id_ix (ed_var (i := 3)) ed_int) ed_int) ad_nil)) (ed_ix id_ix (ed_lst (ad_cons ed_int (ad_cons ed_int (ad_cons ed_int (ad_cons ed_int (ad_cons ed_int (ad_cons ed_int ad_nil))))))) (ed_var (i := 6))) (nomark _)) (ssd_one (sd_ret ed_bl)) ssd_nil)
    (ssd_cons (sd_set (i := 10) nd (ed_callD d__law_draw (hr.mono (by decide)) (ad_cons (ed_var (i := 1)) (ad_cons ed_int ad_nil))))
    (ssd_cons (sd_if (td_cmp (od_eq (hu_room hr)) (ed_var (i := 10)) ed_int (nomark _)) (ssd_cons (sd_set (i := 11) nd (ed_ix id_ix (ed_lst (ad_cons (ed_lst (ad_cons ed_int (ad_cons ed_int (ad_cons ed_int (ad_cons ed_int (ad_cons ed_int ad_nil)))))) (ad_cons (ed_lst (ad_cons ed_int (ad_cons ed_int (ad_cons ed_int (ad_cons ed_int ad_nil))))) (ad_cons (ed_lst (ad_cons ed_int (ad_cons ed_int (ad_cons ed_int (ad_cons ed_int ad_nil))))) (ad_cons (ed_op od_mul (ed_lst (ad_cons ed_int ad_nil)) ed_int) ad_nil))))) (ed_callD d__law_draw (hr.mono (by decide)) (ad_cons (ed_var (i := 1)) (ad_cons ed_int ad_nil)))))
    (ssd_one (sd_expr (ed_meth PySem.F.slot_list_append PySem.F.type_list_append md_append (ed_var (i := 3)) (ad_cons (ed_callD d__law_bundles (hr.mono (by decide)) (ad_cons (ed_var (i := 1)) (ad_cons (ed_var (i := 11)) (ad_cons ed_int ad_nil)))) ad_nil))))) (ssd_one (sd_if (td_cmp (od_eq (hu_room hr)) (ed_var (i := 10)) ed_int (nomark _)) (ssd_one (sd_expr (ed_meth PySem.F.slot_list_append PySem.F.type_list_append md_append (ed_var (i := 3)) (ad_cons (ed_callD d__law_bundles (hr.mono (by decide)) (ad_cons (ed_var (i := 1)) (ad_cons (ed_ix id_ix (ed_lst (ad_cons (ed_lst (ad_cons ed_int ad_nil)) (ad_cons (ed_lst (ad_cons ed_int (ad_cons ed_int (ad_cons ed_int (ad_cons ed_int (ad_cons ed_int ad_nil)))))) (ad_cons (ed_lst (ad_cons ed_int (ad_cons ed_int (ad_cons ed_int (ad_cons ed_int (ad_cons ed_int (ad_cons ed_int ad_nil))))))) ad_nil)))) (ed_callD d__law_draw (hr.mono (by decide)) (ad_cons (ed_var (i := 1)) (ad_cons ed_int ad_nil)))) (ad_cons ed_int ad_nil)))) ad_nil)))) (ssd_one (sd_expr (ed_meth PySem.F.slot_list_append PySem.F.type_list_append md_append (ed_var (i := 3)) (ad_cons (ed_callD d__law_bundles (hr.mono (by decide)) (ad_cons (ed_var (i := 1)) (ad_cons (ed_lst (ad_cons (ed_op od_add ed_int (ed_callD d__law_draw (hr.mono (by decide)) (ad_cons (ed_var (i := 1)) (ad_cons ed_int ad_nil)))) (ad_cons (ed_op od_add ed_int (ed_callD d__law_draw (hr.mono (by decide)) (ad_cons (ed_var (i := 1)) (ad_cons ed_int ad_nil)))) ad_nil))) (ad_cons ed_int ad_nil)))) ad_nil)))))))
    (ssd_cons (sd_set (i := 12) nd (ed_sortedD m (hu_room3 hr) (ad_cons (ed_callD d__law_names (hr.mono (by decide)) (ad_cons (ed_var (i := 1)) (ad_cons ed_int ad_nil))) ad_nil)))
    (ssd_cons (sd_expr (ed_meth PySem.F.slot_list_append PySem.F.type_list_append md_append (ed_var (i := 3)) (ad_cons (ed_tup (ad_cons (ed_tup (ad_cons (ed_tupleD m (ad_cons (ed_var (i := 12)) ad_nil)) (ad_cons (ed_tup ad_nil) (ad_cons (ed_tup (ad_cons (ed_tup ad_nil) ad_nil)) ad_nil)))) (ad_cons (ed_tup ad_nil) (ad_cons (ed_tup (ad_cons (ed_tup ad_nil) ad_nil)) ad_nil)))) ad_nil)))
    (ssd_cons (sd_for PassesOwn.never rfl (id_seq (ed_op od_add (ed_var (i := 3)) (ed_slice sld_seq (ed_var (i := 3)) xd_none (xd_some ed_int)))) (gyd_val (gd_name (i := 13) nd)) (ssd_one (sd_if (td_not (td_tru (ed_callD d__law_asked (hr.mono (by decide)) (ad_cons (ed_var (i := 1)) (ad_cons (ed_var (i := 13)) ad_nil))))) (ssd_one (sd_ret ed_bl)) ssd_nil)))
    (ssd_one (sd_ret ed_bl)))))))))))))))))
end
theorem all {P : Program} {w : World} {K : PySem.W.Frag} {mg : Str → Option Value} {h : Heap} {fa : Addr} (KX : K.In h) (G : h.Ns mainGlobals mg) (hfa : mg "law" = some (.ref fa)) (m : NoG mg)
    (F_heads_by : FnAt K "heads_by" s_heads_by)
    (F_hangs_by : FnAt K "hangs_by" s_hangs_by)
    (F_closes_ring : FnAt K "closes_ring" s_closes_ring)
    (F_trees_of : FnAt K "trees_of" s_trees_of)
    (F_tree_product : FnAt K "tree_product" s_tree_product)
    (F_tree_flow : FnAt K "tree_flow" s_tree_flow)
    (F__law_tape : FnAt K "_law_tape" s__law_tape)
    (F__law_draw : FnAt K "_law_draw" s__law_draw)
    (F__law_same : FnAt K "_law_same" s__law_same)
    (F__law_names : FnAt K "_law_names" s__law_names)
    (F__law_apart : FnAt K "_law_apart" s__law_apart)
    (F__law_whole_out : FnAt K "_law_whole_out" s__law_whole_out)
    (F__law_admittance : FnAt K "_law_admittance" s__law_admittance)
    (F__law_room : FnAt K "_law_room" s__law_room)
    (F__law_ends : FnAt K "_law_ends" s__law_ends)
    (F__law_order : FnAt K "_law_order" s__law_order)
    (F__law_states : FnAt K "_law_states" s__law_states)
    (F__law_grid : FnAt K "_law_grid" s__law_grid)
    (F__law_read : FnAt K "_law_read" s__law_read)
    (F__law_trees : FnAt K "_law_trees" s__law_trees)
    (F__law_product : FnAt K "_law_product" s__law_product)
    (F__law_flow : FnAt K "_law_flow" s__law_flow)
    (F__law_worth : FnAt K "_law_worth" s__law_worth)
    (F__law_wiring : FnAt K "_law_wiring" s__law_wiring)
    (F__law_linked : FnAt K "_law_linked" s__law_linked)
    (F__law_web : FnAt K "_law_web" s__law_web)
    (F__law_ring : FnAt K "_law_ring" s__law_ring)
    (F__law_ring_scene : FnAt K "_law_ring_scene" s__law_ring_scene)
    (F__law_bundles : FnAt K "_law_bundles" s__law_bundles)
    (F__law_asked : FnAt K "_law_asked" s__law_asked)
    (F_law : FnAt K "law" s_law)
    : ∃ fd : FuncData, (∀ (s : Shared) (v : Value), BindsTo s fd ⟨[v], []⟩ [("script", v)]) ∧ ∀ base : Heap, K.In base → base.Ns mainGlobals mg → FnOk P w K mg base CX0 6 fa fd ["script"] (spUp K Hid.none sp_law) := by
  refine dd_law hfa m F_law KX G fun base Kb Gb => ?_
  have d__law_tape := dd__law_tape (P := P) (w := w) (base := base) (J := Hid.none) KX G m F__law_tape
  have all2 : ∀ i : tAIdx, (DefD P w K mg base (hidJ K (tAAs i) (tAOk i)) "_law_grid" 4 ["tape", "many", "links", "most"] (sp__law_grid i.1)) ∧ (DefD P w K mg base (hidJ K (tAAs i) (tAOk i)) "_law_draw" 1 ["tape", "many"] (sp__law_draw i.1)) ∧ (DefD P w K mg base (hidJ K (tAAs i) (tAOk i)) "_law_wiring" 3 ["tape", "grid"] (sp__law_wiring i.1)) ∧ (DefD P w K mg base (hidJ K (tAAs i) (tAOk i)) "_law_trees" 2 ["grid", "wiring"] sp__law_trees) ∧ (DefD P w K mg base (hidJ K (tAAs i) (tAOk i)) "_law_ring_scene" 5 ["tape", "many"] (sp__law_ring_scene i.1)) ∧ (DefD P w K mg base (hidJ K (tAAs i) (tAOk i)) "_law_web" 4 ["tape", "many"] (sp__law_web i.1)) ∧ (DefD P w K mg base (hidJ K (tAAs i) (tAOk i)) "_law_worth" 2 ["tape"] (sp__law_worth i.1)) ∧ (DefD P w K mg base (hidJ K (tAAs i) (tAOk i)) "_law_bundles" 4 ["tape", "sizes", "rare"] (sp__law_bundles i.1)) ∧ (DefD P w K mg base (hidJ K (tAAs i) (tAOk i)) "_law_names" 2 ["tape", "many"] (sp__law_names i.1)) ∧ (DefD P w K mg base (hidJ K (tAAs i) (tAOk i)) "_law_asked" 4 ["tape", "scene"] (sp__law_asked i.1)) := fun i => by
    have d_heads_by := dd_heads_by (P := P) (w := w) (base := base) (J := hidJ K (tAAs i) (tAOk i)) KX G m F_heads_by
    have d_tree_product := dd_tree_product (P := P) (w := w) (base := base) (J := hidJ K (tAAs i) (tAOk i)) KX G m F_tree_product
    have d__law_draw := tA_hide i (dd__law_draw (P := P) (w := w) (base := base) (J := Hid.none) (i := i) KX G m F__law_draw)
    have d__law_same := dd__law_same (P := P) (w := w) (base := base) (J := hidJ K (tAAs i) (tAOk i)) KX G m F__law_same
    have d__law_apart := dd__law_apart (P := P) (w := w) (base := base) (J := hidJ K (tAAs i) (tAOk i)) KX G m F__law_apart
    have d__law_read := dd__law_read (P := P) (w := w) (base := base) (J := hidJ K (tAAs i) (tAOk i)) KX G m F__law_read
    have d__law_product := dd__law_product (P := P) (w := w) (base := base) (J := hidJ K (tAAs i) (tAOk i)) KX G m F__law_product
    have d_hangs_by := dd_hangs_by (P := P) (w := w) (base := base) (J := hidJ K (tAAs i) (tAOk i)) KX G m F_hangs_by d_heads_by
    have d_closes_ring := dd_closes_ring (P := P) (w := w) (base := base) (J := hidJ K (tAAs i) (tAOk i)) KX G m F_closes_ring d_heads_by
    have d_tree_flow := dd_tree_flow (P := P) (w := w) (base := base) (J := hidJ K (tAAs i) (tAOk i)) KX G m F_tree_flow d_heads_by
    have d__law_names := dd__law_names (P := P) (w := w) (base := base) (J := hidJ K (tAAs i) (tAOk i)) (t := i.1) KX G m F__law_names d__law_draw
    have d__law_whole_out := dd__law_whole_out (P := P) (w := w) (base := base) (J := hidJ K (tAAs i) (tAOk i)) KX G m F__law_whole_out d__law_apart
    have d__law_admittance := dd__law_admittance (P := P) (w := w) (base := base) (J := hidJ K (tAAs i) (tAOk i)) (t := i.1) KX G m F__law_admittance d__law_draw
    have d__law_room := dd__law_room (P := P) (w := w) (base := base) (J := hidJ K (tAAs i) (tAOk i)) (t := i.1) KX G m F__law_room d__law_draw
    have d__law_order := dd__law_order (P := P) (w := w) (base := base) (J := hidJ K (tAAs i) (tAOk i)) (t := i.1) KX G m F__law_order d__law_draw
    have d__law_trees := dd__law_trees (P := P) (w := w) (base := base) (J := hidJ K (tAAs i) (tAOk i)) KX G m F__law_trees d__law_read
    have d__law_flow := dd__law_flow (P := P) (w := w) (base := base) (J := hidJ K (tAAs i) (tAOk i)) KX G m F__law_flow d__law_read d__law_apart
    have d__law_worth := dd__law_worth (P := P) (w := w) (base := base) (J := hidJ K (tAAs i) (tAOk i)) (t := i.1) KX G m F__law_worth d__law_draw
    have d_trees_of := dd_trees_of (P := P) (w := w) (base := base) (J := hidJ K (tAAs i) (tAOk i)) KX G m F_trees_of d_closes_ring d_hangs_by
    have d__law_ends := dd__law_ends (P := P) (w := w) (base := base) (J := hidJ K (tAAs i) (tAOk i)) (t := i.1) KX G m F__law_ends d__law_order d__law_draw
    have d__law_states := dd__law_states (P := P) (w := w) (base := base) (J := hidJ K (tAAs i) (tAOk i)) (t := i.1) KX G m F__law_states d__law_draw d__law_whole_out
    have d__law_wiring := dd__law_wiring (P := P) (w := w) (base := base) (J := hidJ K (tAAs i) (tAOk i)) (t := i.1) KX G m F__law_wiring d__law_read d__law_draw d__law_apart d__law_whole_out d__law_worth
    have d__law_linked := dd__law_linked (P := P) (w := w) (base := base) (J := hidJ K (tAAs i) (tAOk i)) (t := i.1) KX G m F__law_linked d__law_draw d__law_room d__law_admittance
    have d__law_grid := dd__law_grid (P := P) (w := w) (base := base) (J := hidJ K (tAAs i) (tAOk i)) (t := i.1) KX G m F__law_grid d__law_names d__law_ends d__law_room d__law_admittance d__law_states
    have d__law_web := dd__law_web (P := P) (w := w) (base := base) (J := hidJ K (tAAs i) (tAOk i)) (t := i.1) KX G m F__law_web d__law_order d__law_linked d__law_names
    have d__law_ring := dd__law_ring (P := P) (w := w) (base := base) (J := hidJ K (tAAs i) (tAOk i)) (t := i.1) KX G m F__law_ring d__law_order d__law_linked d__law_names
    have d__law_bundles := dd__law_bundles (P := P) (w := w) (base := base) (J := hidJ K (tAAs i) (tAOk i)) (t := i.1) KX G m F__law_bundles d__law_order d__law_linked d__law_names d__law_worth d__law_draw
    have d__law_asked := dd__law_asked (P := P) (w := w) (base := base) (J := hidJ K (tAAs i) (tAOk i)) (t := i.1) KX G m F__law_asked d_trees_of d__law_same d__law_draw d_tree_product d__law_product d__law_flow d_tree_flow
    have d__law_ring_scene := dd__law_ring_scene (P := P) (w := w) (base := base) (J := hidJ K (tAAs i) (tAOk i)) (t := i.1) KX G m F__law_ring_scene d__law_ring d__law_worth d__law_draw
    exact ⟨d__law_grid, d__law_draw, d__law_wiring, d__law_trees, d__law_ring_scene, d__law_web, d__law_worth, d__law_bundles, d__law_names, d__law_asked⟩
  exact ⟨d__law_tape, fun i => (all2 i).1, fun i => (all2 i).2.1, fun i => (all2 i).2.2.1, fun i => (all2 i).2.2.2.1, fun i => (all2 i).2.2.2.2.1, fun i => (all2 i).2.2.2.2.2.1, fun i => (all2 i).2.2.2.2.2.2.1, fun i => (all2 i).2.2.2.2.2.2.2.1, fun i => (all2 i).2.2.2.2.2.2.2.2.1, fun i => (all2 i).2.2.2.2.2.2.2.2.2⟩
end K11
open PySem PySem.W PyProof.Rows
set_option maxHeartbeats 0 in
theorem PySem.Challenge.cw_paidwhatever_k11_trees_of_wirings_holds : PySem.Challenge.rw_paidwhatever_k11_trees_of_wirings.Holds := by
  w_on; o_law; k_head; (case hw => w_witness2)
  k_fill
  refine L2.walk_ofB (l := PySem.Challenge.rw_paidwhatever_k11_trees_of_wirings) (n := 63) (k := 6) (x := "script") (CX := fun _ => L2.CX0) (sp := fun w => DL.spUp _ DL.Hid.none K11.sp_law) rfl (by decide) rfl ⟨rfl, by decide, by decide⟩ (fun w h Y => PySem.W.kIn_of Y) ?F (fun w H a ns hl hb hO hS => K11.start hl hb hO hS) (fun _ _ _ _ _ h => h)
  case F =>
    intro w mg fa h KX G hmg
    refine' K11.all KX G hmg ⟨PySem.W.mg_none_of KX G ?z_len, PySem.W.mg_none_of KX G ?z_range, PySem.W.mg_none_of KX G ?z_tuple, PySem.W.mg_none_of KX G ?z_list, PySem.W.mg_none_of KX G ?z_int, PySem.W.mg_none_of KX G ?z_str, PySem.W.mg_none_of KX G ?z_bool, PySem.W.mg_none_of KX G ?z_dict, PySem.W.mg_none_of KX G ?z_isinstance, PySem.W.mg_none_of KX G ?z_enumerate, PySem.W.mg_none_of KX G ?z_zip, PySem.W.mg_none_of KX G ?z_sorted, PySem.W.mg_none_of KX G ?z_abs, PySem.W.mg_none_of KX G ?z_max, PySem.W.mg_none_of KX G ?z_min, PySem.W.mg_none_of KX G ?z_sum, PySem.W.mg_none_of KX G ?z_set, PySem.W.mg_none_of KX G ?z_any, PySem.W.mg_none_of KX G ?z_all⟩  (DL.fnAt ?a_heads_by ?l_heads_by ?c_heads_by ?k_heads_by) (DL.fnAt ?a_hangs_by ?l_hangs_by ?c_hangs_by ?k_hangs_by) (DL.fnAt ?a_closes_ring ?l_closes_ring ?c_closes_ring ?k_closes_ring) (DL.fnAt ?a_trees_of ?l_trees_of ?c_trees_of ?k_trees_of) (DL.fnAt ?a_tree_product ?l_tree_product ?c_tree_product ?k_tree_product) (DL.fnAt ?a_tree_flow ?l_tree_flow ?c_tree_flow ?k_tree_flow) (DL.fnAt ?a__law_tape ?l__law_tape ?c__law_tape ?k__law_tape) (DL.fnAt ?a__law_draw ?l__law_draw ?c__law_draw ?k__law_draw) (DL.fnAt ?a__law_same ?l__law_same ?c__law_same ?k__law_same) (DL.fnAt ?a__law_names ?l__law_names ?c__law_names ?k__law_names) (DL.fnAt ?a__law_apart ?l__law_apart ?c__law_apart ?k__law_apart) (DL.fnAt ?a__law_whole_out ?l__law_whole_out ?c__law_whole_out ?k__law_whole_out) (DL.fnAt ?a__law_admittance ?l__law_admittance ?c__law_admittance ?k__law_admittance) (DL.fnAt ?a__law_room ?l__law_room ?c__law_room ?k__law_room) (DL.fnAt ?a__law_ends ?l__law_ends ?c__law_ends ?k__law_ends) (DL.fnAt ?a__law_order ?l__law_order ?c__law_order ?k__law_order) (DL.fnAt ?a__law_states ?l__law_states ?c__law_states ?k__law_states) (DL.fnAt ?a__law_grid ?l__law_grid ?c__law_grid ?k__law_grid) (DL.fnAt ?a__law_read ?l__law_read ?c__law_read ?k__law_read) (DL.fnAt ?a__law_trees ?l__law_trees ?c__law_trees ?k__law_trees) (DL.fnAt ?a__law_product ?l__law_product ?c__law_product ?k__law_product) (DL.fnAt ?a__law_flow ?l__law_flow ?c__law_flow ?k__law_flow) (DL.fnAt ?a__law_worth ?l__law_worth ?c__law_worth ?k__law_worth) (DL.fnAt ?a__law_wiring ?l__law_wiring ?c__law_wiring ?k__law_wiring) (DL.fnAt ?a__law_linked ?l__law_linked ?c__law_linked ?k__law_linked) (DL.fnAt ?a__law_web ?l__law_web ?c__law_web ?k__law_web) (DL.fnAt ?a__law_ring ?l__law_ring ?c__law_ring ?k__law_ring) (DL.fnAt ?a__law_ring_scene ?l__law_ring_scene ?c__law_ring_scene ?k__law_ring_scene) (DL.fnAt ?a__law_bundles ?l__law_bundles ?c__law_bundles ?k__law_bundles) (DL.fnAt ?a__law_asked ?l__law_asked ?c__law_asked ?k__law_asked) (DL.fnAt ?a_law ?l_law ?c_law ?k_law)
    (case z_len => k_is)
    (case z_range => k_is)
    (case z_tuple => k_is)
    (case z_list => k_is)
    (case z_int => k_is)
    (case z_str => k_is)
    (case z_bool => k_is)
    (case z_dict => k_is)
    (case z_isinstance => k_is)
    (case z_enumerate => k_is)
    (case z_zip => k_is)
    (case z_sorted => k_is)
    (case z_abs => k_is)
    (case z_max => k_is)
    (case z_min => k_is)
    (case z_sum => k_is)
    (case z_set => k_is)
    (case z_any => k_is)
    (case z_all => k_is)
    (case a_heads_by => k_is)
    (case l_heads_by => k_is)
    (case c_heads_by => k_is)
    (case k_heads_by => k_is)
    (case a_hangs_by => k_is)
    (case l_hangs_by => k_is)
    (case c_hangs_by => k_is)
    (case k_hangs_by => k_is)
    (case a_closes_ring => k_is)
    (case l_closes_ring => k_is)
    (case c_closes_ring => k_is)
    (case k_closes_ring => k_is)
    (case a_trees_of => k_is)
    (case l_trees_of => k_is)
    (case c_trees_of => k_is)
    (case k_trees_of => k_is)
    (case a_tree_product => k_is)
    (case l_tree_product => k_is)
    (case c_tree_product => k_is)
    (case k_tree_product => k_is)
    (case a_tree_flow => k_is)
    (case l_tree_flow => k_is)
    (case c_tree_flow => k_is)
    (case k_tree_flow => k_is)
    (case a__law_tape => k_is)
    (case l__law_tape => k_is)
    (case c__law_tape => k_is)
    (case k__law_tape => k_is)
    (case a__law_draw => k_is)
    (case l__law_draw => k_is)
    (case c__law_draw => k_is)
    (case k__law_draw => k_is)
    (case a__law_same => k_is)
    (case l__law_same => k_is)
    (case c__law_same => k_is)
    (case k__law_same => k_is)
    (case a__law_names => k_is)
    (case l__law_names => k_is)
    (case c__law_names => k_is)
    (case k__law_names => k_is)
    (case a__law_apart => k_is)
    (case l__law_apart => k_is)
    (case c__law_apart => k_is)
    (case k__law_apart => k_is)
    (case a__law_whole_out => k_is)
    (case l__law_whole_out => k_is)
    (case c__law_whole_out => k_is)
    (case k__law_whole_out => k_is)
    (case a__law_admittance => k_is)
    (case l__law_admittance => k_is)
    (case c__law_admittance => k_is)
    (case k__law_admittance => k_is)
    (case a__law_room => k_is)
    (case l__law_room => k_is)
    (case c__law_room => k_is)
    (case k__law_room => k_is)
    (case a__law_ends => k_is)
    (case l__law_ends => k_is)
    (case c__law_ends => k_is)
    (case k__law_ends => k_is)
    (case a__law_order => k_is)
    (case l__law_order => k_is)
    (case c__law_order => k_is)
    (case k__law_order => k_is)
    (case a__law_states => k_is)
    (case l__law_states => k_is)
    (case c__law_states => k_is)
    (case k__law_states => k_is)
    (case a__law_grid => k_is)
    (case l__law_grid => k_is)
    (case c__law_grid => k_is)
    (case k__law_grid => k_is)
    (case a__law_read => k_is)
    (case l__law_read => k_is)
    (case c__law_read => k_is)
    (case k__law_read => k_is)
    (case a__law_trees => k_is)
    (case l__law_trees => k_is)
    (case c__law_trees => k_is)
    (case k__law_trees => k_is)
    (case a__law_product => k_is)
    (case l__law_product => k_is)
    (case c__law_product => k_is)
    (case k__law_product => k_is)
    (case a__law_flow => k_is)
    (case l__law_flow => k_is)
    (case c__law_flow => k_is)
    (case k__law_flow => k_is)
    (case a__law_worth => k_is)
    (case l__law_worth => k_is)
    (case c__law_worth => k_is)
    (case k__law_worth => k_is)
    (case a__law_wiring => k_is)
    (case l__law_wiring => k_is)
    (case c__law_wiring => k_is)
    (case k__law_wiring => k_is)
    (case a__law_linked => k_is)
    (case l__law_linked => k_is)
    (case c__law_linked => k_is)
    (case k__law_linked => k_is)
    (case a__law_web => k_is)
    (case l__law_web => k_is)
    (case c__law_web => k_is)
    (case k__law_web => k_is)
    (case a__law_ring => k_is)
    (case l__law_ring => k_is)
    (case c__law_ring => k_is)
    (case k__law_ring => k_is)
    (case a__law_ring_scene => k_is)
    (case l__law_ring_scene => k_is)
    (case c__law_ring_scene => k_is)
    (case k__law_ring_scene => k_is)
    (case a__law_bundles => k_is)
    (case l__law_bundles => k_is)
    (case c__law_bundles => k_is)
    (case k__law_bundles => k_is)
    (case a__law_asked => k_is)
    (case l__law_asked => k_is)
    (case c__law_asked => k_is)
    (case k__law_asked => k_is)
    (case a_law => k_is)
    (case l_law => k_is)
    (case c_law => k_is)
    (case k_law => k_is)
