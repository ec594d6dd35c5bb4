import PyProof.Rows.All
import HandS.ForMost
import HandS.AnyAll
import HandS.ForExc
import HandS.CallSlots
import HandS.ExcCtx
import HandS.HotCalls
import HandS.ExcIs
import KE.DataEq
import KE.LtData
import KE.DataCmp
import KE.DataMinMax
import KE.SortData
import KE.DataFind
import KE.DataAny
import HandS.Wide
import HandS.TupMul
import HandS.TupAny
import HandS.Style
import KE.DataIsa
import HandS.Walk
import HandS.Zip
import HandS.Rev
import HandS.TupLen
import HandS.WordsDict
import KE.KTupSum
import HandS.Comp
import HandS.GenList
import HandS.SetBool
import HandS.Strs
import HandS.Dict
import HandS.Iter
import HandS.NoneIn
import HandS.ExcOwn
import HandS.Conv
import HandS.Gcd
import HandS.WideMore
import HandS.Star
import KE.GoesMore
import HandS.Small
import HandS.EndOwn
import PySem.Challenge.RW_sawheld_k87_whole_heaps_of_logs
set_option Elab.async false
set_option linter.all false
set_option autoImplicit false
set_option maxRecDepth 100000
set_option maxHeartbeats 4000000
namespace DL
open PySem PySem.Spec PyProof.Rows L2

abbrev D := PyData
def KT (K : PySem.W.Frag) (a : Addr) (xs : List V) : Prop :=
  ∃ (o : Obj) (its : Array Value) (n : Nat), K.lookup a = some o ∧ o.cls = .type "tuple" ∧ o.data = .seq its n ∧ its.size ≤ sizeLine ∧ Vals xs its.toList

def KL (K : PySem.W.Frag) (a : Addr) (xs : List V) : Prop :=
  ∃ (o : Obj) (its : Array Value) (n : Nat), K.lookup a = some o ∧ o.cls = .type "list" ∧ o.dict = none ∧ o.data = .seq its n ∧ its.size ≤ sizeLine ∧ Vals xs its.toList
/-- a key as data -/
def keyD : Key → D
  | .inl i => .int i
  | .inr x => .str x

mutual
/-- v stands for d in H, and nothing of it lies in B -/
inductive Has (K : PySem.W.Frag) (B : Addr → Prop) (H : Hp) : V → D → Prop
  | non : Has K B H .non .none
  | bl (b : Bool) : Has K B H (.bl b) (.bool b)
  | int (i : Int) : Has K B H (.int i) (.int i)
  | str (x : Str) : Has K B H (.str x) (.str x)
  | lst {a : Addr} {xs : List V} {ds : List D} : ((¬ B a ∧ Rd H a (.lst xs)) ∨ KL K a xs) → HasL K B H xs ds → Has K B H (.ref a) (.list ds)
  | tup {a : Addr} {xs : List V} {ds : List D} : ((¬ B a ∧ Rd H a (.tup xs)) ∨ KT K a xs) → HasL K B H xs ds → Has K B H (.ref a) (.tuple ds)
  | dK {a : Addr} {kvs : List (Key × V)} {ks ds : List D} {kds : List (D × D)} : ¬ B a → H a = some (.dK kvs) → ks = kvs.map (fun p => keyD p.1) → HasL K B H (kvs.map (·.2)) ds → kds = ks.zip ds → Has K B H (.ref a) (.dict kds)
  | dT {a : Addr} {kvs : List (List Key × V)} {ks ds : List D} {kds : List (D × D)} : ¬ B a → H a = some (.dT kvs) → ks = kvs.map (fun p => PyData.tuple (p.1.map keyD)) → HasL K B H (kvs.map (·.2)) ds → kds = ks.zip ds → Has K B H (.ref a) (.dict kds)
inductive HasL (K : PySem.W.Frag) (B : Addr → Prop) (H : Hp) : List V → List D → Prop
  | nil : HasL K B H [] []
  | cons {v : V} {vs : List V} {d : D} {ds : List D} : Has K B H v d → HasL K B H vs ds → HasL K B H (v :: vs) (d :: ds)
end

/-- what stands out of B in H stands, out of B', in H' -/
def Ext (B : Addr → Prop) (H : Hp) (B' : Addr → Prop) (H' : Hp) : Prop := ∀ a o, ¬ B a → H a = some o → ¬ B' a ∧ H' a = some o
theorem Ext.refl (B : Addr → Prop) (H : Hp) : Ext B H B H := fun _ _ h e => ⟨h, e⟩
theorem Ext.trans {B B' B'' : Addr → Prop} {H H' H'' : Hp} (x : Ext B H B' H') (y : Ext B' H' B'' H'') : Ext B H B'' H'' :=
  fun a o h e => let ⟨h1, e1⟩ := x a o h e; y a o h1 e1
theorem Ext.same {B : Addr → Prop} {H H' : Hp} (s : Same H H') : Ext B H B H' := fun a o h e => ⟨h, s a o e⟩
theorem Ext.fresh {B : Addr → Prop} {H H' : Hp} {p : Addr} (h0 : H p = none) (s : Same H H') : Ext B H (fun a => B a ∨ a = p) H' := fun a o hb e => ⟨fun z => z.elim hb (ne_of_none e h0), s _ _ e⟩
theorem Ext.rd {B B' : Addr → Prop} {H H' : Hp} (x : Ext B H B' H') {a : Addr} {u : HO} (h : ¬ B a) (r : Rd H a u) : ¬ B' a ∧ Rd H' a u := by
  rcases r with r | ⟨o, r⟩
  · exact ⟨(x a _ h r).1, .inl (x a _ h r).2⟩
  · exact ⟨(x a _ h r).1, .inr ⟨o, (x a _ h r).2⟩⟩

section
variable {K : PySem.W.Frag} {B B' : Addr → Prop} {H H' : Hp}
mutual
theorem Has.ext (x : Ext B H B' H') : ∀ {v : V} {d : D}, Has K B H v d → Has K B' H' v d
  | _, _, .non => .non
  | _, _, .bl b => .bl b
  | _, _, .int i => .int i
  | _, _, .str s => .str s
  | _, _, .lst h r => .lst (h.elim (fun h => .inl (x.rd h.1 h.2)) .inr) (HasL.ext x r)
  | _, _, .tup h r => .tup (h.elim (fun h => .inl (x.rd h.1 h.2)) .inr) (HasL.ext x r)
  | _, _, .dK h e k r z => .dK (x _ _ h e).1 (x _ _ h e).2 k (HasL.ext x r) z
  | _, _, .dT h e k r z => .dT (x _ _ h e).1 (x _ _ h e).2 k (HasL.ext x r) z
theorem HasL.ext (x : Ext B H B' H') : ∀ {vs : List V} {ds : List D}, HasL K B H vs ds → HasL K B' H' vs ds
  | _, _, .nil => .nil
  | _, _, .cons h r => .cons (Has.ext x h) (HasL.ext x r)
end
theorem HasL.length : ∀ {vs : List V} {ds : List D}, HasL K B H vs ds → vs.length = ds.length
  | _, _, .nil => rfl
  | _, _, .cons _ r => congrArg (· + 1) (HasL.length r)
theorem HasL.append : ∀ {vs ws : List V} {ds es : List D}, HasL K B H vs ds → HasL K B H ws es → HasL K B H (vs ++ ws) (ds ++ es)
  | _, _, _, _, .nil, s => s
  | _, _, _, _, .cons h r, s => .cons h (HasL.append r s)
theorem HasL.get : ∀ {vs : List V} {ds : List D}, HasL K B H vs ds → ∀ {i : Nat} {d : D}, ds[i]? = some d → ∃ v, vs[i]? = some v ∧ Has K B H v d
  | _, _, .nil, i, d, e => by simp at e
  | _, _, .cons h r, 0, d, e => by
    simp at e
    subst e
    exact ⟨_, rfl, h⟩
  | _, _, .cons h r, i + 1, d, e => by
    simp at e
    obtain ⟨v, e1, h1⟩ := HasL.get r e
    exact ⟨v, by simpa using e1, h1⟩
theorem HasL.get' : ∀ {vs : List V} {ds : List D}, HasL K B H vs ds → ∀ {i : Nat} {v : V}, vs[i]? = some v → ∃ d, ds[i]? = some d ∧ Has K B H v d
  | _, _, .nil, i, d, e => by simp at e
  | _, _, .cons h r, 0, d, e => by
    simp at e
    subst e
    exact ⟨_, rfl, h⟩
  | _, _, .cons h r, i + 1, d, e => by
    simp at e
    obtain ⟨v, e1, h1⟩ := HasL.get' r e
    exact ⟨v, by simpa using e1, h1⟩
theorem HasL.take : ∀ {vs : List V} {ds : List D} (n : Nat), HasL K B H vs ds → HasL K B H (vs.take n) (ds.take n)
  | _, _, 0, _ => by simp; exact .nil
  | _, _, n + 1, .nil => by simp; exact .nil
  | _, _, n + 1, .cons h r => by simp; exact .cons h (HasL.take n r)
theorem HasL.drop : ∀ {vs : List V} {ds : List D} (n : Nat), HasL K B H vs ds → HasL K B H (vs.drop n) (ds.drop n)
  | _, _, 0, h => by simpa using h
  | _, _, n + 1, .nil => by simp; exact .nil
  | _, _, n + 1, .cons h r => by simp; exact HasL.drop n r
theorem HasL.reverse : ∀ {vs : List V} {ds : List D}, HasL K B H vs ds → HasL K B H vs.reverse ds.reverse
  | _, _, .nil => .nil
  | _, _, .cons h r => by
    rw [List.reverse_cons, List.reverse_cons]
    exact (HasL.reverse r).append (.cons h .nil)
theorem HasL.set : ∀ {vs : List V} {ds : List D} {v : V} {d : D} (i : Nat), HasL K B H vs ds → Has K B H v d → HasL K B H (vs.set i v) (ds.set i d)
  | _, _, _, _, _, .nil, _ => .nil
  | _, _, _, _, 0, .cons h r, q => .cons q r
  | _, _, _, _, i + 1, .cons h r, q => .cons h (HasL.set i r q)
theorem HasL.ints : ∀ (ns : List Int), HasL K B H (ns.map V.int) (ns.map PyData.int)
  | [] => .nil
  | n :: r => .cons (.int n) (HasL.ints r)

theorem Has.non_inv {v : V} (h : Has K B H v .none) : v = .non := by cases h; rfl
theorem Has.bl_inv {v : V} {b : Bool} (h : Has K B H v (.bool b)) : v = .bl b := by cases h; rfl
theorem Has.int_inv {v : V} {i : Int} (h : Has K B H v (.int i)) : v = .int i := by cases h; rfl
theorem Has.str_inv {v : V} {x : Str} (h : Has K B H v (.str x)) : v = .str x := by cases h; rfl
theorem Has.lst_inv {v : V} {ds : List D} (h : Has K B H v (.list ds)) : ∃ a xs, v = .ref a ∧ ((¬ B a ∧ Rd H a (.lst xs)) ∨ KL K a xs) ∧ SqL K H a xs ∧ HasL K B H xs ds := by
  cases h with
  | lst h r => exact ⟨_, _, rfl, h, h.elim (fun h => .inl h.2) .inr, r⟩
theorem Has.tup_inv {v : V} {ds : List D} (h : Has K B H v (.tuple ds)) : ∃ a xs, v = .ref a ∧ ((¬ B a ∧ Rd H a (.tup xs)) ∨ KT K a xs) ∧ SqT K H a xs ∧ HasL K B H xs ds := by
  cases h with
  | tup h r => exact ⟨_, _, rfl, h, h.elim (fun h => .inl h.2) .inr, r⟩

/-- no dict within, depth at most n -/
def okD : Nat → D → Bool
  | _, .none => true
  | _, .bool _ => true
  | _, .int _ => true
  | _, .str _ => true
  | n + 1, .list xs => xs.all (okD n)
  | n + 1, .tuple xs => xs.all (okD n)
  | 0, .list _ => false
  | 0, .tuple _ => false
  | _, .dict _ => false
theorem plainAll_of : ∀ {xs : List D}, (∀ d ∈ xs, d.plain = true) → PyData.plainAll xs = true
  | [], _ => rfl
  | x :: xs, h => by
    rw [PyData.plainAll, h x (by simp), plainAll_of fun d hd => h d (by simp [hd])]
    rfl
theorem depthAll_of {n : Nat} : ∀ {xs : List D}, (∀ d ∈ xs, d.depth ≤ n) → PyData.depthAll xs ≤ n
  | [], _ => Nat.zero_le _
  | x :: xs, h => by
    rw [PyData.depthAll]
    exact Nat.max_le.mpr ⟨h x (by simp), depthAll_of fun d hd => h d (by simp [hd])⟩
theorem okD_spec : ∀ {n : Nat} {d : D}, okD n d = true → d.plain = true ∧ d.depth ≤ n
  | n, .none, _ => ⟨rfl, Nat.zero_le _⟩
  | n, .bool _, _ => ⟨rfl, Nat.zero_le _⟩
  | n, .int _, _ => ⟨rfl, Nat.zero_le _⟩
  | n, .str _, _ => ⟨rfl, Nat.zero_le _⟩
  | n + 1, .list xs, h => by
    simp only [okD, List.all_eq_true] at h
    refine ⟨?_, ?_⟩
    · rw [PyData.plain]; exact plainAll_of fun d hd => (okD_spec (h d hd)).1
    · rw [PyData.depth]; exact Nat.succ_le_succ (depthAll_of fun d hd => (okD_spec (h d hd)).2)
  | n + 1, .tuple xs, h => by
    simp only [okD, List.all_eq_true] at h
    refine ⟨?_, ?_⟩
    · rw [PyData.plain]; exact plainAll_of fun d hd => (okD_spec (h d hd)).1
    · rw [PyData.depth]; exact Nat.succ_le_succ (depthAll_of fun d hd => (okD_spec (h d hd)).2)
  | 0, .list _, h => by simp [okD] at h
  | 0, .tuple _, h => by simp [okD] at h
  | n, .dict _, h => by cases n <;> simp [okD] at h

mutual
theorem Has.dp : ∀ {v : V} {d : D}, Has K B H v d → d.plain = true → Dp K H v d
  | _, _, .non, _ => .non
  | _, _, .bl b, _ => .bl b
  | _, _, .int i, _ => .int i
  | _, _, .str s, _ => .str s
  | _, _, .lst h r, e => .lst (h.elim (fun h => .inl h.2) .inr) (HasL.dp r (by rw [PyData.plain] at e; exact e))
  | _, _, .tup h r, e => .tup (h.elim (fun h => .inl h.2) .inr) (HasL.dp r (by rw [PyData.plain] at e; exact e))
  | _, _, .dK h _ _ r _, e => by simp [PyData.plain] at e
  | _, _, .dT h _ _ r _, e => by simp [PyData.plain] at e
theorem HasL.dp : ∀ {vs : List V} {ds : List D}, HasL K B H vs ds → PyData.plainAll ds = true → DpAll K H vs ds
  | _, _, .nil, _ => .nil
  | _, _, .cons h r, e => by
    rw [PyData.plainAll, Bool.and_eq_true] at e
    exact .cons (Has.dp h e.1) (HasL.dp r e.2)
end
end

/-! ### the state -/
/-- what an object that is changed holds -/
inductive Cell where
  | lst (ds : List D)
  | dK (kvs : List (Key × D))
  | dT (kvs : List (List Key × D))
/-- a name's value: data; an object that is changed (loc: of this frame; else handed in); an exception of class c -/
inductive Sl where
  | dat (d : D)
  | mut (loc : Bool) (c : Cell)
  | exc (c : Str)
abbrev Rho := List (Option Sl)

def CellOk (K : PySem.W.Frag) (B : Addr → Prop) (H : Hp) (p : Addr) : Cell → Prop
  | .lst ds => ∃ vs, H p = some (.lst vs) ∧ HasL K B H vs ds
  | .dK kvs => ∃ kv', H p = some (.dK kv') ∧ kv'.map (·.1) = kvs.map (·.1) ∧ HasL K B H (kv'.map (·.2)) (kvs.map (·.2))
  | .dT kvs => ∃ kv', H p = some (.dT kv') ∧ kv'.map (·.1) = kvs.map (·.1) ∧ HasL K B H (kv'.map (·.2)) (kvs.map (·.2))
def keyT (k : List Key) : D := .tuple (k.map keyD)
/-- the cell as data -/
def cellD : Cell → D
  | .lst ds => .list ds
  | .dK kvs => .dict (kvs.map fun p => (keyD p.1, p.2))
  | .dT kvs => .dict (kvs.map fun p => (keyT p.1, p.2))

/-- an object that may itself be one that is changed; what it holds is data -/
def HasK (K : PySem.W.Frag) (B : Addr → Prop) (H : Hp) (v : V) (d : D) : Prop := Has K B H v d ∨ ∃ p c, v = .ref p ∧ CellOk K B H p c ∧ d = cellD c

/-- a table of code objects stands there -/
def TabAt (H : Hp) (P : Addr) : Prop := ∃ ps : Array Value, H P = some (.tbl ps) ∧ TriplesOk ps.toList
structure Gc where
  K : PySem.W.Frag
  mg : Str → Option Value
  A : Addr → Prop
  H0 : Hp
  inns : List (Nat × Addr)
  exq : Addr → Str → Prop
  T : Addr → Prop

def Bad (G : Gc) (ρ : Rho) (f : Nat → Addr) : Addr → Prop := fun a => G.A a ∨ ∃ i c, ρ[i]? = some (some (.mut true c)) ∧ a = f i
def SlOk (G : Gc) (B : Addr → Prop) (H : Hp) (p : Addr) (v : V) : Sl → Prop
  | .dat d => Has G.K B H v d
  | .mut _ c => v = .ref p ∧ CellOk G.K B H p c
  | .exc c => ∃ a, v = .ref a ∧ G.exq a c
structure Rel (G : Gc) (σ : L2.St) (H : Hp) (ρ : Rho) (f : Nat → Addr) : Prop where
  len : σ.length = ρ.length
  keep : ∀ a o, G.H0 a = some o → (∀ p ∈ G.inns, p.2 ≠ a) → ¬ G.T a → H a = some o
  dom : (∀ a, G.A a → ∃ o, H a = some o) ∧ ∀ a, G.T a → G.A a ∧ TabAt H a
  own : ∀ i c, ρ[i]? = some (some (.mut true c)) → ¬ G.A (f i) ∧ G.H0 (f i) = none
  inj : ∀ i j b c b' c', ρ[i]? = some (some (.mut b c)) → ρ[j]? = some (some (.mut b' c')) → f i = f j → i = j
  inn : ∀ i c, ρ[i]? = some (some (.mut false c)) → (i, f i) ∈ G.inns ∧ G.A (f i)
  innB : ∀ p ∈ G.inns, ∃ c, ρ[p.1]? = some (some (.mut false c)) ∧ f p.1 = p.2
  sl : ∀ i s, ρ[i]? = some (some s) → ∃ v, σ[i]? = some (some v) ∧ SlOk G (Bad G ρ f) H (f i) v s

section
variable {K : PySem.W.Frag} {B B' : Addr → Prop} {H H' : Hp} {G : Gc} {σ σ' : L2.St} {ρ ρ' : Rho} {f : Nat → Addr} {p : Addr}
theorem CellOk.ext (x : Ext B H B' H') {c : Cell} (e : H' p = H p) (h : CellOk K B H p c) : CellOk K B' H' p c := by
  cases c with
  | lst ds => obtain ⟨vs, h1, h2⟩ := h; exact ⟨vs, e.trans h1, h2.ext x⟩
  | dK kvs => obtain ⟨vs, h1, h2, h3⟩ := h; exact ⟨vs, e.trans h1, h2, h3.ext x⟩
  | dT kvs => obtain ⟨vs, h1, h2, h3⟩ := h; exact ⟨vs, e.trans h1, h2, h3.ext x⟩
theorem TabAt.not {c : Cell} (t : TabAt H p) (h : CellOk K B H p c) : False := by
  obtain ⟨ps, e, _⟩ := t
  cases c with
  | lst ds => obtain ⟨vs, h1, h2⟩ := h; rw [e] at h1; cases h1
  | dK kvs => obtain ⟨vs, h1, h2, h3⟩ := h; rw [e] at h1; cases h1
  | dT kvs => obtain ⟨vs, h1, h2, h3⟩ := h; rw [e] at h1; cases h1
theorem CellOk.at {c : Cell} (h : CellOk K B H p c) : ∃ o, H p = some o := by
  cases c with
  | lst ds => obtain ⟨vs, h1, h2⟩ := h; exact ⟨_, h1⟩
  | dK kvs => obtain ⟨vs, h1, h2, h3⟩ := h; exact ⟨_, h1⟩
  | dT kvs => obtain ⟨vs, h1, h2, h3⟩ := h; exact ⟨_, h1⟩
theorem SlOk.ext (x : Ext B H B' H') {s : Sl} {v : V} (e : (∃ b c, s = .mut b c) → H' p = H p) (h : SlOk G B H p v s) : SlOk G B' H' p v s := by
  cases s with
  | dat d => exact Has.ext x h
  | «mut» b c => exact ⟨h.1, h.2.ext x (e ⟨b, c, rfl⟩)⟩
  | exc c => exact h
/-- the cell frozen -/
theorem CellOk.has {c : Cell} (h : CellOk K B H p c) (hp : ¬ B p) : Has K B H (.ref p) (cellD c) := by
  cases c with
  | lst ds => obtain ⟨vs, h1, h2⟩ := h; exact .lst (.inl ⟨hp, .inl h1⟩) h2
  | dK kvs =>
    obtain ⟨vs, h1, h2, h3⟩ := h
    refine .dK (ks := kvs.map fun p => keyD p.1) (ds := kvs.map (·.2)) hp h1 ?_ h3 ?_
    · have := congrArg (List.map keyD) h2
      simpa [List.map_map, Function.comp_def] using this.symm
    · rw [List.zip_map']
  | dT kvs =>
    obtain ⟨vs, h1, h2, h3⟩ := h
    refine .dT (ks := kvs.map fun p => PyData.tuple (p.1.map keyD)) (ds := kvs.map (·.2)) hp h1 ?_ h3 ?_
    · have := congrArg (List.map keyT) h2
      simpa [List.map_map, keyT, Function.comp_def] using this.symm
    · rw [List.zip_map']
      rfl
theorem Rel.bad (R : Rel G σ H ρ f) {a : Addr} (h : Bad G ρ f a) : ∃ o, H a = some o := by
  rcases h with h | ⟨i, c, h, e⟩
  · exact R.dom.1 a h
  · obtain ⟨v, _, h2⟩ := R.sl i _ h
    rw [e]
    exact h2.2.at
theorem Rel.free (R : Rel G σ H ρ f) (h : H p = none) : ¬ Bad G ρ f p := fun z => by
  obtain ⟨o, e⟩ := R.bad z
  rw [h] at e
  cases e
theorem Rel.mutAt (R : Rel G σ H ρ f) {i : Nat} {b : Bool} {c : Cell} (h : ρ[i]? = some (some (.mut b c))) : σ[i]? = some (some (.ref (f i))) ∧ CellOk G.K (Bad G ρ f) H (f i) c := by
  obtain ⟨v, e, h2⟩ := R.sl i _ h
  rw [h2.1] at e
  exact ⟨e, h2.2⟩
theorem Rel.mutBad (R : Rel G σ H ρ f) {i : Nat} {b : Bool} {c : Cell} (h : ρ[i]? = some (some (.mut b c))) : Bad G ρ f (f i) := by
  cases b with
  | true => exact .inr ⟨i, c, h, rfl⟩
  | false => exact .inl (R.inn i c h).2
/-- the heap has grown -/
theorem Rel.same (R : Rel G σ H ρ f) (s : Same H H') : Rel G σ H' ρ f where
  len := R.len
  keep := fun a o e h ht => s _ _ (R.keep a o e h ht)
  dom := ⟨fun a h => let ⟨o, e⟩ := R.dom.1 a h; ⟨o, s _ _ e⟩, fun a h => ⟨(R.dom.2 a h).1, let ⟨ps, e, t⟩ := (R.dom.2 a h).2; ⟨ps, s _ _ e, t⟩⟩⟩
  own := R.own
  inj := R.inj
  inn := R.inn
  innB := R.innB
  sl := fun i t h => by
    obtain ⟨v, e, h2⟩ := R.sl i t h
    refine ⟨v, e, h2.ext (Ext.same s) ?_⟩
    rintro ⟨b, c, rfl⟩
    obtain ⟨o, e2⟩ := h2.2.at
    rw [e2]
    exact s _ _ e2
/-- what stands apart from all that is known -/
structure Fresh (G : Gc) (ρ : Rho) (f : Nat → Addr) (p : Addr) : Prop where
  a : ¬ G.A p
  h0 : G.H0 p = none
  m : ∀ i b c, ρ[i]? = some (some (.mut b c)) → f i ≠ p
theorem Rel.fresh (R : Rel G σ H ρ f) (h : H p = none) : Fresh G ρ f p where
  a := fun z => by obtain ⟨o, e⟩ := R.dom.1 p z; rw [h] at e; cases e
  h0 := by
    cases e : G.H0 p with
    | none => rfl
    | some o =>
      by_cases hp : ∀ q ∈ G.inns, q.2 ≠ p
      · have := R.keep p o e hp fun ht => by
          obtain ⟨_, ps, e2, _⟩ := R.dom.2 p ht
          rw [h] at e2; cases e2
        rw [h] at this; cases this
      · have hp' : ∃ q ∈ G.inns, q.2 = p := by simpa using hp
        obtain ⟨q, hq, e1⟩ := hp'
        obtain ⟨c, e2, e3⟩ := R.innB q hq
        obtain ⟨_, e4⟩ := R.mutAt e2
        obtain ⟨o', e5⟩ := e4.at
        rw [e3, e1, h] at e5; cases e5
  m := fun i b c e z => by
    obtain ⟨_, e4⟩ := R.mutAt e
    obtain ⟨o', e5⟩ := e4.at
    rw [z, h] at e5; cases e5
theorem Fresh.bad (h : Fresh G ρ f p) : ¬ Bad G ρ f p := fun z => z.elim h.a fun ⟨i, c, e, z⟩ => h.m i _ _ e z.symm
end

/-! ### a new object that nothing else holds -/
def Gc.plus (G : Gc) (p : Addr) : Gc := { G with A := fun a => G.A a ∨ a = p }
section
variable {H H' : Hp} {G : Gc} {σ σ' : L2.St} {ρ ρ' : Rho} {f : Nat → Addr} {p : Addr}
theorem bad_plus {a : Addr} : Bad (G.plus p) ρ f a ↔ Bad G ρ f a ∨ a = p := by
  unfold Bad Gc.plus
  constructor
  · rintro ((h | h) | h)
    · exact .inl (.inl h)
    · exact .inr h
    · exact .inl (.inr h)
  · rintro ((h | h) | h)
    · exact .inl (.inl h)
    · exact .inr h
    · exact .inl (.inr h)
theorem SlOk.plus {B : Addr → Prop} {q : Addr} {s : Sl} {v : V} (h : SlOk G B H q v s) : SlOk (G.plus p) B H q v s := by
  cases s <;> exact h
theorem SlOk.minus {B : Addr → Prop} {q : Addr} {s : Sl} {v : V} (h : SlOk (G.plus p) B H q v s) : SlOk G B H q v s := by
  cases s <;> exact h
theorem Rel.grow (R : Rel G σ H ρ f) (h0 : H p = none) (s : Same H H') (he : ∃ o, H' p = some o) : Rel (G.plus p) σ H' ρ f := by
  have R' := R.same s
  have fr := R.fresh h0
  refine ⟨R.len, R'.keep, ⟨fun a h => ?_, fun a h => ⟨.inl (R'.dom.2 a h).1, (R'.dom.2 a h).2⟩⟩, fun i c e => ⟨fun z => ?_, (R.own i c e).2⟩, R.inj, fun i c e => ⟨(R.inn i c e).1, .inl (R.inn i c e).2⟩, R.innB, fun i t e => ?_⟩
  · rcases h with h | h
    · exact R'.dom.1 a h
    · subst h; exact he
  · rcases z with z | z
    · exact (R.own i c e).1 z
    · exact fr.m i _ _ e z
  · obtain ⟨v, e1, h⟩ := R.sl i t e
    have x : Ext (Bad G ρ f) H (Bad (G.plus p) ρ f) H' := fun a o hb eo => ⟨fun z => (bad_plus.mp z).elim hb (ne_of_none eo h0), s a o eo⟩
    refine ⟨v, e1, (h.ext x ?_).plus⟩
    rintro ⟨b, c, rfl⟩
    obtain ⟨o, eo⟩ := h.2.at
    rw [eo]
    exact s _ _ eo
theorem Rel.minus (R : Rel (G.plus p) σ H ρ f) (fr : Fresh G ρ f p) (hi : ∀ i c, ρ[i]? = some (some (.mut false c)) → G.A (f i)) (ht : ¬ G.T p) : Rel G σ H ρ f := by
  refine ⟨R.len, R.keep, ⟨fun a h => R.dom.1 a (.inl h), fun a h => ⟨(R.dom.2 a h).1.elim id fun z => absurd (z ▸ h) ht, (R.dom.2 a h).2⟩⟩, fun i c e => ⟨fun z => (R.own i c e).1 (.inl z), (R.own i c e).2⟩, R.inj, fun i c e => ⟨(R.inn i c e).1, hi i c e⟩, R.innB, fun i t e => ?_⟩
  obtain ⟨v, e1, h⟩ := R.sl i t e
  exact ⟨v, e1, (h.ext (fun a o hb eo => ⟨fun z => hb (bad_plus.mpr (.inl z)), eo⟩) fun _ => rfl).minus⟩
/-- p holds c, apart from all else -/
structure NewAt (G : Gc) (σ : L2.St) (H : Hp) (ρ : Rho) (f : Nat → Addr) (p : Addr) (c : Cell) : Prop where
  rel : Rel G σ H ρ f
  relP : Rel (G.plus p) σ H ρ f
  fr : Fresh G ρ f p
  ok : CellOk G.K (fun a => Bad G ρ f a ∨ a = p) H p c
theorem NewAt.mk' {c : Cell} (R : Rel G σ H ρ f) (h0 : H p = none) (s : Same H H') (ok : CellOk G.K (fun a => Bad G ρ f a ∨ a = p) H' p c) : NewAt G σ H' ρ f p c :=
  ⟨R.same s, R.grow h0 s ok.at, R.fresh h0, ok⟩
end

/-! ### what an evaluation gives -/
inductive R (α : Type) where
  | val (a : α) (ρ : Rho)
  | exc (c : Str) (ρ : Rho)
abbrev M (α : Type) := Rho → Option (R α)
def M.ret {α : Type} (a : α) : M α := fun ρ => some (.val a ρ)
def M.bind {α β : Type} (m : M α) (k : α → M β) : M β := fun ρ => match m ρ with
  | none => none
  | some (.exc c ρ') => some (.exc c ρ')
  | some (.val a ρ') => k a ρ'
def M.lift {α : Type} (o : Option α) : M α := fun ρ => match o with
  | none => none
  | some a => some (.val a ρ)
theorem bind_inv {α β : Type} {m : M α} {k : α → M β} {ρ : Rho} {r : R β} (h : M.bind m k ρ = some r) :
    (∃ c ρ', m ρ = some (.exc c ρ') ∧ r = .exc c ρ') ∨ ∃ a ρ', m ρ = some (.val a ρ') ∧ k a ρ' = some r := by
  unfold M.bind at h
  cases e : m ρ with
  | none => rw [e] at h; cases h
  | some x =>
    rw [e] at h
    cases x with
    | exc c ρ' => exact .inl ⟨c, ρ', rfl, (Option.some.inj h).symm⟩
    | val a ρ' => exact .inr ⟨a, ρ', rfl, h⟩
theorem lift_inv {α : Type} {o : Option α} {ρ : Rho} {r : R α} (h : M.lift o ρ = some r) : ∃ a, o = some a ∧ r = .val a ρ := by
  unfold M.lift at h
  cases o with
  | none => cases h
  | some a => exact ⟨a, rfl, (Option.some.inj h).symm⟩

@[reducible] def Out {α : Type} (r : R α) (P : α → Rho → Prop) (E : Str → Rho → Prop) : Prop := match r with
  | .val a ρ => P a ρ
  | .exc c ρ => E c ρ
/-- an exception as it is wished -/
def XP (G : Gc) (W : WX) (σ : L2.St) (c : Str) (ρ' : Rho) (f : Nat → Addr) : Prop := ∀ cls H', G.mg c = some cls → Rel G σ H' ρ' f → W cls none σ H'
/-- data -/
def tD (G : Gc) (W : WX) (m : M D) : TE := fun σ H Q => ∃ ρ f r, Rel G σ H ρ f ∧ m ρ = some r ∧
  Out r (fun d ρ' => ∀ v H', Rel G σ H' ρ' f → Ext (Bad G ρ f) H (Bad G ρ' f) H' → Has G.K (Bad G ρ' f) H' v d → Q v H') (fun c ρ' => XP G W σ c ρ' f)
/-- data that is looked at, at once -/
def tK (G : Gc) (W : WX) (m : M D) : TE := fun σ H Q => ∃ ρ f r, Rel G σ H ρ f ∧ m ρ = some r ∧
  Out r (fun d ρ' => ∀ v H', Rel G σ H' ρ' f → Ext (Bad G ρ f) H (Bad G ρ' f) H' → HasK G.K (Bad G ρ' f) H' v d → Q v H') (fun c ρ' => XP G W σ c ρ' f)
/-- a new object that nothing else holds -/
def tF (G : Gc) (W : WX) (m : M Cell) : TE := fun σ H Q => ∃ ρ f r, Rel G σ H ρ f ∧ m ρ = some r ∧
  Out r (fun c ρ' => ∀ p H', NewAt G σ H' ρ' f p c → Ext (Bad G ρ f) H (fun a => Bad G ρ' f a ∨ a = p) H' → Q (.ref p) H') (fun c ρ' => XP G W σ c ρ' f)
def tT (G : Gc) (W : WX) (m : M Bool) : TT := fun σ H Q => ∃ ρ f r, Rel G σ H ρ f ∧ m ρ = some r ∧
  Out r (fun b ρ' => ∀ H', Rel G σ H' ρ' f → Ext (Bad G ρ f) H (Bad G ρ' f) H' → Q b H') (fun c ρ' => XP G W σ c ρ' f)
def tA (G : Gc) (W : WX) (m : M (List D)) : TA := fun σ H Q => ∃ ρ f r, Rel G σ H ρ f ∧ m ρ = some r ∧
  Out r (fun ds ρ' => ∀ vs H', Rel G σ H' ρ' f → Ext (Bad G ρ f) H (Bad G ρ' f) H' → HasL G.K (Bad G ρ' f) H' vs ds → Q vs H') (fun c ρ' => XP G W σ c ρ' f)
abbrev DE (X : Cx) (G : Gc) (W : WX) (e : Expr) (m : M D) : Prop := PE X e (tD G W m)
abbrev DK (X : Cx) (G : Gc) (W : WX) (e : Expr) (m : M D) : Prop := PE X e (tK G W m)
abbrev DF (X : Cx) (G : Gc) (W : WX) (e : Expr) (m : M Cell) : Prop := PE X e (tF G W m)
abbrev DT (X : Cx) (G : Gc) (W : WX) (e : Expr) (m : M Bool) : Prop := PT X e (tT G W m)
abbrev DA (X : Cx) (G : Gc) (W : WX) (es : List Expr) (m : M (List D)) : Prop := PA X es (tA G W m)
theorem imp {X : Cx} {e : Expr} {t t' : TE} (h : PE X e t) (w : ∀ σ H Q, t' σ H Q → t σ H Q) : PE X e t' := ⟨fun pins s σ H Q I hq => h.run pins s σ H Q I (w σ H Q hq)⟩
theorem impT {X : Cx} {e : Expr} {t t' : TT} (h : PT X e t) (w : ∀ σ H Q, t' σ H Q → t σ H Q) : PT X e t' := ⟨fun pins s σ H Q I hq => h.run pins s σ H Q I (w σ H Q hq)⟩
theorem impA {X : Cx} {e : List Expr} {t t' : TA} (h : PA X e t) (w : ∀ σ H Q, t' σ H Q → t σ H Q) : PA X e t' := ⟨fun pos pins s σ H Q I hq => h.run pos pins s σ H Q I (w σ H Q hq)⟩

section
variable {X : Cx} {G : Gc} {W : WX} {a b e : Expr} {es : List Expr} {m ma mb : M D} {pos : Pos} {σ : L2.St} {H : Hp}

/-- data, then what follows -/
theorem tD_bind {α : Type} {k : D → M α} {ρ : Rho} {f : Nat → Addr} {r : R α} {Q : VK} (Rl : Rel G σ H ρ f) (h : M.bind m k ρ = some r) (hx : ∀ c ρ', r = .exc c ρ' → XP G W σ c ρ' f)
    (hk : ∀ d ρ' v H', k d ρ' = some r → Rel G σ H' ρ' f → Ext (Bad G ρ f) H (Bad G ρ' f) H' → Has G.K (Bad G ρ' f) H' v d → Q v H') : tD G W m σ H Q := by
  rcases bind_inv h with ⟨c, ρ', e1, e2⟩ | ⟨d, ρ', e1, e2⟩
  · exact ⟨ρ, f, _, Rl, e1, hx c ρ' e2⟩
  · exact ⟨ρ, f, _, Rl, e1, fun v H' R' x hh => hk d ρ' v H' e2 R' x hh⟩
theorem tK_bind {α : Type} {k : D → M α} {ρ : Rho} {f : Nat → Addr} {r : R α} {Q : VK} (Rl : Rel G σ H ρ f) (h : M.bind m k ρ = some r) (hx : ∀ c ρ', r = .exc c ρ' → XP G W σ c ρ' f)
    (hk : ∀ d ρ' v H', k d ρ' = some r → Rel G σ H' ρ' f → Ext (Bad G ρ f) H (Bad G ρ' f) H' → HasK G.K (Bad G ρ' f) H' v d → Q v H') : tK G W m σ H Q := by
  rcases bind_inv h with ⟨c, ρ', e1, e2⟩ | ⟨d, ρ', e1, e2⟩
  · exact ⟨ρ, f, _, Rl, e1, hx c ρ' e2⟩
  · exact ⟨ρ, f, _, Rl, e1, fun v H' R' x hh => hk d ρ' v H' e2 R' x hh⟩
theorem tA_bind {α : Type} {m : M (List D)} {k : List D → M α} {ρ : Rho} {f : Nat → Addr} {r : R α} {Q : List V → Hp → Prop} (Rl : Rel G σ H ρ f) (h : M.bind m k ρ = some r) (hx : ∀ c ρ', r = .exc c ρ' → XP G W σ c ρ' f)
    (hk : ∀ d ρ' v H', k d ρ' = some r → Rel G σ H' ρ' f → Ext (Bad G ρ f) H (Bad G ρ' f) H' → HasL G.K (Bad G ρ' f) H' v d → Q v H') : tA G W m σ H Q := by
  rcases bind_inv h with ⟨c, ρ', e1, e2⟩ | ⟨d, ρ', e1, e2⟩
  · exact ⟨ρ, f, _, Rl, e1, hx c ρ' e2⟩
  · exact ⟨ρ, f, _, Rl, e1, fun v H' R' x hh => hk d ρ' v H' e2 R' x hh⟩
theorem tT_bind {α : Type} {m : M Bool} {k : Bool → M α} {ρ : Rho} {f : Nat → Addr} {r : R α} {Q : Bool → Hp → Prop} (Rl : Rel G σ H ρ f) (h : M.bind m k ρ = some r) (hx : ∀ c ρ', r = .exc c ρ' → XP G W σ c ρ' f)
    (hk : ∀ d ρ' H', k d ρ' = some r → Rel G σ H' ρ' f → Ext (Bad G ρ f) H (Bad G ρ' f) H' → Q d H') : tT G W m σ H Q := by
  rcases bind_inv h with ⟨c, ρ', e1, e2⟩ | ⟨d, ρ', e1, e2⟩
  · exact ⟨ρ, f, _, Rl, e1, hx c ρ' e2⟩
  · exact ⟨ρ, f, _, Rl, e1, fun H' R' x => hk d ρ' H' e2 R' x⟩
theorem xok {α : Type} {f : Nat → Addr} {r : R α} {P : α → Rho → Prop} (h : Out r P (fun c ρ' => XP G W σ c ρ' f)) : ∀ c ρ', r = .exc c ρ' → XP G W σ c ρ' f := fun c ρ' e => by
  subst e
  exact h

/-- data may be looked at -/
theorem dk (h : DE X G W e m) : DK X G W e m := imp h fun σ H Q ⟨ρ, f, r, R, hm, hp⟩ => ⟨ρ, f, r, R, hm, by
  cases r with
  | val d ρ' => exact fun v H' R' x hh => hp v H' R' x (.inl hh)
  | exc c ρ' => exact hp⟩
/-- a new object as data -/
def M.cell (m : M Cell) : M D := m.bind fun c => .ret (cellD c)
theorem de_f {m : M Cell} (h : DF X G W e m) : DE X G W e (M.cell m) := imp h fun σ H Q ⟨ρ, f, r, R, hm, hp⟩ => by
  rcases bind_inv hm with ⟨c, ρ', e1, e2⟩ | ⟨c, ρ', e1, e2⟩
  · subst e2
    exact ⟨ρ, f, _, R, e1, hp⟩
  · cases (Option.some.inj e2)
    refine ⟨ρ, f, _, R, e1, fun p H' N x => hp _ _ N.rel (fun a o hb e => ⟨fun z => (x a o hb e).1 (.inl z), (x a o hb e).2⟩) ?_⟩
    have ok' : CellOk G.K (Bad G ρ' f) H' p c := N.ok.ext (fun a o h e => ⟨fun z => h (.inl z), e⟩) rfl
    exact ok'.has N.fr.bad
end
end DL
namespace DL
open PySem PySem.Spec PyProof.Rows L2

section
variable {K : PySem.W.Frag} {B B' : Addr → Prop} {H H' : Hp} {v x y : V} {d e z : D} {p : Addr}
theorem Has.same (h : Has K B H v d) (s : Same H H') : Has K B H' v d := h.ext (Ext.same s)
theorem HasL.same {vs : List V} {ds : List D} (h : HasL K B H vs ds) (s : Same H H') : HasL K B H' vs ds := h.ext (Ext.same s)
theorem same_upd {o : HO} (h : H p = none) : Same H (upd H p o) := fun b x e => by
  rw [upd_ne (ne_of_none e h)]
  exact e
theorem HasK.lst {ds : List D} (h : HasK K B H v (.list ds)) : ∃ a xs, v = .ref a ∧ True ∧ SqL K H a xs ∧ HasL K B H xs ds := by
  rcases h with h | ⟨p, c, rfl, ok, e⟩
  · obtain ⟨a, xs, e, h1, h2, h3⟩ := h.lst_inv
    exact ⟨a, xs, e, trivial, h2, h3⟩
  · cases c with
    | lst es =>
      obtain ⟨vs, h1, h2⟩ := ok
      cases e
      exact ⟨p, vs, rfl, trivial, .inl (.inl h1), h2⟩
    | dK kvs => cases e
    | dT kvs => cases e
theorem HasK.tup {ds : List D} (h : HasK K B H v (.tuple ds)) : Has K B H v (.tuple ds) := by
  rcases h with h | ⟨p, c, rfl, ok, e⟩
  · exact h
  · cases c <;> cases e
theorem HasK.int {i : Int} (h : HasK K B H v (.int i)) : v = .int i := by
  rcases h with h | ⟨p, c, rfl, ok, e⟩
  · exact h.int_inv
  · cases c <;> cases e
theorem HasK.bl {i : Bool} (h : HasK K B H v (.bool i)) : v = .bl i := by
  rcases h with h | ⟨p, c, rfl, ok, e⟩
  · exact h.bl_inv
  · cases c <;> cases e
theorem HasK.str {i : Str} (h : HasK K B H v (.str i)) : v = .str i := by
  rcases h with h | ⟨p, c, rfl, ok, e⟩
  · exact h.str_inv
  · cases c <;> cases e
theorem HasK.non (h : HasK K B H v .none) : v = .non := by
  rcases h with h | ⟨p, c, rfl, ok, e⟩
  · exact h.non_inv
  · cases c <;> cases e
theorem HasK.dp (h : HasK K B H v d) (hp : d.plain = true) : Dp K H v d := by
  rcases h with h | ⟨p, c, rfl, ok, e⟩
  · exact h.dp hp
  · subst e
    cases c with
    | lst ds =>
      obtain ⟨vs, h1, h2⟩ := ok
      refine .lst (.inl (.inl h1)) (h2.dp ?_)
      simpa [cellD, PyData.plain] using hp
    | dK kvs => simp [cellD, PyData.plain] at hp
    | dT kvs => simp [cellD, PyData.plain] at hp
end

/-- g tells what the operation r gives, for data -/
def OpD (K : PySem.W.Frag) (r : R2) (g : D → D → Option D) : Prop :=
  ∀ (B : Addr → Prop) (H : Hp) (x y : V) (d e z : D) (Q : VK), (∀ p, H p = none → ¬ B p) → HasK K B H x d → HasK K B H y e → g d e = some z → (∀ v H', Same H H' → Has K B H' v z → Q v H') → r x y H Q
/-- .. a new object -/
def OpF (K : PySem.W.Frag) (r : R2) (g : D → D → Option Cell) : Prop :=
  ∀ (B : Addr → Prop) (H : Hp) (x y : V) (d e : D) (z : Cell) (Q : VK), (∀ p, H p = none → ¬ B p) → HasK K B H x d → HasK K B H y e → g d e = some z →
    (∀ p H', Same H H' → H p = none → CellOk K (fun a => B a ∨ a = p) H' p z → Q (.ref p) H') → r x y H Q
def UnD (K : PySem.W.Frag) (r : V → Hp → VK → Prop) (g : D → Option D) : Prop :=
  ∀ (B : Addr → Prop) (H : Hp) (x : V) (d z : D) (Q : VK), (∀ p, H p = none → ¬ B p) → HasK K B H x d → g d = some z → (∀ v H', Same H H' → Has K B H' v z → Q v H') → r x H Q
def UnF (K : PySem.W.Frag) (r : V → Hp → VK → Prop) (g : D → Option Cell) : Prop :=
  ∀ (B : Addr → Prop) (H : Hp) (x : V) (d : D) (z : Cell) (Q : VK), (∀ p, H p = none → ¬ B p) → HasK K B H x d → g d = some z →
    (∀ p H', Same H H' → H p = none → CellOk K (fun a => B a ∨ a = p) H' p z → Q (.ref p) H') → r x H Q
theorem OpD.or {K : PySem.W.Frag} {r r' : R2} {g : D → D → Option D} {P : D → D → Bool} (h : OpD K r (fun d e => if P d e then g d e else none)) (h' : OpD K r' (fun d e => if P d e then none else g d e)) :
    OpD K (fun x y H Q => r x y H Q ∨ r' x y H Q) g := by
  intro B H x y d e z Q hf hx hy hg hq
  cases hp : P d e with
  | true => exact .inl (h B H x y d e z Q hf hx hy (by simp [hp, hg]) hq)
  | false => exact .inr (h' B H x y d e z Q hf hx hy (by simp [hp, hg]) hq)

def M.bin (g : D → D → Option D) (a b : M D) : M D := a.bind fun x => b.bind fun y => .lift (g x y)
def M.binF (g : D → D → Option Cell) (a b : M D) : M Cell := a.bind fun x => b.bind fun y => .lift (g x y)
def M.un (g : D → Option D) (a : M D) : M D := a.bind fun x => .lift (g x)
def M.unF (g : D → Option Cell) (a : M D) : M Cell := a.bind fun x => .lift (g x)

section
variable {X : Cx} {G : Gc} {W : WX} {a b e : Expr} {es : List Expr} {ma mb : M D} {pos : Pos}

theorem bin_imp {r : R2} {g : D → D → Option D} (hk : X.K = G.K) (hg : OpD X.K r g) : ∀ σ H Q, tD G W (M.bin g ma mb) σ H Q → tOp r (tD G W ma) (tK G W mb) σ H Q := by
  rintro σ H Q ⟨ρ, f, s, R, hm, hp⟩
  rw [hk] at hg
  have hx := xok hp
  refine tD_bind R hm hx fun x ρ1 v H1 hk1 R1 x1 hv => ?_
  refine tK_bind R1 hk1 hx fun y ρ2 u H2 hk2 R2 x2 hu => ?_
  obtain ⟨z, e, er⟩ := lift_inv hk2
  subst er
  exact hg (Bad G ρ2 f) H2 v u x y z Q (fun p hp => R2.free hp) (.inl (hv.ext x2)) hu e (fun w H3 s hw => hp w H3 (R2.same s) ((x1.trans x2).trans (Ext.same s)) hw)
theorem binF_imp {r : R2} {g : D → D → Option Cell} (hk : X.K = G.K) (hg : OpF X.K r g) : ∀ σ H Q, tF G W (M.binF g ma mb) σ H Q → tOp r (tD G W ma) (tK G W mb) σ H Q := by
  rintro σ H Q ⟨ρ, f, s, R, hm, hp⟩
  rw [hk] at hg
  have hx := xok hp
  refine tD_bind R hm hx fun x ρ1 v H1 hk1 R1 x1 hv => ?_
  refine tK_bind R1 hk1 hx fun y ρ2 u H2 hk2 R2 x2 hu => ?_
  obtain ⟨z, e, er⟩ := lift_inv hk2
  subst er
  exact hg (Bad G ρ2 f) H2 v u x y z Q (fun p hp => R2.free hp) (.inl (hv.ext x2)) hu e (fun p H3 s h0 ok => hp p H3 (.mk' R2 h0 s ok) ((x1.trans x2).trans (Ext.fresh h0 s)))
theorem un_imp {r : V → Hp → VK → Prop} {g : D → Option D} (hk : X.K = G.K) (hg : UnD X.K r g) : ∀ σ H Q, tD G W (M.un g ma) σ H Q → tK G W ma σ H (fun x H1 => r x H1 Q) := by
  rintro σ H Q ⟨ρ, f, s, R, hm, hp⟩
  rw [hk] at hg
  have hx := xok hp
  refine tK_bind R hm hx fun x ρ1 v H1 hk1 R1 x1 hv => ?_
  obtain ⟨z, e, er⟩ := lift_inv hk1
  subst er
  exact hg (Bad G ρ1 f) H1 v x z Q (fun p hp => R1.free hp) hv e (fun w H3 s hw => hp w H3 (R1.same s) (x1.trans (Ext.same s)) hw)
theorem unF_imp {r : V → Hp → VK → Prop} {g : D → Option Cell} (hk : X.K = G.K) (hg : UnF X.K r g) : ∀ σ H Q, tF G W (M.unF g ma) σ H Q → tK G W ma σ H (fun x H1 => r x H1 Q) := by
  rintro σ H Q ⟨ρ, f, s, R, hm, hp⟩
  rw [hk] at hg
  have hx := xok hp
  refine tK_bind R hm hx fun x ρ1 v H1 hk1 R1 x1 hv => ?_
  obtain ⟨z, e, er⟩ := lift_inv hk1
  subst er
  exact hg (Bad G ρ1 f) H1 v x z Q (fun p hp => R1.free hp) hv e (fun p H3 s h0 ok => hp p H3 (.mk' R1 h0 s ok) (x1.trans (Ext.fresh h0 s)))
theorem de_op {op : Operator} {r : R2} {g : D → D → Option D} (ho : OpR X (binaryOp op) r) (hg : OpD X.K r g) (ha : DE X G W a ma) (hb : DK X G W b mb) (hk : X.K = G.K := by rfl) : DE X G W (.BinOp a op b pos) (M.bin g ma mb) :=
  imp (pe_op ho ha hb) (bin_imp hk hg)
theorem df_op {op : Operator} {r : R2} {g : D → D → Option Cell} (ho : OpR X (binaryOp op) r) (hg : OpF X.K r g) (ha : DE X G W a ma) (hb : DK X G W b mb) (hk : X.K = G.K := by rfl) : DF X G W (.BinOp a op b pos) (M.binF g ma mb) :=
  imp (pe_op ho ha hb) (binF_imp hk hg)
theorem de_cmp {op : CmpOp} {r : R2} {g : D → D → Option D} (ho : OpR X (compareOp op) r) (hg : OpD X.K r g) (ha : DE X G W a ma) (hb : DK X G W b mb) (hm : behindInMarks op b = false) (hk : X.K = G.K := by rfl) : DE X G W (.Compare a [op] [b] pos) (M.bin g ma mb) :=
  imp (pe_cmpR ho ha hb hm) (bin_imp hk hg)
theorem de_unop {op : UnaryOp} {r : V → Hp → VK → Prop} {g : D → Option D} (ho : UnR X (unaryOp op) r) (hg : UnD X.K r g) (ha : DK X G W a ma) (hk : X.K = G.K := by rfl) : DE X G W (.UnaryOp op a pos) (M.un g ma) :=
  imp (pe_un ho ha) (un_imp hk hg)
theorem de_ixR {r : R2} {g : D → D → Option D} (hr : IxR X r) (hg : OpD X.K r g) (ha : DE X G W a ma) (hb : DK X G W b mb) (hs : PlainIx b := by exact fun _ _ => rfl) (hk : X.K = G.K := by rfl) : DE X G W (.Subscript a b pos) (M.bin g ma mb) :=
  imp (pe_ix hr ha hb hs) (bin_imp hk hg)
end

/-! ### + -/
def addD : D → D → Option D
  | .int i, .int j => some (.int (i + j))
  | .str i, .str j => if i.length + j.length ≤ 16777216 then some (.str (i ++ j)) else none
  | .tuple xs, .tuple ys => if xs.length + ys.length ≤ 16777216 then some (.tuple (xs ++ ys)) else none
  | .list xs, .list ys => if xs.length + ys.length ≤ 16777216 then some (.list (xs ++ ys)) else none
  | .int i, .bool b => some (.int (i + b2i b))
  | _, _ => none
def addF : D → D → Option Cell
  | .list xs, .list ys => if xs.length + ys.length ≤ 16777216 then some (.lst (xs ++ ys)) else none
  | _, _ => none
def rCatL (K : PySem.W.Frag) : R2 := fun x y H Q => ∃ l b xs zs, x = .ref l ∧ y = .ref b ∧ SqL K H l xs ∧ SqL K H b zs ∧ xs.length + zs.length ≤ sizeLine ∧ ∀ p, H p = none → Q (.ref p) (upd H p (.lst (xs ++ zs)))
section
variable {X : Cx}
theorem op_catL : OpR X (binaryOp .Add) (rCatL X.K) := by
  intro pins s σ H x y v u Q I rx ry h
  obtain ⟨l, b, xs, zs, rfl, rfl, hH, hB, hz, q⟩ := h
  cases rx
  cases ry
  obtain ⟨its, r, pl, z1⟩ := I.list hH
  obtain ⟨its2, r2, pl2, z2⟩ := I.list hB
  have hl := r.length
  have hl2 := r2.length
  obtain ⟨⟨cls, dd, data, sl⟩, ho, hc, n, hd⟩ := pl.isList
  obtain ⟨⟨cls2, dd2, data2, sl2⟩, ho2, hc2, n2, hd2⟩ := pl2.isList
  simp only at hc hd hc2 hd2
  subst hc hd hc2 hd2
  have ea : its.toArray ++ its2.toArray = (its ++ its2).toArray := by simp
  refine concat_meets ⟨_, ho, rfl⟩ ⟨_, ho2, rfl⟩ noFill_list_add seq_list_add PySem.F.slot_list_add PySem.F.entry_list_add (PySem.F.args_list_add_2 _ _)
    (list_addW l b its.toArray its2.toArray n n2 dd dd2 sl sl2 (by rw [List.size_toArray, List.size_toArray]; omega)) ⟨ho, ho2, ?_⟩
  rw [ea]
  exact ⟨.ref _, _, I.lnew (t' := s.toks) (r.append r2) (by rw [List.length_append]; omega), rfl, q _ I.fresh⟩
theorem of_catL {K : PySem.W.Frag} : OpF K (rCatL K) addF := by
  intro B H x y d e z Q hf hx hy hg hq
  cases d <;> cases e <;> try (simp [addF] at hg)
  rename_i xs ys
  obtain ⟨hl, rfl⟩ := hg
  obtain ⟨a, vs, rfl, r1, s1, h1⟩ := hx.lst
  obtain ⟨b, ws, rfl, r2, s2, h2⟩ := hy.lst
  refine ⟨a, b, vs, ws, rfl, rfl, s1, s2, by rw [h1.length, h2.length]; exact hl, fun p hp => hq p _ (same_upd hp) hp ⟨_, upd_same, ?_⟩⟩
  have x1 : Ext B H (fun a => B a ∨ a = p) (upd H p (.lst (vs ++ ws))) := fun c o hc ho => ⟨fun z => z.elim hc (ne_of_none ho hp), (same_upd hp) _ _ ho⟩
  exact (h1.ext x1).append (h2.ext x1)
def rAdd (K : PySem.W.Frag) : R2 := fun x y H Q => (rI0 fun i j => .int (i + j)) x y H Q ∨ (∃ i j, x = .str i ∧ y = .str j ∧ i.length + j.length ≤ sizeLine ∧ Q (.str (i ++ j)) H) ∨ rCatA K x y H Q ∨ rCatL K x y H Q ∨ (∃ i k, x = .int i ∧ y = .bl k ∧ Q (.int (i + b2i k)) H)
theorem op_addR : OpR X (binaryOp .Add) (rAdd X.K) := op_add.or (op_add_str.or (op_catA.or (op_catL.or op_add_ib)))
theorem od_add {K : PySem.W.Frag} : OpD K (rAdd K) addD := by
  intro B H x y d e z Q hf hx hy hg hq
  cases d <;> cases e <;> try (simp [addD] at hg)
  · subst hg
    exact .inr (.inr (.inr (.inr ⟨_, _, hx.int, hy.bl, hq _ H (Same.refl H) (.int _)⟩)))
  · subst hg
    exact .inl ⟨_, _, hx.int, hy.int, hq _ H (Same.refl H) (.int _)⟩
  · obtain ⟨hl, rfl⟩ := hg
    exact .inr (.inl ⟨_, _, hx.str, hy.str, hl, hq _ H (Same.refl H) (.str _)⟩)
  · obtain ⟨hl, rfl⟩ := hg
    rename_i xs ys
    refine .inr (.inr (.inr (.inl (of_catL (K := K) B H x y (.list xs) (.list ys) (.lst (xs ++ ys)) Q hf hx hy (by simp [addF, hl]) fun p H' s hp ok => ?_))))
    have ok' : CellOk K B H' p (.lst (xs ++ ys)) := ok.ext (fun a o h e => ⟨fun z => h (.inl z), e⟩) rfl
    exact hq _ H' s (ok'.has (hf p hp))
  · obtain ⟨hl, rfl⟩ := hg
    rename_i xs ys
    obtain ⟨a, vs, rfl, r1, s1, h1⟩ := hx.tup.tup_inv
    obtain ⟨b, ws, rfl, r2, s2, h2⟩ := hy.tup.tup_inv
    refine .inr (.inr (.inl ⟨a, b, vs, ws, rfl, rfl, s1, s2, by rw [h1.length, h2.length]; exact hl, fun e => ?_, fun e1 e2 => ?_, fun e1 e2 p hp => ?_⟩))
    · subst e
      have : xs = [] := List.eq_nil_of_length_eq_zero h1.length.symm
      subst this
      exact hq _ H (Same.refl H) (.tup r2 h2)
    · subst e2
      have : ys = [] := List.eq_nil_of_length_eq_zero h2.length.symm
      subst this
      rw [List.append_nil] at hq
      exact hq _ H (Same.refl H) (.tup r1 h1)
    · exact hq _ _ (same_upd hp) (.tup (.inl ⟨hf p hp, .inl upd_same⟩) ((h1.same (same_upd hp)).append (h2.same (same_upd hp))))
end
section
variable {X : Cx} {G : Gc} {W : WX} {a b e : Expr} {es : List Expr} {ma mb : M D} {pos : Pos}
theorem de_add (ha : DE X G W a ma) (hb : DK X G W b mb) (hk : X.K = G.K := by rfl) : DE X G W (.BinOp a .Add b pos) (M.bin addD ma mb) := de_op op_addR od_add ha hb hk
theorem df_add (ha : DE X G W a ma) (hb : DK X G W b mb) (hk : X.K = G.K := by rfl) : DF X G W (.BinOp a .Add b pos) (M.binF addF ma mb) := df_op op_catL of_catL ha hb hk
end
end DL
namespace DL
open PySem PySem.Spec PyProof.Rows L2

/-! ### ints -/
def intD (C : Int → Int → Bool) (g : Int → Int → Int) : D → D → Option D
  | .int i, .int j => if C i j = true then some (.int (g i j)) else none
  | _, _ => none
def intD0 (g : Int → Int → Int) : D → D → Option D
  | .int i, .int j => some (.int (g i j))
  | _, _ => none
theorem od_int {K : PySem.W.Frag} {C : Int → Int → Prop} {c : Int → Int → Bool} {g : Int → Int → Int} (h : ∀ i j, c i j = true → C i j) : OpD K (rI C fun i j => .int (g i j)) (intD c g) := by
  intro B H x y d e z Q hf hx hy hg hq
  cases d <;> cases e <;> try (simp [intD] at hg)
  obtain ⟨hc, rfl⟩ := hg
  exact ⟨_, _, hx.int, hy.int, h _ _ hc, hq _ H (Same.refl H) (.int _)⟩
theorem od_int0 {K : PySem.W.Frag} {g : Int → Int → Int} : OpD K (rI0 fun i j => .int (g i j)) (intD0 g) := by
  intro B H x y d e z Q hf hx hy hg hq
  cases d <;> cases e <;> try (simp [intD0] at hg)
  subst hg
  exact ⟨_, _, hx.int, hy.int, hq _ H (Same.refl H) (.int _)⟩
/-- divisors: positive, not too long -/
def okDiv (_ j : Int) : Bool := decide (0 < j) && decide (j.natAbs.log2 < 9000)
def okMod (_ j : Int) : Bool := decide (0 < j)
def okPow (i j : Int) : Bool := decide (0 ≤ j) && decide (j ≤ 1000000) && decide (i.natAbs < 2 ^ 64)
def okShr (_ j : Int) : Bool := decide (0 ≤ j)
def okMul (i j : Int) : Bool := decide (i.natAbs.log2 + j.natAbs.log2 < 1000000)
def subD := intD0 fun i j => i - j
def fdivD := intD okDiv fun i j => i / j
def modD := intD okMod fun i j => i % j
def powD := intD okPow fun i j => i ^ j.toNat
def shlD := intD okPow fun i j => i * 2 ^ j.toNat
def shrD := intD okShr fun i j => i / 2 ^ j.toNat
def andD := intD0 Builtin.bitAnd
def xorD := intD0 Builtin.bitXor
def orD := intD0 Builtin.bitOr

/-! ### * -/
def mulD : D → D → Option D
  | .int i, .int j => if okMul i j = true then some (.int (i * j)) else none
  | .list xs, .int k => if -(2 ^ 62) ≤ k ∧ k < 2 ^ 62 ∧ xs.length * k.toNat ≤ 16777216 then some (.list (List.replicate k.toNat xs).flatten) else none
  | .tuple xs, .int k => if xs ≠ [] ∧ 2 ≤ k ∧ k ≤ 1000 ∧ xs.length ≤ 1000 then some (.tuple (List.replicate k.toNat xs).flatten) else none
  | _, _ => none
def mulF : D → D → Option Cell
  | .list xs, .int k => if -(2 ^ 62) ≤ k ∧ k < 2 ^ 62 ∧ xs.length * k.toNat ≤ 16777216 then some (.lst (List.replicate k.toNat xs).flatten) else none
  | _, _ => none
theorem HasL.rep {K : PySem.W.Frag} {B : Addr → Prop} {H : Hp} {vs : List V} {ds : List D} (h : HasL K B H vs ds) : ∀ n : Nat, HasL K B H (List.replicate n vs).flatten (List.replicate n ds).flatten
  | 0 => .nil
  | n + 1 => by
    rw [List.replicate_succ, List.replicate_succ, List.flatten_cons, List.flatten_cons]
    exact h.append (HasL.rep h n)
theorem rep_len {α : Type} (xs : List α) : ∀ n : Nat, (List.replicate n xs).flatten.length = xs.length * n
  | 0 => by simp
  | n + 1 => by
    rw [List.replicate_succ, List.flatten_cons, List.length_append, rep_len xs n, Nat.mul_succ]
    omega
/-! ### comparisons of data -/
def eqD (d e : D) : Option D := if okD 60 d = true ∧ okD 60 e = true then some (.bool (PyData.eqv d e)) else none
def neD (d e : D) : Option D := if okD 60 d = true ∧ okD 60 e = true then some (.bool (!PyData.eqv d e)) else none
/-- they may be asked for < -/
def cmpOk (d e : D) : Bool := okD 60 d && okD 60 e && PySem.W.alike d e && (match d with | .none => false | _ => true)
def ltD (d e : D) : Option D := if cmpOk d e = true then some (.bool (PySem.W.dataLt d e)) else none
def gtD (d e : D) : Option D := if cmpOk d e = true then some (.bool (PySem.W.dataLt e d)) else none
def leD (d e : D) : Option D := if cmpOk d e = true then some (.bool (!PySem.W.dataLt e d)) else none
def geD (d e : D) : Option D := if cmpOk d e = true then some (.bool (!PySem.W.dataLt d e)) else none
/-- the reading that says just that -/
def rOpD (K : PySem.W.Frag) (g : D → D → Option D) : R2 := fun x y H Q => ∃ (B : Addr → Prop) (d e z : D), (∀ p, H p = none → ¬ B p) ∧ HasK K B H x d ∧ HasK K B H y e ∧ g d e = some z ∧ ∀ v H', Same H H' → Has K B H' v z → Q v H'
theorem od_r {K : PySem.W.Frag} {g : D → D → Option D} : OpD K (rOpD K g) g := fun B _ _ _ d e z _ hf hx hy hg hq => ⟨B, d, e, z, hf, hx, hy, hg, hq⟩
def rUnD (K : PySem.W.Frag) (g : D → Option D) : V → Hp → VK → Prop := fun x H Q => ∃ (B : Addr → Prop) (d z : D), (∀ p, H p = none → ¬ B p) ∧ HasK K B H x d ∧ g d = some z ∧ ∀ v H', Same H H' → Has K B H' v z → Q v H'
theorem ud_r {K : PySem.W.Frag} {g : D → Option D} : UnD K (rUnD K g) g := fun B _ _ d z _ hf hx hg hq => ⟨B, d, z, hf, hx, hg, hq⟩
def rUnF (K : PySem.W.Frag) (g : D → Option Cell) : V → Hp → VK → Prop := fun x H Q => ∃ (B : Addr → Prop) (d : D) (z : Cell), (∀ p, H p = none → ¬ B p) ∧ HasK K B H x d ∧ g d = some z ∧ ∀ p H', Same H H' → H p = none → CellOk K (fun a => B a ∨ a = p) H' p z → Q (.ref p) H'
theorem uf_r {K : PySem.W.Frag} {g : D → Option Cell} : UnF K (rUnF K g) g := fun B _ _ d z _ hf hx hg hq => ⟨B, d, z, hf, hx, hg, hq⟩

section
variable {X : Cx} {pins : List (Addr × Obj)} {σ : L2.St} {H : Hp} {s : Shared} {B : Addr → Prop} {x : V} {v : Value} {d : D}
theorem HasK.reads (I : Inv X pins σ H s) (h : HasK X.K B H x d) (hd : okD 60 d = true) (r : RelV x v) : ∃ as, Reads s.heap v d as := Dp.reads I d x v (h.dp (okD_spec hd).1) r
theorem end_bl {Q : VK} {k : Bool} {z : D} (I : Inv X pins σ H s) (e : z = .bool k) (q : ∀ v H', Same H H' → Has X.K B H' v z → Q v H') : EP X pins σ Q (.bool k) s := by
  subst e
  exact ⟨.bl k, H, I, rfl, q _ H (Same.refl H) (.bl k)⟩
theorem op_eqR (hu : X.A.units + 64 < cLine) : OpR X (compareOp .Eq) (rOpD X.K eqD) := by
  intro pins s σ H x y v u Q I rx ry ⟨B, d, e, z, hf, hx, hy, hg, q⟩
  unfold eqD at hg
  split at hg
  · rename_i ho
    obtain ⟨as, r1⟩ := hx.reads I ho.1 rx
    obtain ⟨bs, r2⟩ := hy.reads I ho.2 ry
    have d1 := (okD_spec ho.1).2
    exact SeqAt.eq_plain r1 r2 (okD_spec ho.1).1 (okD_spec ho.2).1 (by have := Nat.min_le_left d.depth e.depth; omega) (end_bl I (Option.some.inj hg).symm q)
  · cases hg
theorem op_neR (hu : X.A.units + 64 < cLine) : OpR X (compareOp .NotEq) (rOpD X.K neD) := by
  intro pins s σ H x y v u Q I rx ry ⟨B, d, e, z, hf, hx, hy, hg, q⟩
  unfold neD at hg
  split at hg
  · rename_i ho
    obtain ⟨as, r1⟩ := hx.reads I ho.1 rx
    obtain ⟨bs, r2⟩ := hy.reads I ho.2 ry
    have d1 := (okD_spec ho.1).2
    exact SeqAt.ne_plain r1 r2 (okD_spec ho.1).1 (okD_spec ho.2).1 (by have := Nat.min_le_left d.depth e.depth; omega) (end_bl I (Option.some.inj hg).symm q)
  · cases hg
theorem cmpOk_spec {d e : D} (h : cmpOk d e = true) : okD 60 d = true ∧ okD 60 e = true ∧ PySem.W.alike d e = true ∧ d ≠ .none := by
  simp only [cmpOk, Bool.and_eq_true] at h
  obtain ⟨⟨⟨h1, h2⟩, h3⟩, h4⟩ := h
  refine ⟨h1, h2, h3, fun e => ?_⟩
  subst e
  simp at h4
theorem op_ltR (hu : X.A.units + 64 < cLine) : OpR X (compareOp .Lt) (rOpD X.K ltD) := by
  intro pins s σ H x y v u Q I rx ry ⟨B, d, e, z, hf, hx, hy, hg, q⟩
  unfold ltD at hg
  split at hg
  · rename_i ho
    obtain ⟨o1, o2, o3, o4⟩ := cmpOk_spec ho
    obtain ⟨as, r1⟩ := hx.reads I o1 rx
    obtain ⟨bs, r2⟩ := hy.reads I o2 ry
    have d1 := (okD_spec o1).2
    exact PySem.W.lt_data r1 r2 o3 o4 (by have := Nat.min_le_left d.depth e.depth; omega) (end_bl I (Option.some.inj hg).symm q)
  · cases hg
theorem op_gtR (hu : X.A.units + 64 < cLine) : OpR X (compareOp .Gt) (rOpD X.K gtD) := by
  intro pins s σ H x y v u Q I rx ry ⟨B, d, e, z, hf, hx, hy, hg, q⟩
  unfold gtD at hg
  split at hg
  · rename_i ho
    obtain ⟨o1, o2, o3, o4⟩ := cmpOk_spec ho
    obtain ⟨as, r1⟩ := hx.reads I o1 rx
    obtain ⟨bs, r2⟩ := hy.reads I o2 ry
    have d1 := (okD_spec o1).2
    exact PySem.W.gt_data r1 r2 o3 o4 (by have := Nat.min_le_left d.depth e.depth; omega) (end_bl I (Option.some.inj hg).symm q)
  · cases hg
theorem op_leR (hu : X.A.units + 64 < cLine) : OpR X (compareOp .LtE) (rOpD X.K leD) := by
  intro pins s σ H x y v u Q I rx ry ⟨B, d, e, z, hf, hx, hy, hg, q⟩
  unfold leD at hg
  split at hg
  · rename_i ho
    obtain ⟨o1, o2, o3, o4⟩ := cmpOk_spec ho
    obtain ⟨as, r1⟩ := hx.reads I o1 rx
    obtain ⟨bs, r2⟩ := hy.reads I o2 ry
    have d1 := (okD_spec o1).2
    exact PySem.W.le_data r1 r2 o3 o4 (by have := Nat.min_le_left d.depth e.depth; omega) (end_bl I (Option.some.inj hg).symm q)
  · cases hg
theorem op_geR (hu : X.A.units + 64 < cLine) : OpR X (compareOp .GtE) (rOpD X.K geD) := by
  intro pins s σ H x y v u Q I rx ry ⟨B, d, e, z, hf, hx, hy, hg, q⟩
  unfold geD at hg
  split at hg
  · rename_i ho
    obtain ⟨o1, o2, o3, o4⟩ := cmpOk_spec ho
    obtain ⟨as, r1⟩ := hx.reads I o1 rx
    obtain ⟨bs, r2⟩ := hy.reads I o2 ry
    have d1 := (okD_spec o1).2
    exact PySem.W.ge_data r1 r2 o3 o4 (by have := Nat.min_le_left d.depth e.depth; omega) (end_bl I (Option.some.inj hg).symm q)
  · cases hg
end

/-! ### in, not in -/
def inD (d e : D) : Option D := match e with
  | .list xs => if okD 60 d = true ∧ okD 60 (.list xs) = true then some (.bool (xs.any fun y => PyData.eqv y d)) else none
  | .tuple xs => if okD 60 d = true ∧ okD 60 (.tuple xs) = true then some (.bool (xs.any fun y => PyData.eqv y d)) else none
  | .str z => match d with
    | .str y => some (.bool (!(Builtin.Str.occurrences z y 0 z.length 1).isEmpty))
    | _ => none
  | _ => none
def notD (o : Option D) : Option D := match o with
  | some (.bool b) => some (.bool (!b))
  | _ => none
def ninD (d e : D) : Option D := notD (inD d e)
section
variable {X : Cx} {pins : List (Addr × Obj)} {σ : L2.St} {H : Hp} {s : Shared} {B : Addr → Prop} {x : V} {v : Value} {d : D}
theorem okD_seq {n : Nat} {xs : List D} (h : okD (n + 1) (.list xs) = true) : PyData.plainAll xs = true ∧ PyData.depthAll xs ≤ n := by
  simp only [okD, List.all_eq_true] at h
  exact ⟨plainAll_of fun d hd => (okD_spec (h d hd)).1, depthAll_of fun d hd => (okD_spec (h d hd)).2⟩
theorem op_inR (hu : X.A.units + 70 < cLine) : OpR X (compareOp .In) (rOpD X.K inD) := by
  intro pins s σ H x y v u Q I rx ry ⟨B, d, e, z, hf, hx, hy, hg, q⟩
  cases e with
  | list xs =>
    simp only [inD] at hg
    split at hg
    · rename_i ho
      obtain ⟨as, r1⟩ := hx.reads I ho.1 rx
      obtain ⟨bs, r2⟩ := hy.reads I ho.2 ry
      have o2 := okD_seq ho.2
      have d1 := (okD_spec ho.1).2
      exact SeqAt.in_list_data r2 r1 o2.1 (okD_spec ho.1).1 (by have := Nat.min_le_right (PyData.depthAll xs) d.depth; omega) (end_bl I (Option.some.inj hg).symm q)
    · cases hg
  | tuple xs =>
    simp only [inD] at hg
    split at hg
    · rename_i ho
      obtain ⟨as, r1⟩ := hx.reads I ho.1 rx
      obtain ⟨bs, r2⟩ := hy.reads I ho.2 ry
      have o2 := okD_seq (n := 59) (xs := xs) ho.2
      have d1 := (okD_spec ho.1).2
      exact SeqAt.in_tuple_data r2 r1 o2.1 (okD_spec ho.1).1 (by have := Nat.min_le_right (PyData.depthAll xs) d.depth; omega) (end_bl I (Option.some.inj hg).symm q)
    · cases hg
  | str w =>
    cases d with
    | str y' => exact op_in_str pins s σ H x y v u Q I rx ry ⟨y', w, hx.str, hy.str, by
        cases hg
        exact q _ H (Same.refl H) (.bl _)⟩
    | _ => cases hg
  | _ => cases hg
theorem op_ninR (hu : X.A.units + 70 < cLine) : OpR X (compareOp .NotIn) (rOpD X.K ninD) := by
  intro pins s σ H x y v u Q I rx ry ⟨B, d, e, z, hf, hx, hy, hg, q⟩
  cases e with
  | list xs =>
    simp only [ninD, inD] at hg
    split at hg
    · rename_i ho
      obtain ⟨as, r1⟩ := hx.reads I ho.1 rx
      obtain ⟨bs, r2⟩ := hy.reads I ho.2 ry
      have o2 := okD_seq ho.2
      have d1 := (okD_spec ho.1).2
      exact SeqAt.notIn_list_data r2 r1 o2.1 (okD_spec ho.1).1 (by have := Nat.min_le_right (PyData.depthAll xs) d.depth; omega) (end_bl I (Option.some.inj hg).symm q)
    · cases hg
  | tuple xs =>
    simp only [ninD, inD] at hg
    split at hg
    · rename_i ho
      obtain ⟨as, r1⟩ := hx.reads I ho.1 rx
      obtain ⟨bs, r2⟩ := hy.reads I ho.2 ry
      have o2 := okD_seq (n := 59) (xs := xs) ho.2
      have d1 := (okD_spec ho.1).2
      exact SeqAt.notIn_tuple_data r2 r1 o2.1 (okD_spec ho.1).1 (by have := Nat.min_le_right (PyData.depthAll xs) d.depth; omega) (end_bl I (Option.some.inj hg).symm q)
    · cases hg
  | str w =>
    cases d with
    | str y' => exact op_notin_str pins s σ H x y v u Q I rx ry ⟨y', w, hx.str, hy.str, by
        cases hg
        exact q _ H (Same.refl H) (.bl _)⟩
    | _ => cases hg
  | _ => cases hg

/-! ### is, is not: against None, True, False -/
def isNoneD : D → Bool
  | .none => true
  | _ => false
def isBoolD (b : Bool) : D → Bool
  | .bool a => a == b
  | _ => false
def isD (d e : D) : Option D := match e with
  | .none => some (.bool (isNoneD d))
  | .bool b => some (.bool (isBoolD b d))
  | _ => none
def nisD (d e : D) : Option D := notD (isD d e)
theorem HasK.isN {K : PySem.W.Frag} {x : V} {d : D} (h : HasK K B H x d) : decide (x = .non) = isNoneD d := by
  rcases h with h | ⟨p, c, rfl, ok, e⟩
  · cases h <;> rfl
  · subst e
    cases c <;> rfl
/-- a value that stands for no truth value is none -/
theorem HasK.isB {K : PySem.W.Frag} {x : V} {d : D} {v : Value} (h : HasK K B H x d) (r : RelV x v) (b : Bool) : plainIs v (.bool b) = true ∧ (v == .bool b) = isBoolD b d := by
  rcases h with h | ⟨p, c, rfl, ok, e⟩
  · cases h with
    | non => cases r; exact ⟨rfl, rfl⟩
    | bl a => cases r; exact ⟨rfl, by cases a <;> cases b <;> rfl⟩
    | int i => obtain ⟨t, rfl⟩ := r; exact ⟨rfl, rfl⟩
    | str i => obtain ⟨t, rfl⟩ := r; exact ⟨rfl, rfl⟩
    | lst _ _ => cases r; exact ⟨rfl, rfl⟩
    | tup _ _ => cases r; exact ⟨rfl, rfl⟩
    | dK _ _ _ _ _ => cases r; exact ⟨rfl, rfl⟩
    | dT _ _ _ _ _ => cases r; exact ⟨rfl, rfl⟩
  · subst e
    cases r
    cases c <;> exact ⟨rfl, rfl⟩
theorem op_isR : OpR X (compareOp .Is) (rOpD X.K isD) := by
  intro pins s σ H x y v u Q I rx ry ⟨B, d, e, z, hf, hx, hy, hg, q⟩
  cases e with
  | none =>
    have ey := hy.non
    subst ey
    cases ry
    refine is_none_gen (end_bl I ?_ q)
    rw [rx.none_iff, hx.isN]
    exact (Option.some.inj hg).symm
  | bool b =>
    have ey := hy.bl
    subst ey
    cases ry
    obtain ⟨h1, h2⟩ := hx.isB rx b
    refine wpAny_is_plain h1 (end_bl I ?_ q)
    rw [h2]
    exact (Option.some.inj hg).symm
  | _ => cases hg
theorem op_nisR : OpR X (compareOp .IsNot) (rOpD X.K nisD) := by
  intro pins s σ H x y v u Q I rx ry ⟨B, d, e, z, hf, hx, hy, hg, q⟩
  cases e with
  | none =>
    have ey := hy.non
    subst ey
    cases ry
    refine isnot_none_gen (end_bl I ?_ q)
    rw [rx.none_iff, hx.isN]
    exact (Option.some.inj hg).symm
  | bool b =>
    have ey := hy.bl
    subst ey
    cases ry
    obtain ⟨h1, h2⟩ := hx.isB rx b
    refine wpAny_isNot_plain h1 (end_bl I ?_ q)
    rw [h2]
    exact (Option.some.inj hg).symm
  | _ => cases hg
end

/-! ### xs[i] -/
def strAt (z : Str) (i : Int) : Option D := if z.length ≤ 16777216 then (atI z.cps.toList i).map fun c => PyData.str ⟨#[c]⟩ else none
def ixD : D → D → Option D
  | .list xs, .int i => atI xs i
  | .tuple xs, .int i => atI xs i
  | .str z, .int i => strAt z i
  | _, _ => none
theorem HasL.atI {K : PySem.W.Frag} {B : Addr → Prop} {H : Hp} {vs : List V} {ds : List D} (h : HasL K B H vs ds) {i : Int} {d : D} (e : L2.atI ds i = some d) : ∃ v, L2.atI vs i = some v ∧ Has K B H v d := by
  unfold L2.atI at e ⊢
  rw [h.length]
  cases hj : ixN ds.length i with
  | none => rw [hj] at e; cases e
  | some j =>
    rw [hj] at e
    exact h.get e
theorem od_ix {K : PySem.W.Frag} : OpD K (rIx K) ixD := by
  intro B H x y d e z Q hf hx hy hg hq
  cases d <;> cases e <;> try (simp [ixD] at hg)
  · rename_i w i
    unfold strAt at hg
    split at hg
    · rename_i hl
      cases hc : L2.atI w.cps.toList i with
      | none => rw [hc] at hg; cases hg
      | some c =>
        rw [hc] at hg
        cases hg
        exact .inr (.inr ⟨w, i, c, hx.str, hy.int, hl, hc, hq _ H (Same.refl H) (.str _)⟩)
    · cases hg
  · rename_i xs i
    obtain ⟨a, vs, rfl, r1, s1, h1⟩ := hx.lst
    obtain ⟨v, e1, hv⟩ := h1.atI hg
    exact .inl ⟨a, vs, i, v, rfl, hy.int, s1, e1, hq v H (Same.refl H) hv⟩
  · rename_i xs i
    obtain ⟨a, vs, rfl, r1, s1, h1⟩ := hx.tup.tup_inv
    obtain ⟨v, e1, hv⟩ := h1.atI hg
    exact .inr (.inl ⟨a, vs, i, v, rfl, hy.int, s1, e1, hq v H (Same.refl H) hv⟩)

/-! ### xs[a:b] -/
def cutD {α : Type} (xs : List α) (lo hi : Option Int) : List α := (xs.drop (HT.sIx xs.length 0 lo)).take (HT.sIx xs.length xs.length hi - HT.sIx xs.length 0 lo)
def slD : D → Option Int → Option Int → Option D
  | .list xs, lo, hi => some (.list (cutD xs lo hi))
  | .tuple xs, lo, hi => some (.tuple (cutD xs lo hi))
  | .str z, lo, hi => if z.length ≤ 16777216 then some (.str (cutS z lo hi)) else none
  | _, _, _ => none
def slF : D → Option Int → Option Int → Option Cell
  | .list xs, lo, hi => some (.lst (cutD xs lo hi))
  | _, _, _ => none
theorem HasL.cut {K : PySem.W.Frag} {B : Addr → Prop} {H : Hp} {vs : List V} {ds : List D} (h : HasL K B H vs ds) (lo hi : Option Int) : HasL K B H (cutV vs lo hi) (cutD ds lo hi) := by
  unfold cutV cutD
  rw [h.length]
  exact (h.drop _).take _
theorem cutD_whole {α : Type} (xs : List α) (lo hi : Option Int) (h : HT.sIx xs.length 0 lo = 0 ∧ HT.sIx xs.length xs.length hi = xs.length) : cutD xs lo hi = xs := by
  unfold cutD
  rw [h.1, h.2]
  simp
def rSl (K : PySem.W.Frag) : V → Option Int → Option Int → Hp → VK → Prop := fun x lo hi H Q => rSlL K x lo hi H Q ∨ rSlA K x lo hi H Q ∨ rSlS x lo hi H Q
theorem sl_any {X : Cx} : SlR X (rSl X.K) := sl_list.or (sl_tupA.or sl_str)
def SlD (K : PySem.W.Frag) (r : V → Option Int → Option Int → Hp → VK → Prop) (g : D → Option Int → Option Int → Option D) : Prop :=
  ∀ (B : Addr → Prop) (H : Hp) (x : V) (lo hi : Option Int) (d z : D) (Q : VK), (∀ p, H p = none → ¬ B p) → HasK K B H x d → g d lo hi = some z → (∀ v H', Same H H' → Has K B H' v z → Q v H') → r x lo hi H Q
def SlF (K : PySem.W.Frag) (r : V → Option Int → Option Int → Hp → VK → Prop) (g : D → Option Int → Option Int → Option Cell) : Prop :=
  ∀ (B : Addr → Prop) (H : Hp) (x : V) (lo hi : Option Int) (d : D) (z : Cell) (Q : VK), (∀ p, H p = none → ¬ B p) → HasK K B H x d → g d lo hi = some z →
    (∀ p H', Same H H' → H p = none → CellOk K (fun a => B a ∨ a = p) H' p z → Q (.ref p) H') → r x lo hi H Q
theorem sf_sl {K : PySem.W.Frag} : SlF K (rSlL K) slF := by
  intro B H x lo hi d z Q hf hx hg hq
  cases d <;> try (simp [slF] at hg)
  subst hg
  obtain ⟨a, vs, rfl, r1, s1, h1⟩ := hx.lst
  refine ⟨a, vs, rfl, s1, fun p hp => hq p _ (same_upd hp) hp ⟨_, upd_same, ?_⟩⟩
  have x1 : Ext B H (fun a => B a ∨ a = p) (upd H p (.lst (cutV vs lo hi))) := fun c o hc ho => ⟨fun z => z.elim hc (ne_of_none ho hp), (same_upd hp) _ _ ho⟩
  exact (h1.ext x1).cut lo hi
theorem sd_sl {K : PySem.W.Frag} : SlD K (rSl K) slD := by
  intro B H x lo hi d z Q hf hx hg hq
  cases d <;> try (simp [slD] at hg)
  · obtain ⟨hl, rfl⟩ := hg
    exact .inr (.inr ⟨_, hx.str, hl, hq _ H (Same.refl H) (.str _)⟩)
  · subst hg
    rename_i xs
    refine .inl (sf_sl B H x lo hi (.list xs) (.lst (cutD xs lo hi)) Q hf hx rfl fun p H' s hp ok => ?_)
    have ok' : CellOk K B H' p (.lst (cutD xs lo hi)) := ok.ext (fun a o h e => ⟨fun z => h (.inl z), e⟩) rfl
    exact hq _ H' s (ok'.has (hf p hp))
  · subst hg
    rename_i xs
    obtain ⟨a, vs, rfl, r1, s1, h1⟩ := hx.tup.tup_inv
    refine .inr (.inl ⟨a, vs, rfl, s1, fun hw => ?_, fun hw p hp => hq _ _ (same_upd hp) (.tup (.inl ⟨hf p hp, .inl upd_same⟩) ((h1.same (same_upd hp)).cut lo hi))⟩)
    rw [h1.length] at hw
    rw [cutD_whole xs lo hi hw] at hq
    exact hq _ H (Same.refl H) (.tup r1 h1)
/-- a slice's part -/
def M.part (m : M D) : M (Option Int) := m.bind fun d => match d with
  | .int i => .ret (some i)
  | _ => fun _ => none
section
variable {X : Cx} {G : Gc} {W : WX} {a b e : Expr} {es : List Expr} {ma mb : M D} {pos p2 : Pos} {lo hi : Option Expr} {ml mh : M (Option Int)}
def tPt (G : Gc) (W : WX) (m : M (Option Int)) : TO := fun σ H Q => ∃ ρ f r, Rel G σ H ρ f ∧ m ρ = some r ∧
  Out r (fun o ρ' => ∀ H', Rel G σ H' ρ' f → Ext (Bad G ρ f) H (Bad G ρ' f) H' → Q o H') (fun c ρ' => XP G W σ c ρ' f)
abbrev DP (X : Cx) (G : Gc) (W : WX) (e : Option Expr) (m : M (Option Int)) : Prop := PO X e (tPt G W m)
theorem impO {t t' : TO} (h : PO X lo t) (w : ∀ σ H Q, t' σ H Q → t σ H Q) : PO X lo t' := ⟨fun pins s σ H Q I hq => h.run pins s σ H Q I (w σ H Q hq)⟩
theorem dp_none : DP X G W none (M.ret none) := impO po_none fun σ H Q ⟨ρ, f, r, R, hm, hp⟩ => by
  cases (Option.some.inj hm)
  exact hp H R (Ext.refl _ _)
theorem dp_some (h : DE X G W e ma) : DP X G W (some e) (M.part ma) := impO (po_some h) fun σ H Q ⟨ρ, f, r, R, hm, hp⟩ => by
  refine tD_bind R hm (xok hp) fun d ρ1 v H1 hk R1 x1 hv => ?_
  cases d <;> try (cases hk)
  exact ⟨_, hv.int_inv, hp H1 R1 x1⟩
theorem tP_bind {α : Type} {m : M (Option Int)} {k : Option Int → M α} {ρ : Rho} {f : Nat → Addr} {r : R α} {σ : L2.St} {H : Hp} {Q : Option Int → Hp → Prop} (Rl : Rel G σ H ρ f) (h : M.bind m k ρ = some r) (hx : ∀ c ρ', r = .exc c ρ' → XP G W σ c ρ' f)
    (hk : ∀ d ρ' H', k d ρ' = some r → Rel G σ H' ρ' f → Ext (Bad G ρ f) H (Bad G ρ' f) H' → Q d H') : tPt G W m σ H Q := by
  rcases bind_inv h with ⟨c, ρ', e1, e2⟩ | ⟨d, ρ', e1, e2⟩
  · exact ⟨ρ, f, _, Rl, e1, hx c ρ' e2⟩
  · exact ⟨ρ, f, _, Rl, e1, fun H' R' x => hk d ρ' H' e2 R' x⟩
def M.sl (ma : M D) (ml mh : M (Option Int)) : M D := ma.bind fun x => ml.bind fun l => mh.bind fun h => .lift (slD x l h)
def M.slF (ma : M D) (ml mh : M (Option Int)) : M Cell := ma.bind fun x => ml.bind fun l => mh.bind fun h => .lift (DL.slF x l h)
theorem de_slice (ha : DE X G W a ma) (hl : DP X G W lo ml) (hh : DP X G W hi mh) (hk : X.K = G.K := by rfl) : DE X G W (.Subscript a (.Slice lo hi none p2) pos) (M.sl ma ml mh) := by
  refine imp (pe_slice sl_any ha hl hh) ?_
  rintro σ H Q ⟨ρ, f, s, R, hm, hp⟩
  have hx := xok hp
  refine tD_bind R hm hx fun x ρ1 v H1 hk1 R1 x1 hv => ?_
  refine tP_bind R1 hk1 hx fun l ρ2 H2 hk2 R2 x2 => ?_
  refine tP_bind R2 hk2 hx fun h ρ3 H3 hk3 R3 x3 => ?_
  obtain ⟨z, e, er⟩ := lift_inv hk3
  subst er
  rw [hk]
  exact sd_sl (Bad G ρ3 f) H3 v l h x z Q (fun p hp => R3.free hp) (.inl ((hv.ext x2).ext x3)) e (fun w H4 s hw => hp w H4 (R3.same s) (((x1.trans x2).trans x3).trans (Ext.same s)) hw)
theorem df_slice (ha : DE X G W a ma) (hl : DP X G W lo ml) (hh : DP X G W hi mh) (hk : X.K = G.K := by rfl) : DF X G W (.Subscript a (.Slice lo hi none p2) pos) (M.slF ma ml mh) := by
  refine imp (pe_slice sl_list ha hl hh) ?_
  rintro σ H Q ⟨ρ, f, s, R, hm, hp⟩
  have hx := xok hp
  refine tD_bind R hm hx fun x ρ1 v H1 hk1 R1 x1 hv => ?_
  refine tP_bind R1 hk1 hx fun l ρ2 H2 hk2 R2 x2 => ?_
  refine tP_bind R2 hk2 hx fun h ρ3 H3 hk3 R3 x3 => ?_
  obtain ⟨z, e, er⟩ := lift_inv hk3
  subst er
  rw [hk]
  exact sf_sl (Bad G ρ3 f) H3 v l h x z Q (fun p hp => R3.free hp) (.inl ((hv.ext x2).ext x3)) e (fun p H4 s h0 ok => hp p H4 (.mk' R3 h0 s ok) (((x1.trans x2).trans x3).trans (Ext.fresh h0 s)))
end
section
variable {X : Cx} {G : Gc} {W : WX} {a b e : Expr} {es : List Expr} {ma mb : M D} {pos : Pos} {k : Nat}
theorem de_sub (ha : DE X G W a ma) (hb : DK X G W b mb) (hk : X.K = G.K := by rfl) : DE X G W (.BinOp a .Sub b pos) (M.bin subD ma mb) := de_op op_sub od_int0 ha hb hk
theorem de_fdiv (ha : DE X G W a ma) (hb : DK X G W b mb) (hk : X.K = G.K := by rfl) : DE X G W (.BinOp a .FloorDiv b pos) (M.bin fdivD ma mb) := de_op op_fdivW (od_int fun i j h => by simpa [okDiv, CDivW] using h) ha hb hk
theorem de_mod (ha : DE X G W a ma) (hb : DK X G W b mb) (hk : X.K = G.K := by rfl) : DE X G W (.BinOp a .Mod b pos) (M.bin modD ma mb) := de_op op_mod (od_int fun i j h => by simpa [okMod] using h) ha hb hk
theorem de_pow (ha : DE X G W a ma) (hb : DK X G W b mb) (hk : X.K = G.K := by rfl) : DE X G W (.BinOp a .Pow b pos) (M.bin powD ma mb) := de_op op_pow (od_int fun i j h => by simpa [okPow, CPow, and_assoc] using h) ha hb hk
theorem de_shl (ha : DE X G W a ma) (hb : DK X G W b mb) (hk : X.K = G.K := by rfl) : DE X G W (.BinOp a .LShift b pos) (M.bin shlD ma mb) := de_op op_shl (od_int fun i j h => by simpa [okPow, CPow, and_assoc] using h) ha hb hk
theorem de_shr (ha : DE X G W a ma) (hb : DK X G W b mb) (hk : X.K = G.K := by rfl) : DE X G W (.BinOp a .RShift b pos) (M.bin shrD ma mb) := de_op op_shr (od_int fun i j h => by simpa [okShr] using h) ha hb hk
theorem de_band (ha : DE X G W a ma) (hb : DK X G W b mb) (hk : X.K = G.K := by rfl) : DE X G W (.BinOp a .BitAnd b pos) (M.bin andD ma mb) := de_op op_and od_int0 ha hb hk
theorem de_xor (ha : DE X G W a ma) (hb : DK X G W b mb) (hk : X.K = G.K := by rfl) : DE X G W (.BinOp a .BitXor b pos) (M.bin xorD ma mb) := de_op op_xor od_int0 ha hb hk
def negD : D → Option D
  | .int i => some (.int (-i))
  | _ => none
theorem ud_neg {K : PySem.W.Frag} : UnD K (rU fun i => .int (-i)) negD := by
  intro B H x d z Q hf hx hg hq
  cases d <;> try (simp [negD] at hg)
  subst hg
  exact ⟨_, hx.int, hq _ H (Same.refl H) (.int _)⟩
theorem de_neg (ha : DK X G W a ma) (hk : X.K = G.K := by rfl) : DE X G W (.UnaryOp .USub a pos) (M.un negD ma) := de_unop un_neg ud_neg ha hk
theorem units64 (hr : Room k X.A) : X.A.units + 64 < cLine := hr.units
theorem units70 (hr : Room k X.A) : X.A.units + 70 < cLine := by have := hr.un; omega
theorem de_eq (hr : Room k X.A) (ha : DE X G W a ma) (hb : DK X G W b mb) (hk : X.K = G.K := by rfl) : DE X G W (.Compare a [.Eq] [b] pos) (M.bin eqD ma mb) := de_cmp (op_eqR (units64 hr)) od_r ha hb (nomark _) hk
theorem de_ne (hr : Room k X.A) (ha : DE X G W a ma) (hb : DK X G W b mb) (hk : X.K = G.K := by rfl) : DE X G W (.Compare a [.NotEq] [b] pos) (M.bin neD ma mb) := de_cmp (op_neR (units64 hr)) od_r ha hb (nomark _) hk
theorem de_lt (hr : Room k X.A) (ha : DE X G W a ma) (hb : DK X G W b mb) (hk : X.K = G.K := by rfl) : DE X G W (.Compare a [.Lt] [b] pos) (M.bin ltD ma mb) := de_cmp (op_ltR (units64 hr)) od_r ha hb (nomark _) hk
theorem de_gt (hr : Room k X.A) (ha : DE X G W a ma) (hb : DK X G W b mb) (hk : X.K = G.K := by rfl) : DE X G W (.Compare a [.Gt] [b] pos) (M.bin gtD ma mb) := de_cmp (op_gtR (units64 hr)) od_r ha hb (nomark _) hk
theorem de_le (hr : Room k X.A) (ha : DE X G W a ma) (hb : DK X G W b mb) (hk : X.K = G.K := by rfl) : DE X G W (.Compare a [.LtE] [b] pos) (M.bin leD ma mb) := de_cmp (op_leR (units64 hr)) od_r ha hb (nomark _) hk
theorem de_ge (hr : Room k X.A) (ha : DE X G W a ma) (hb : DK X G W b mb) (hk : X.K = G.K := by rfl) : DE X G W (.Compare a [.GtE] [b] pos) (M.bin geD ma mb) := de_cmp (op_geR (units64 hr)) od_r ha hb (nomark _) hk
theorem de_in (hr : Room k X.A) (ha : DE X G W a ma) (hb : DK X G W b mb) (hm : behindInMarks .In b = false := by rfl) (hk : X.K = G.K := by rfl) : DE X G W (.Compare a [.In] [b] pos) (M.bin inD ma mb) := de_cmp (op_inR (units70 hr)) od_r ha hb hm hk
theorem de_nin (hr : Room k X.A) (ha : DE X G W a ma) (hb : DK X G W b mb) (hm : behindInMarks .NotIn b = false := by rfl) (hk : X.K = G.K := by rfl) : DE X G W (.Compare a [.NotIn] [b] pos) (M.bin ninD ma mb) := de_cmp (op_ninR (units70 hr)) od_r ha hb hm hk
theorem de_is (ha : DE X G W a ma) (hb : DK X G W b mb) (hk : X.K = G.K := by rfl) : DE X G W (.Compare a [.Is] [b] pos) (M.bin isD ma mb) := de_cmp op_isR od_r ha hb (nomark _) hk
theorem de_nis (ha : DE X G W a ma) (hb : DK X G W b mb) (hk : X.K = G.K := by rfl) : DE X G W (.Compare a [.IsNot] [b] pos) (M.bin nisD ma mb) := de_cmp op_nisR od_r ha hb (nomark _) hk
theorem de_ix (ha : DE X G W a ma) (hb : DK X G W b mb) (hs : PlainIx b := by exact fun _ _ => rfl) (hk : X.K = G.K := by rfl) : DE X G W (.Subscript a b pos) (M.bin ixD ma mb) := de_ixR ix_seq od_ix ha hb hs hk
end
end DL
namespace DL
open PySem PySem.Spec PyProof.Rows L2

/-! ### slots -/
theorem get_set {α : Type} {l : List α} {i j : Nat} {x y : α} (h : (l.set i x)[j]? = some y) : (j = i ∧ y = x ∧ i < l.length) ∨ (j ≠ i ∧ l[j]? = some y) := by
  rw [List.getElem?_set] at h
  by_cases e : i = j
  · subst e
    rw [if_pos rfl] at h
    split at h
    · rename_i hl
      exact .inl ⟨rfl, (Option.some.inj h).symm, hl⟩
    · cases h
  · rw [if_neg e] at h
    exact .inr ⟨fun z => e z.symm, h⟩
section
variable {G : Gc} {σ : L2.St} {H : Hp} {ρ : Rho} {f : Nat → Addr} {i : Nat} {c : Cell}
/-- an object of the frame is data from now on -/
theorem Rel.freeze (R : Rel G σ H ρ f) (h : ρ[i]? = some (some (.mut true c))) :
    Rel G σ H (ρ.set i (some (.dat (cellD c)))) f ∧ Ext (Bad G ρ f) H (Bad G (ρ.set i (some (.dat (cellD c)))) f) H ∧ Has G.K (Bad G (ρ.set i (some (.dat (cellD c)))) f) H (.ref (f i)) (cellD c) := by
  obtain ⟨hσ, hc⟩ := R.mutAt h
  obtain ⟨hA, h0⟩ := R.own i c h
  have sub : ∀ a, Bad G (ρ.set i (some (.dat (cellD c)))) f a → Bad G ρ f a := fun a z => by
    rcases z with z | ⟨j, c', e, z⟩
    · exact .inl z
    · rcases get_set e with ⟨_, e2, _⟩ | ⟨_, e2⟩
      · cases e2
      · exact .inr ⟨j, c', e2, z⟩
  have x : Ext (Bad G ρ f) H (Bad G (ρ.set i (some (.dat (cellD c)))) f) H := fun a o hb e => ⟨fun z => hb (sub a z), e⟩
  have hb : ¬ Bad G (ρ.set i (some (.dat (cellD c)))) f (f i) := fun z => by
    rcases z with z | ⟨j, c', e, z⟩
    · exact hA z
    · rcases get_set e with ⟨_, e2, _⟩ | ⟨hj, e2⟩
      · cases e2
      · exact hj (R.inj j i _ _ _ _ e2 h z.symm)
  have hh : Has G.K (Bad G (ρ.set i (some (.dat (cellD c)))) f) H (.ref (f i)) (cellD c) := (hc.ext x rfl).has hb
  refine ⟨⟨?_, R.keep, R.dom, fun j c' e => ?_, fun j k b c' b' c'' e1 e2 z => ?_, fun j c' e => ?_, fun p hp => ?_, fun j s e => ?_⟩, x, hh⟩
  · rw [List.length_set]; exact R.len
  · rcases get_set e with ⟨_, e2, _⟩ | ⟨_, e2⟩
    · cases e2
    · exact R.own j c' e2
  · rcases get_set e1 with ⟨_, e3, _⟩ | ⟨_, e3⟩
    · cases e3
    · rcases get_set e2 with ⟨_, e4, _⟩ | ⟨_, e4⟩
      · cases e4
      · exact R.inj j k _ _ _ _ e3 e4 z
  · rcases get_set e with ⟨_, e2, _⟩ | ⟨_, e2⟩
    · cases e2
    · exact R.inn j c' e2
  · obtain ⟨c', e1, e2⟩ := R.innB p hp
    refine ⟨c', ?_, e2⟩
    have ne : i ≠ p.1 := fun z => by
      rw [← z, h] at e1
      cases e1
    rw [List.getElem?_set_ne ne]
    exact e1
  · rcases get_set e with ⟨e1, e2, _⟩ | ⟨hj, e2⟩
    · subst e1; cases e2
      exact ⟨_, hσ, hh⟩
    · obtain ⟨v, e3, h3⟩ := R.sl j s e2
      exact ⟨v, e3, h3.ext x fun _ => rfl⟩
end

/-! ### names, constants -/
def varM (i : Nat) : M D := fun ρ => match ρ[i]? with
  | some (some (.dat d)) => some (.val d ρ)
  | some (some (.mut true c)) => some (.val (cellD c) (ρ.set i (some (.dat (cellD c)))))
  | _ => none
/-- looked at -/
def pkM (i : Nat) : M D := fun ρ => match ρ[i]? with
  | some (some (.dat d)) => some (.val d ρ)
  | some (some (.mut _ c)) => some (.val (cellD c) ρ)
  | _ => none
section
variable {X : Cx} {G : Gc} {W : WX} {a b c e : Expr} {es : List Expr} {m ma mb mc : M D} {mt mu : M Bool} {pos : Pos} {k : Nat}
theorem tv_imp (i : Nat) : ∀ σ H Q, tD G W (varM i) σ H Q → tVar i σ H Q := by
  rintro σ H Q ⟨ρ, f, r, R, hm, hp⟩
  unfold varM at hm
  split at hm
  · rename_i d e
    cases hm
    obtain ⟨v, e1, h1⟩ := R.sl i _ e
    exact ⟨v, e1, hp v H R (Ext.refl _ _) h1⟩
  · rename_i c e
    cases hm
    obtain ⟨R', x, hh⟩ := R.freeze e
    exact ⟨_, (R.mutAt e).1, hp _ H R' x hh⟩
  · cases hm
theorem tk_imp (i : Nat) : ∀ σ H Q, tK G W (pkM i) σ H Q → tVar i σ H Q := by
  rintro σ H Q ⟨ρ, f, r, R, hm, hp⟩
  unfold pkM at hm
  split at hm
  · rename_i d e
    cases hm
    obtain ⟨v, e1, h1⟩ := R.sl i _ e
    exact ⟨v, e1, hp v H R (Ext.refl _ _) (.inl h1)⟩
  · rename_i b c e
    cases hm
    obtain ⟨e1, h1⟩ := R.mutAt e
    exact ⟨_, e1, hp _ H R (Ext.refl _ _) (.inr ⟨_, c, rfl, h1, rfl⟩)⟩
  · cases hm
theorem dv (i : Nat) {x : Str} {pos : Pos} (hN : X.N[i]? = some x := by rfl) (hv : Vis X.env.scope x := by first | exact Or.inl rfl | exact Or.inr (Or.inl rfl) | exact Or.inr (Or.inr rfl)) (hd : (x == ("__debug__" : Str)) = false := by decide)
    (hcd : (x == ("__classdict__" : Str)) = false := by decide) : DE X G W (.Name x pos) (varM i) := imp (pv i hN hv hd hcd) (tv_imp i)
theorem dpk (i : Nat) {x : Str} {pos : Pos} (hN : X.N[i]? = some x := by rfl) (hv : Vis X.env.scope x := by first | exact Or.inl rfl | exact Or.inr (Or.inl rfl) | exact Or.inr (Or.inr rfl)) (hd : (x == ("__debug__" : Str)) = false := by decide)
    (hcd : (x == ("__classdict__" : Str)) = false := by decide) : DK X G W (.Name x pos) (pkM i) := imp (pv i hN hv hd hcd) (tk_imp i)
theorem tc_imp {v : V} {d : D} (h : ∀ B H, Has G.K B H v d) : ∀ σ H Q, tD G W (M.ret d) σ H Q → tC v σ H Q := by
  rintro σ H Q ⟨ρ, f, r, R, hm, hp⟩
  cases hm
  exact hp v H R (Ext.refl _ _) (h _ _)
theorem de_int {i : Int} {j : Nat} : DE X G W (.Constant (.int i) j pos) (M.ret (.int i)) := imp pe_int (tc_imp fun _ _ => .int i)
theorem de_bl {b : Bool} {j : Nat} : DE X G W (.Constant (.bool b) j pos) (M.ret (.bool b)) := imp pe_bl (tc_imp fun _ _ => .bl b)
theorem de_non {j : Nat} : DE X G W (.Constant .none j pos) (M.ret .none) := imp pe_non (tc_imp fun _ _ => .non)
theorem de_str {x : Str} {j : Nat} : DE X G W (.Constant (.str x) j pos) (M.ret (.str x)) := imp pe_str (tc_imp fun _ _ => .str x)
/-- a constant of the module -/
def Con (K : PySem.W.Frag) (mg : Str → Option Value) (x : Str) (d : D) : Prop := ∃ v u, mg x = some u ∧ RelV v u ∧ ∀ B H, Has K B H v d
theorem de_con {x : Str} {d : D} (c : Con X.K X.mg x d) (hg : Gl X x := by rfl) (hd : (x == ("__debug__" : Str)) = false := by decide) (hk : X.K = G.K := by rfl) : DE X G W (.Name x pos) (M.ret d) := by
  obtain ⟨v, u, h1, h2, h3⟩ := c
  exact imp (pe_glob hg h1 h2 hd) (tc_imp fun B H => hk ▸ h3 B H)

/-! ### displays -/
def M.cons (ma : M D) (mr : M (List D)) : M (List D) := ma.bind fun x => mr.bind fun xs => .ret (x :: xs)
theorem da_nil : DA X G W [] (M.ret []) := impA pa_nil fun σ H Q ⟨ρ, f, r, R, hm, hp⟩ => by
  cases hm
  exact hp [] H R (Ext.refl _ _) .nil
theorem da_cons {mr : M (List D)} (ha : DE X G W e m) (hr : DA X G W es mr) (hs : starEach (e :: es) X.env = (false, eval e X.env) :: starEach es X.env := by rfl) : DA X G W (e :: es) (M.cons m mr) := by
  refine impA (pa_cons ha hr hs) ?_
  rintro σ H Q ⟨ρ, f, r, R, hm, hp⟩
  have hx := xok hp
  refine tD_bind R hm hx fun x ρ1 v H1 hk1 R1 x1 hv => ?_
  refine tA_bind R1 hk1 hx fun xs ρ2 vs H2 hk2 R2 x2 hvs => ?_
  cases hk2
  exact hp _ _ R2 (x1.trans x2) (.cons (hv.ext x2) hvs)
def tupD (ds : List D) : Option D := if ds.length ≤ 16777216 then some (.tuple ds) else none
def lstF (ds : List D) : Option Cell := if ds.length ≤ 16777216 then some (.lst ds) else none
def M.tup (m : M (List D)) : M D := m.bind fun ds => .lift (tupD ds)
def M.lst (m : M (List D)) : M Cell := m.bind fun ds => .lift (lstF ds)
theorem de_tup {x1 : Nat} {ms : M (List D)} (h : DA X G W es ms) : DE X G W (.Tuple es x1 pos) (M.tup ms) := by
  refine imp (pe_tup h) ?_
  rintro σ H Q ⟨ρ, f, r, R, hm, hp⟩
  refine tA_bind R hm (xok hp) fun ds ρ1 vs H1 hk R1 x1 hv => ?_
  obtain ⟨z, e, er⟩ := lift_inv hk
  subst er
  unfold tupD at e
  split at e
  · rename_i hl
    cases e
    refine ⟨by rw [hv.length]; exact hl, fun p h0 => hp _ _ (R1.same (same_upd h0)) (x1.trans (Ext.same (same_upd h0))) (.tup (.inl ⟨R1.free h0, .inl upd_same⟩) (hv.same (same_upd h0)))⟩
  · cases e
theorem df_lst {ms : M (List D)} (h : DA X G W es ms) : DF X G W (.List es pos) (M.lst ms) := by
  refine imp (pe_lst h) ?_
  rintro σ H Q ⟨ρ, f, r, R, hm, hp⟩
  refine tA_bind R hm (xok hp) fun ds ρ1 vs H1 hk R1 x1 hv => ?_
  obtain ⟨z, e, er⟩ := lift_inv hk
  subst er
  unfold lstF at e
  split at e
  · rename_i hl
    cases e
    refine ⟨by rw [hv.length]; exact hl, fun p h0 => hp _ _ (.mk' R1 h0 (same_upd h0) ⟨vs, upd_same, hv.ext fun a o hb e => ⟨fun z => z.elim hb (ne_of_none e h0), (same_upd h0) _ _ e⟩⟩) (x1.trans (Ext.fresh h0 (same_upd h0)))⟩
  · cases e

/-! ### tests -/
def boolD : D → Option Bool
  | .bool b => some b
  | _ => none
/-- truth -/
def truD : D → Option Bool
  | .none => some false
  | .bool b => some b
  | .int i => some (i != 0)
  | .str y => if y.length ≤ 16777216 then some ((y.length : Int) != 0) else none
  | .list xs => some (!xs.isEmpty)
  | .tuple xs => some (!xs.isEmpty)
  | .dict _ => none
def M.tru (m : M D) : M Bool := m.bind fun d => .lift (truD d)
def M.asB (m : M D) : M Bool := m.bind fun d => .lift (boolD d)
theorem HasL.empty {K : PySem.W.Frag} {B : Addr → Prop} {H : Hp} {vs : List V} {ds : List D} (h : HasL K B H vs ds) : (!vs.isEmpty) = !ds.isEmpty := by
  cases h <;> rfl
theorem HasK.tru {K : PySem.W.Frag} {B : Addr → Prop} {H : Hp} {x : V} {d : D} (h : HasK K B H x d) {t : Bool} (e : truD d = some t) : TruV K x H t := by
  cases d with
  | none => cases e; rw [h.non]; exact rfl
  | bool b => cases e; rw [h.bl]; exact rfl
  | int i => cases e; rw [h.int]; exact rfl
  | str y =>
    simp only [truD] at e
    split at e
    · rename_i hl
      cases e
      rw [h.str]
      exact ⟨hl, rfl⟩
    · cases e
  | list xs =>
    cases e
    obtain ⟨a, vs, rfl, _, s, hh⟩ := h.lst
    exact .inl ⟨vs, s, hh.empty.symm⟩
  | tuple xs =>
    cases e
    obtain ⟨a, vs, rfl, _, s, hh⟩ := h.tup.tup_inv
    exact .inr (.inl ⟨vs, s, hh.empty.symm⟩)
  | dict kvs => cases e
/-- any expression whose test is its value's truth -/
theorem dt_tru (h : DK X G W e m) (he : ∀ whole, isTrue e X.env whole = (do let v ← whole; standAt e.pos; holding [v] (truthy v)) := by exact fun _ => rfl) (hk : X.K = G.K := by rfl) : DT X G W e (M.tru m) := by
  refine impT (pt_truth h he) ?_
  rintro σ H Q ⟨ρ, f, r, R, hm, hp⟩
  refine tK_bind R hm (xok hp) fun d ρ1 v H1 hk1 R1 x1 hv => ?_
  obtain ⟨t, e, er⟩ := lift_inv hk1
  subst er
  exact ⟨t, hk ▸ hv.tru e, hp H1 R1 x1⟩
theorem cmpT_imp {r : R2} {g : D → D → Option D} (hk : X.K = G.K) (hg : OpD X.K r g) : ∀ σ H Q, tT G W (M.asB (M.bin g ma mb)) σ H Q → tTest (tOp r (tD G W ma) (tK G W mb)) σ H Q := by
  rintro σ H Q ⟨ρ, f, s, R, hm, hp⟩
  refine bin_imp hk hg σ H _ ?_
  refine tD_bind R hm (xok hp) fun d ρ1 v H1 hk1 R1 x1 hv => ?_
  obtain ⟨t, e, er⟩ := lift_inv hk1
  subst er
  cases d <;> try (cases e)
  exact ⟨_, hv.bl_inv, hp H1 R1 x1⟩
theorem dt_cmp {op : CmpOp} {r : R2} {g : D → D → Option D} (ho : OpR X (compareOp op) r) (hg : OpD X.K r g) (ha : DE X G W a ma) (hb : DK X G W b mb) (hm : behindInMarks op b = false) (hk : X.K = G.K := by rfl) : DT X G W (.Compare a [op] [b] pos) (M.asB (M.bin g ma mb)) :=
  impT (pt_cmpR ho ha hb hm) (cmpT_imp hk hg)
def M.notB (m : M Bool) : M Bool := m.bind fun b => .ret (!b)
theorem dt_not (h : DT X G W a mt) : DT X G W (.UnaryOp .Not a pos) (M.notB mt) := by
  refine impT (pt_not h) ?_
  rintro σ H Q ⟨ρ, f, s, R, hm, hp⟩
  refine tT_bind R hm (xok hp) fun t ρ1 H1 hk1 R1 x1 => ?_
  cases hk1
  exact hp H1 R1 x1
/-- tests whatever their whole is (and, or) -/
abbrev DW (X : Cx) (G : Gc) (W : WX) (e : Expr) (m : M Bool) : Prop := PW X e (tT G W m)
theorem impW {t t' : TT} (h : PW X e t) (w : ∀ σ H Q, t' σ H Q → t σ H Q) : PW X e t' := ⟨fun wh pins s σ H Q I hq => h.run wh pins s σ H Q I (w σ H Q hq)⟩
def M.and (mt mu : M Bool) : M Bool := mt.bind fun t => if t = true then mu else .ret false
def M.or (mt mu : M Bool) : M Bool := mt.bind fun t => if t = true then .ret true else mu
variable {rest : List Expr}
theorem dw_and1 (h : DT X G W a mt) : DW X G W (.BoolOp .And [a] pos) mt := pw_and1 h
theorem dw_or1 (h : DT X G W a mt) : DW X G W (.BoolOp .Or [a] pos) mt := pw_or1 h
theorem dw_and (h : DT X G W a mt) (hu : DW X G W (.BoolOp .And (b :: rest) pos) mu) : DW X G W (.BoolOp .And (a :: b :: rest) pos) (M.and mt mu) := by
  refine impW (pw_and h hu) ?_
  rintro σ H Q ⟨ρ, f, s, R, hm, hp⟩
  refine tT_bind R hm (xok hp) fun t ρ1 H1 hk1 R1 x1 => ?_
  cases t with
  | true =>
    rw [if_pos rfl] at hk1 ⊢
    refine ⟨ρ1, f, s, R1, hk1, ?_⟩
    cases s with
    | val t ρ' => exact fun H' R' x => hp H' R' (x1.trans x)
    | exc c ρ' => exact hp
  | false =>
    rw [if_neg Bool.false_ne_true] at hk1 ⊢
    cases hk1
    exact hp H1 R1 x1
theorem dw_or (h : DT X G W a mt) (hu : DW X G W (.BoolOp .Or (b :: rest) pos) mu) : DW X G W (.BoolOp .Or (a :: b :: rest) pos) (M.or mt mu) := by
  refine impW (pw_or h hu) ?_
  rintro σ H Q ⟨ρ, f, s, R, hm, hp⟩
  refine tT_bind R hm (xok hp) fun t ρ1 H1 hk1 R1 x1 => ?_
  cases t with
  | true =>
    rw [if_pos rfl] at hk1 ⊢
    cases hk1
    exact hp H1 R1 x1
  | false =>
    rw [if_neg Bool.false_ne_true] at hk1 ⊢
    refine ⟨ρ1, f, s, R1, hk1, ?_⟩
    cases s with
    | val t ρ' => exact fun H' R' x => hp H' R' (x1.trans x)
    | exc c ρ' => exact hp
theorem dt_w (h : DW X G W e mt) : DT X G W e mt := h.pt

/-! ### and, or, not of truth values as values -/
def M.andV (ma mb : M D) : M D := ma.bind fun x => match x with
  | .bool true => mb
  | .bool false => .ret (.bool false)
  | _ => fun _ => none
def M.orV (ma mb : M D) : M D := ma.bind fun x => match x with
  | .bool true => .ret (.bool true)
  | .bool false => mb
  | _ => fun _ => none
def M.notV (ma : M D) : M D := ma.bind fun x => match x with
  | .bool b => .ret (.bool (!b))
  | _ => fun _ => none
theorem de_one {op : BoolOp} (h : DE X G W a ma) : DE X G W (.BoolOp op [a] pos) ma := pe_one h
theorem tD_then {σ : L2.St} {H H1 : Hp} {ρ ρ1 : Rho} {f : Nat → Addr} {r : R D} {Q : VK} (R1 : Rel G σ H1 ρ1 f) (x1 : Ext (Bad G ρ f) H (Bad G ρ1 f) H1) (hk : m ρ1 = some r)
    (hp : Out r (fun d ρ' => ∀ v H', Rel G σ H' ρ' f → Ext (Bad G ρ f) H (Bad G ρ' f) H' → Has G.K (Bad G ρ' f) H' v d → Q v H') (fun c ρ' => XP G W σ c ρ' f)) : tD G W m σ H1 Q := by
  refine ⟨ρ1, f, r, R1, hk, ?_⟩
  cases r with
  | val d ρ' => exact fun v H' R' x hh => hp v H' R' (x1.trans x) hh
  | exc c ρ' => exact hp
theorem de_and (h : DE X G W a ma) (hu : DE X G W (.BoolOp .And (b :: rest) pos) mb) : DE X G W (.BoolOp .And (a :: b :: rest) pos) (M.andV ma mb) := by
  refine imp (pe_and h hu) ?_
  rintro σ H Q ⟨ρ, f, s, R, hm, hp⟩
  refine tD_bind R hm (xok hp) fun d ρ1 v H1 hk1 R1 x1 hv => ?_
  cases d <;> try (cases hk1)
  rename_i t
  refine ⟨t, hv.bl_inv, ?_⟩
  cases t with
  | true => rw [if_pos rfl]; exact tD_then R1 x1 hk1 hp
  | false =>
    rw [if_neg Bool.false_ne_true]
    cases hk1
    exact hp _ H1 R1 x1 (.bl false)
theorem de_or (h : DE X G W a ma) (hu : DE X G W (.BoolOp .Or (b :: rest) pos) mb) : DE X G W (.BoolOp .Or (a :: b :: rest) pos) (M.orV ma mb) := by
  refine imp (pe_or h hu) ?_
  rintro σ H Q ⟨ρ, f, s, R, hm, hp⟩
  refine tD_bind R hm (xok hp) fun d ρ1 v H1 hk1 R1 x1 hv => ?_
  cases d <;> try (cases hk1)
  rename_i t
  refine ⟨t, hv.bl_inv, ?_⟩
  cases t with
  | false => rw [if_neg Bool.false_ne_true]; exact tD_then R1 x1 hk1 hp
  | true =>
    rw [if_pos rfl]
    cases hk1
    exact hp _ H1 R1 x1 (.bl true)
theorem de_not (h : DE X G W a ma) : DE X G W (.UnaryOp .Not a pos) (M.notV ma) := by
  refine imp (pe_not h) ?_
  rintro σ H Q ⟨ρ, f, s, R, hm, hp⟩
  refine tD_bind R hm (xok hp) fun d ρ1 v H1 hk1 R1 x1 hv => ?_
  cases d <;> try (cases hk1)
  rename_i t
  exact ⟨t, hv.bl_inv, hp _ H1 R1 x1 (.bl _)⟩
/-! ### a if t else b -/
def M.ife {α : Type} (mt : M Bool) (ma mb : M α) : M α := mt.bind fun t => if t = true then ma else mb
theorem de_if (ht : DT X G W c mt) (ha : DE X G W a ma) (hb : DE X G W b mb) : DE X G W (.IfExp c a b pos) (M.ife mt ma mb) := by
  refine imp (pe_ifExp ht ha hb) ?_
  rintro σ H Q ⟨ρ, f, s, R, hm, hp⟩
  refine tT_bind R hm (xok hp) fun t ρ1 H1 hk1 R1 x1 => ?_
  cases t with
  | true =>
    rw [if_pos rfl] at hk1 ⊢
    exact tD_then R1 x1 hk1 hp
  | false =>
    rw [if_neg Bool.false_ne_true] at hk1 ⊢
    exact tD_then R1 x1 hk1 hp

/-! ### a op b op c -/
def M.chain (g g' : D → D → Option D) (ma mb mc : M D) : M D := ma.bind fun x => mb.bind fun y => (M.lift (g x y)).bind fun z => match z with
  | .bool true => mc.bind fun w => .lift (g' y w)
  | .bool false => .ret (.bool false)
  | _ => fun _ => none
theorem chain_imp {r r' : R2} {g g' : D → D → Option D} (hk : X.K = G.K) (hg : OpD X.K r g) (hg' : OpD X.K r' g') : ∀ σ H Q, tD G W (M.chain g g' ma mb mc) σ H Q → tChain r r' (tD G W ma) (tD G W mb) (tD G W mc) σ H Q := by
  rintro σ H Q ⟨ρ, f, s, R, hm, hp⟩
  rw [hk] at hg hg'
  have hx := xok hp
  refine tD_bind R hm hx fun x ρ1 v H1 hk1 R1 x1 hv => ?_
  refine tD_bind R1 hk1 hx fun y ρ2 u H2 hk2 R2 x2 hu => ?_
  rcases bind_inv hk2 with ⟨_, _, e1, _⟩ | ⟨z, ρ3, e1, hk3⟩
  · obtain ⟨_, _, e2⟩ := lift_inv e1
    cases e2
  obtain ⟨z', e2, e3⟩ := lift_inv e1
  cases e3
  refine hg (Bad G ρ2 f) H2 v u x y z _ (fun p hp => R2.free hp) (.inl (hv.ext x2)) (.inl hu) e2 fun w H3 s3 hw => ?_
  cases z <;> try (cases hk3)
  rename_i t
  refine ⟨t, hw.bl_inv, ?_⟩
  have R3 := R2.same s3
  have x3 := (x1.trans x2).trans (Ext.same s3)
  cases t with
  | true =>
    rw [if_pos rfl]
    refine tD_bind R3 hk3 hx fun w' ρ4 u' H4 hk4 R4 x4 hu' => ?_
    obtain ⟨z4, e4, er⟩ := lift_inv hk4
    subst er
    exact hg' (Bad G ρ4 f) H4 u u' y w' z4 Q (fun p hp => R4.free hp) (.inl ((hu.same s3).ext x4)) (.inl hu') e4 fun w5 H5 s5 h5 => hp _ _ (R4.same s5) ((x3.trans x4).trans (Ext.same s5)) h5
  | false =>
    rw [if_neg Bool.false_ne_true]
    cases hk3
    exact hp _ H3 R3 x3 (.bl false)
theorem de_chain {op op' : CmpOp} {r r' : R2} {g g' : D → D → Option D} (ho : OpR X (compareOp op) r) (ho' : OpR X (compareOp op') r') (hg : OpD X.K r g) (hg' : OpD X.K r' g') (ha : DE X G W a ma) (hb : DE X G W b mb) (hc : DE X G W c mc)
    (hm : lastMarks [op, op'] [b, c] = false := by with_unfolding_all rfl) (hk : X.K = G.K := by rfl) : DE X G W (.Compare a [op, op'] [b, c] pos) (M.chain g g' ma mb mc) := imp (pe_chain ho ho' ha hb hc hm) (chain_imp hk hg hg')
theorem dt_chain {op op' : CmpOp} {r r' : R2} {g g' : D → D → Option D} (ho : OpR X (compareOp op) r) (ho' : OpR X (compareOp op') r') (hg : OpD X.K r g) (hg' : OpD X.K r' g') (ha : DE X G W a ma) (hb : DE X G W b mb) (hc : DE X G W c mc)
    (hm : lastMarks [op, op'] [b, c] = false := by with_unfolding_all rfl) (hk : X.K = G.K := by rfl) : DT X G W (.Compare a [op, op'] [b, c] pos) (M.asB (M.chain g g' ma mb mc)) := by
  refine impT (pt_chain ho ho' ha hb hc hm) ?_
  rintro σ H Q ⟨ρ, f, s, R, hm, hp⟩
  refine chain_imp hk hg hg' σ H _ ?_
  refine tD_bind R hm (xok hp) fun d ρ1 v H1 hk1 R1 x1 hv => ?_
  obtain ⟨t, e, er⟩ := lift_inv hk1
  subst er
  cases d <;> try (cases e)
  exact ⟨_, hv.bl_inv, hp H1 R1 x1⟩
end
end DL
namespace DL
open PySem PySem.Spec PyProof.Rows L2

/-! ### objects that are changed -/
theorem Rel.upd {G : Gc} {σ : L2.St} {H H' : Hp} {ρ ρ' : Rho} {f : Nat → Addr} (R : Rel G σ H ρ f) (S : List Nat) (hl : ρ'.length = ρ.length) (h1 : ∀ i, i ∉ S → ρ'[i]? = ρ[i]?)
    (h2 : ∀ i ∈ S, ∃ b c c', ρ[i]? = some (some (.mut b c)) ∧ ρ'[i]? = some (some (.mut b c')) ∧ CellOk G.K (Bad G ρ f) H' (f i) c') (h3 : ∀ a o, H a = some o → (∀ i ∈ S, f i ≠ a) → ¬ G.T a → H' a = some o) (h4 : ∀ a, G.T a → TabAt H' a) :
    Rel G σ H' ρ' f ∧ Ext (Bad G ρ f) H (Bad G ρ' f) H' := by
  have back : ∀ (i : Nat) (b : Bool) (c : Cell), ρ'[i]? = some (some (.mut b c)) → ∃ c0, ρ[i]? = some (some (.mut b c0)) := fun i b c e => by
    by_cases hi : i ∈ S
    · obtain ⟨b', c1, c2, e1, e2, _⟩ := h2 i hi
      rw [e] at e2
      cases e2
      exact ⟨c1, e1⟩
    · exact ⟨c, (h1 i hi) ▸ e⟩
  have fwd : ∀ (i : Nat) (b : Bool) (c : Cell), ρ[i]? = some (some (.mut b c)) → ∃ c0, ρ'[i]? = some (some (.mut b c0)) := fun i b c e => by
    by_cases hi : i ∈ S
    · obtain ⟨b', c1, c2, e1, e2, _⟩ := h2 i hi
      rw [e] at e1
      cases e1
      exact ⟨c2, e2⟩
    · exact ⟨c, (h1 i hi).trans e⟩
  have bd : ∀ a, Bad G ρ' f a → Bad G ρ f a := fun a z => by
    rcases z with z | ⟨i, c, e, z⟩
    · exact .inl z
    · obtain ⟨c0, e0⟩ := back i true c e
      exact .inr ⟨i, c0, e0, z⟩
  have bd' : ∀ a, Bad G ρ f a → Bad G ρ' f a := fun a z => by
    rcases z with z | ⟨i, c, e, z⟩
    · exact .inl z
    · obtain ⟨c0, e0⟩ := fwd i true c e
      exact .inr ⟨i, c0, e0, z⟩
  have x : Ext (Bad G ρ f) H (Bad G ρ' f) H' := fun a o hb e => ⟨fun z => hb (bd a z), h3 a o e (fun i hi z => by
    obtain ⟨b, c, c', e1, _, _⟩ := h2 i hi
    rw [← z] at hb
    exact hb (R.mutBad e1)) fun z => hb (.inl (R.dom.2 a z).1)⟩
  refine ⟨⟨by rw [hl]; exact R.len, fun a o e hn ht => ?_, ⟨fun a ha => ?_, fun a ha => ⟨(R.dom.2 a ha).1, h4 a ha⟩⟩, fun i c e => ?_, fun i j b c b' c' e1 e2 z => ?_, fun i c e => ?_, fun p hp => ?_, fun i s e => ?_⟩, x⟩
  · refine h3 a o (R.keep a o e hn ht) (fun i hi z => ?_) ht
    obtain ⟨b, c, c', e1, _, _⟩ := h2 i hi
    cases b with
    | true =>
      have := (R.own i c e1).2
      rw [z, e] at this
      cases this
    | false => exact hn _ (R.inn i c e1).1 z
  · by_cases hs : ∃ i ∈ S, f i = a
    · obtain ⟨i, hi, z⟩ := hs
      obtain ⟨b, c, c', _, _, ok⟩ := h2 i hi
      rw [← z]
      exact ok.at
    · by_cases ht : G.T a
      · obtain ⟨ps, e, _⟩ := h4 a ht
        exact ⟨_, e⟩
      · obtain ⟨o, e⟩ := R.dom.1 a ha
        exact ⟨o, h3 a o e (fun i hi z => hs ⟨i, hi, z⟩) ht⟩
  · obtain ⟨c0, e0⟩ := back i true c e
    exact R.own i c0 e0
  · obtain ⟨c0, e0⟩ := back i b c e1
    obtain ⟨c1, e3⟩ := back j b' c' e2
    exact R.inj i j _ _ _ _ e0 e3 z
  · obtain ⟨c0, e0⟩ := back i false c e
    exact R.inn i c0 e0
  · obtain ⟨c, e1, e2⟩ := R.innB p hp
    obtain ⟨c0, e0⟩ := fwd p.1 false c e1
    exact ⟨c0, e0, e2⟩
  · by_cases hi : i ∈ S
    · obtain ⟨b, c, c', e1, e2, ok⟩ := h2 i hi
      rw [e] at e2
      cases e2
      obtain ⟨v, e3, h⟩ := R.sl i _ e1
      exact ⟨v, e3, h.1, ok.ext (fun a o hb e => ⟨fun z => hb (bd a z), e⟩) rfl⟩
    · rw [h1 i hi] at e
      obtain ⟨v, e3, h⟩ := R.sl i s e
      refine ⟨v, e3, h.ext x ?_⟩
      rintro ⟨b, c, rfl⟩
      obtain ⟨o, eo⟩ := h.2.at
      rw [eo]
      refine h3 _ o eo (fun j hj z => ?_) fun ht => (R.dom.2 _ ht).2.not h.2
      obtain ⟨b', c1, c2, e1, _, _⟩ := h2 j hj
      have := R.inj j i _ _ _ _ e1 e z
      subst this
      exact hi hj
/-- one object -/
theorem Rel.upd1 {G : Gc} {σ : L2.St} {H H' : Hp} {ρ : Rho} {f : Nat → Addr} {i : Nat} {b : Bool} {c c' : Cell} (R : Rel G σ H ρ f) (e : ρ[i]? = some (some (.mut b c))) (ok : CellOk G.K (Bad G ρ f) H' (f i) c')
    (h3 : ∀ a o, H a = some o → f i ≠ a → H' a = some o) : Rel G σ H' (ρ.set i (some (.mut b c'))) f ∧ Ext (Bad G ρ f) H (Bad G (ρ.set i (some (.mut b c'))) f) H' := by
  have hl : i < ρ.length := (List.getElem?_eq_some_iff.mp e).1
  refine R.upd [i] (by rw [List.length_set]) (fun j hj => ?_) (fun j hj => ?_) (fun a o eo hn _ => h3 a o eo (hn i (List.mem_singleton.mpr rfl))) fun a ht => ?_
  · exact List.getElem?_set_ne (fun z => hj (List.mem_singleton.mpr z.symm))
  · have := List.mem_singleton.mp hj
    subst this
    exact ⟨b, c, c', e, by rw [List.getElem?_set_self hl], ok⟩
  · obtain ⟨ps, ep, tr⟩ := (R.dom.2 a ht).2
    exact ⟨ps, h3 a _ ep (fun z => (R.dom.2 a ht).2.not (z ▸ (R.mutAt e).2)), tr⟩

/-! ### what a def is -/
/-- an argument: data, or an object that the def may change -/
inductive Av where
  | dat (d : D)
  | ref (c : Cell)
/-- what comes back, and the objects handed in as they are then -/
inductive FR where
  | ret (d : D) (outs : List Cell)
  | retF (c : Cell) (outs : List Cell)
  | exc (c : Str) (outs : List Cell)
inductive AvL (K : PySem.W.Frag) (A : Addr → Prop) (H : Hp) : List V → List Av → List Addr → Prop
  | nil : AvL K A H [] [] []
  | dat {v : V} {d : D} {vs : List V} {as : List Av} {ps : List Addr} : Has K A H v d → AvL K A H vs as ps → AvL K A H (v :: vs) (.dat d :: as) ps
  | ref {p : Addr} {c : Cell} {vs : List V} {as : List Av} {ps : List Addr} : A p → CellOk K A H p c → p ∉ ps → AvL K A H vs as ps → AvL K A H (.ref p :: vs) (.ref c :: as) (p :: ps)
def Outs (K : PySem.W.Frag) (A : Addr → Prop) (H : Hp) (ps : List Addr) (outs : List Cell) : Prop := Paired (fun p c => CellOk K A H p c) ps outs
def Keep (T : Addr → Prop) (ps : List Addr) (H H' : Hp) : Prop := (∀ a o, H a = some o → a ∉ ps → ¬ T a → H' a = some o) ∧ ∀ a, T a → TabAt H' a
abbrev Fn := List Av → Option FR
/-- the promise that a def's run is F -/
def spF (K : PySem.W.Frag) (mg : Str → Option Value) (T : Addr → Prop) (F : Fn) : Sp := fun vs H Q E => ∃ A as ps r, AvL K A H vs as ps ∧ ((∀ a, A a → ∃ o, H a = some o) ∧ ∀ a, T a → A a ∧ TabAt H a) ∧ F as = some r ∧ match r with
  | .ret d outs => ∀ v H', Keep T ps H H' → Outs K A H' ps outs → Has K A H' v d → Q v H'
  | .retF c outs => ∀ p H', Keep T ps H H' → Outs K (fun a => A a ∨ a = p) H' ps outs → H p = none → CellOk K (fun a => A a ∨ a = p) H' p c → Q (.ref p) H'
  | .exc c outs => ∀ cls H', mg c = some cls → Keep T ps H H' → Outs K A H' ps outs → E cls none H'

/-! ### arguments of a call -/
inductive CArg where
  | dat (d : D)
  | slot (i : Nat)
def CArgOk (G : Gc) (ρ : Rho) (f : Nat → Addr) (H : Hp) : V → CArg → Prop
  | v, .dat d => Has G.K (Bad G ρ f) H v d
  | v, .slot i => v = .ref (f i)
def tC' (G : Gc) (W : WX) (m : M (List CArg)) : TA := fun σ H Q => ∃ ρ f r, Rel G σ H ρ f ∧ m ρ = some r ∧
  Out r (fun cs ρ' => ∀ vs H', Rel G σ H' ρ' f → Ext (Bad G ρ f) H (Bad G ρ' f) H' → Paired (CArgOk G ρ' f H') vs cs → Q vs H') (fun c ρ' => XP G W σ c ρ' f)
abbrev DC (X : Cx) (G : Gc) (W : WX) (es : List Expr) (m : M (List CArg)) : Prop := PA X es (tC' G W m)
def M.cdat (ma : M D) (mr : M (List CArg)) : M (List CArg) := ma.bind fun x => mr.bind fun xs => .ret (.dat x :: xs)
def M.cslot (i : Nat) (mr : M (List CArg)) : M (List CArg) := fun ρ => match ρ[i]? with
  | some (some (.mut _ _)) => (mr.bind fun xs => .ret (.slot i :: xs)) ρ
  | _ => none
theorem CArgOk.ext {G : Gc} {ρ ρ' : Rho} {f : Nat → Addr} {H H' : Hp} (x : Ext (Bad G ρ f) H (Bad G ρ' f) H') {v : V} {c : CArg} (h : CArgOk G ρ f H v c) : CArgOk G ρ' f H' v c := by
  cases c with
  | dat d => exact Has.ext x h
  | slot i => exact h
section
variable {X : Cx} {G : Gc} {W : WX} {a b c e : Expr} {es : List Expr} {m ma mb mc : M D} {mt mu : M Bool} {pos : Pos} {k : Nat}
theorem tC_bind {α : Type} {m : M (List CArg)} {k : List CArg → M α} {σ : L2.St} {H : Hp} {ρ : Rho} {f : Nat → Addr} {r : R α} {Q : List V → Hp → Prop} (Rl : Rel G σ H ρ f) (h : M.bind m k ρ = some r) (hx : ∀ c ρ', r = .exc c ρ' → XP G W σ c ρ' f)
    (hk : ∀ d ρ' vs H', k d ρ' = some r → Rel G σ H' ρ' f → Ext (Bad G ρ f) H (Bad G ρ' f) H' → Paired (CArgOk G ρ' f H') vs d → Q vs H') : tC' G W m σ H Q := by
  rcases bind_inv h with ⟨c, ρ', e1, e2⟩ | ⟨d, ρ', e1, e2⟩
  · exact ⟨ρ, f, _, Rl, e1, hx c ρ' e2⟩
  · exact ⟨ρ, f, _, Rl, e1, fun v H' R' x hh => hk d ρ' v H' e2 R' x hh⟩
theorem dc_nil : DC X G W [] (M.ret []) := impA pa_nil fun σ H Q ⟨ρ, f, r, R, hm, hp⟩ => by
  cases hm
  exact hp [] H R (Ext.refl _ _) .nil
theorem dc_dat {mr : M (List CArg)} (ha : DE X G W e m) (hr : DC X G W es mr) (hs : starEach (e :: es) X.env = (false, eval e X.env) :: starEach es X.env := by rfl) : DC X G W (e :: es) (M.cdat m mr) := by
  refine impA (pa_cons ha hr hs) ?_
  rintro σ H Q ⟨ρ, f, r, R, hm, hp⟩
  have hx := xok hp
  refine tD_bind R hm hx fun x ρ1 v H1 hk1 R1 x1 hv => ?_
  refine tC_bind R1 hk1 hx fun xs ρ2 vs H2 hk2 R2 x2 hvs => ?_
  cases hk2
  exact hp _ _ R2 (x1.trans x2) (.cons (Has.ext x2 hv) hvs)
theorem dc_slot {mr : M (List CArg)} (i : Nat) {x : Str} {p : Pos} (hr : DC X G W es mr) (hN : X.N[i]? = some x := by rfl) (hv : Vis X.env.scope x := by first | exact Or.inl rfl | exact Or.inr (Or.inl rfl) | exact Or.inr (Or.inr rfl))
    (hs : starEach (.Name x p :: es) X.env = (false, eval (.Name x p) X.env) :: starEach es X.env := by rfl) (hd : (x == ("__debug__" : Str)) = false := by decide) (hcd : (x == ("__classdict__" : Str)) = false := by decide) : DC X G W (.Name x p :: es) (M.cslot i mr) := by
  refine impA (pa_cons (pv i hN hv hd hcd) hr hs) ?_
  rintro σ H Q ⟨ρ, f, r, R, hm, hp⟩
  unfold M.cslot at hm
  split at hm
  · rename_i b c e
    refine ⟨_, (R.mutAt e).1, ?_⟩
    refine tC_bind R hm (xok hp) fun xs ρ2 vs H2 hk2 R2 x2 hvs => ?_
    cases hk2
    exact hp _ _ R2 x2 (.cons rfl hvs)
  · cases hm

/-- the arguments as the def gets them -/
def avs (ρ : Rho) : List CArg → Option (List Av)
  | [] => some []
  | .dat d :: r => match avs ρ r with
    | some as => some (.dat d :: as)
    | none => none
  | .slot i :: r => match ρ[i]? with
    | some (some (.mut _ c)) => match avs ρ r with
      | some as => some (.ref c :: as)
      | none => none
    | _ => none
def slotsOf : List CArg → List Nat
  | [] => []
  | .dat _ :: r => slotsOf r
  | .slot i :: r => i :: slotsOf r
/-- the objects as they are behind the call -/
def putOuts (ρ : Rho) : List Nat → List Cell → Rho
  | i :: is, c :: cs => match ρ[i]? with
    | some (some (.mut b _)) => (putOuts ρ is cs).set i (some (.mut b c))
    | _ => putOuts ρ is cs
  | _, _ => ρ
def callM (F : Fn) (ms : M (List CArg)) : M D := ms.bind fun cs => fun ρ => if (slotsOf cs).Nodup then match avs ρ cs with
  | none => none
  | some as => match F as with
    | none => none
    | some (.ret d outs) => some (.val d (putOuts ρ (slotsOf cs) outs))
    | some (.retF c outs) => some (.val (cellD c) (putOuts ρ (slotsOf cs) outs))
    | some (.exc c outs) => some (.exc c (putOuts ρ (slotsOf cs) outs)) else none
def callF (F : Fn) (ms : M (List CArg)) : M Cell := ms.bind fun cs => fun ρ => if (slotsOf cs).Nodup then match avs ρ cs with
  | none => none
  | some as => match F as with
    | some (.retF c outs) => some (.val c (putOuts ρ (slotsOf cs) outs))
    | some (.exc c outs) => some (.exc c (putOuts ρ (slotsOf cs) outs))
    | _ => none else none

theorem put_len (ρ : Rho) : ∀ (is : List Nat) (cs : List Cell), (putOuts ρ is cs).length = ρ.length
  | [], _ => by simp [putOuts]
  | _ :: _, [] => by simp [putOuts]
  | i :: is, c :: cs => by
    unfold putOuts
    split
    · rw [List.length_set, put_len ρ is cs]
    · exact put_len ρ is cs
theorem put_other {ρ : Rho} {j : Nat} : ∀ (is : List Nat) (cs : List Cell), j ∉ is → (putOuts ρ is cs)[j]? = ρ[j]?
  | [], _, _ => by simp [putOuts]
  | _ :: _, [], _ => by simp [putOuts]
  | i :: is, c :: cs, h => by
    have h1 : i ≠ j := fun z => h (by simp [z])
    have h2 : j ∉ is := fun z => h (by simp [z])
    unfold putOuts
    split
    · rw [List.getElem?_set_ne h1]
      exact put_other is cs h2
    · exact put_other is cs h2
theorem put_at {ρ : Rho} {P : Nat → Cell → Prop} : ∀ {is : List Nat} {cs : List Cell}, is.Nodup → (∀ i ∈ is, ∃ b c, ρ[i]? = some (some (.mut b c))) → Paired P is cs → ∀ i ∈ is, ∃ b c c', ρ[i]? = some (some (.mut b c)) ∧ (putOuts ρ is cs)[i]? = some (some (.mut b c')) ∧ P i c'
  | [], _, _, _, _, i, h => absurd h (by simp)
  | j :: js, _, hn, hm, .cons (b := c) h1 h2, i, hi => by
    rename_i cs
    obtain ⟨b, c0, e0⟩ := hm j (by simp)
    have hl : j < (putOuts ρ js cs).length := by rw [put_len]; exact (List.getElem?_eq_some_iff.mp e0).1
    unfold putOuts
    rw [e0]
    dsimp only
    rcases List.mem_cons.mp hi with e | hi
    · subst e
      exact ⟨b, c0, c, e0, by rw [List.getElem?_set_self hl], h1⟩
    · have hne : j ≠ i := fun z => (List.nodup_cons.mp hn).1 (z ▸ hi)
      obtain ⟨b', c1, c2, e1, e2, h3⟩ := put_at (List.nodup_cons.mp hn).2 (fun i hi => hm i (List.mem_cons_of_mem _ hi)) h2 i hi
      exact ⟨b', c1, c2, e1, by rw [List.getElem?_set_ne hne]; exact e2, h3⟩
theorem avs_ok {σ : L2.St} {ρ : Rho} {f : Nat → Addr} {H : Hp} (R : Rel G σ H ρ f) : ∀ {vs : List V} {cs : List CArg} {as : List Av}, Paired (CArgOk G ρ f H) vs cs → (slotsOf cs).Nodup → avs ρ cs = some as →
    AvL G.K (Bad G ρ f) H vs as ((slotsOf cs).map f) ∧ ∀ i ∈ slotsOf cs, ∃ b c, ρ[i]? = some (some (.mut b c))
  | _, _, _, .nil, _, e => by cases e; exact ⟨.nil, fun i h => absurd h (by simp [slotsOf])⟩
  | _, .dat d :: r, _, .cons h1 h2, hn, e => by
    simp only [avs] at e
    cases e2 : avs ρ r with
    | none => rw [e2] at e; cases e
    | some as =>
      rw [e2] at e
      cases e
      obtain ⟨h3, h4⟩ := avs_ok R h2 (by simpa [slotsOf] using hn) e2
      exact ⟨.dat h1 h3, by simpa [slotsOf] using h4⟩
  | _, .slot i :: r, _, .cons h1 h2, hn, e => by
    have hn' : i ∉ slotsOf r ∧ (slotsOf r).Nodup := by simpa [slotsOf] using hn
    simp only [avs] at e
    split at e
    · rename_i b c e0
      cases e2 : avs ρ r with
      | none => rw [e2] at e; cases e
      | some as =>
        rw [e2] at e
        cases e
        obtain ⟨h3, h4⟩ := avs_ok R h2 hn'.2 e2
        cases h1
        refine ⟨?_, fun j hj => ?_⟩
        · show AvL G.K (Bad G ρ f) H _ _ (f i :: (slotsOf r).map f)
          refine .ref (R.mutBad e0) (R.mutAt e0).2 (fun hm => ?_) h3
          obtain ⟨j, hj, ej⟩ := List.mem_map.mp hm
          obtain ⟨b', c', e'⟩ := h4 j hj
          have := R.inj j i _ _ _ _ e' e0 ej
          subst this
          exact hn'.1 hj
        · rcases List.mem_cons.mp (show j ∈ i :: slotsOf r from hj) with z | z
          · subst z; exact ⟨b, c, e0⟩
          · exact h4 j z
    · cases e
theorem paired_map {α β γ : Type} {P : β → γ → Prop} {g : α → β} : ∀ {l : List α} {cs : List γ}, Paired P (l.map g) cs → Paired (fun a c => P (g a) c) l cs
  | [], _, h => by cases h; exact .nil
  | _ :: _, _, h => by
    cases h with
    | cons h1 h2 => exact .cons h1 (paired_map h2)
/-- behind a call -/
theorem Rel.called {σ : L2.St} {ρ : Rho} {f : Nat → Addr} {H H' : Hp} (R : Rel G σ H ρ f) {is : List Nat} {outs : List Cell} (hn : is.Nodup) (hm : ∀ i ∈ is, ∃ b c, ρ[i]? = some (some (.mut b c))) (k : Keep G.T (is.map f) H H')
    (o : Outs G.K (Bad G ρ f) H' (is.map f) outs) : Rel G σ H' (putOuts ρ is outs) f ∧ Ext (Bad G ρ f) H (Bad G (putOuts ρ is outs) f) H' := by
  refine R.upd is (put_len _ _ _) (fun i hi => put_other is outs hi) (fun i hi => ?_) (fun a ob e hne ht => k.1 a ob e (fun hm => ?_) ht) k.2
  · exact put_at hn hm (paired_map o) i hi
  · obtain ⟨j, hj, ej⟩ := List.mem_map.mp hm
    exact hne j hj ej

theorem call_imp {F : Fn} {ms : M (List CArg)} : ∀ σ H Q, tD G W (callM F ms) σ H Q → tCallS (spF G.K G.mg G.T F) (WE W) (tC' G W ms) σ H Q := by
  rintro σ H Q ⟨ρ, f, r, R, hm, hp⟩
  have hx := xok hp
  have hm0 := hm
  rcases bind_inv hm0 with ⟨c, ρ', e1, e2⟩ | ⟨cs0, ρ0', e1, _⟩
  · exact ⟨ρ, f, _, R, e1, hx c ρ' e2⟩
  refine ⟨ρ, f, _, R, e1, fun vs H1 R1 x1 hvs => ?_⟩
  have hk : (fun ρ => if (slotsOf cs0).Nodup then match avs ρ cs0 with
  | none => none
  | some as => match F as with
    | none => none
    | some (.ret d outs) => some (DL.R.val d (putOuts ρ (slotsOf cs0) outs))
    | some (.retF c outs) => some (DL.R.val (cellD c) (putOuts ρ (slotsOf cs0) outs))
    | some (.exc c outs) => some (DL.R.exc c (putOuts ρ (slotsOf cs0) outs)) else none) ρ0' = some r := by
    have := hm
    unfold callM M.bind at this
    rw [e1] at this
    exact this
  dsimp only at hk
  split at hk
  · rename_i hnd
    cases ea : avs ρ0' cs0 with
    | none => rw [ea] at hk; cases hk
    | some as =>
      rw [ea] at hk
      dsimp only at hk
      obtain ⟨av, ms⟩ := avs_ok R1 hvs hnd ea
      cases eF : F as with
      | none => rw [eF] at hk; cases hk
      | some fr =>
        rw [eF] at hk
        refine ⟨Bad G ρ0' f, as, _, fr, av, ⟨fun a z => R1.bad z, fun a z => ⟨.inl (R1.dom.2 a z).1, (R1.dom.2 a z).2⟩⟩, eF, ?_⟩
        cases fr with
        | ret d outs =>
          cases hk
          intro v H' k o hh
          obtain ⟨R2, x2⟩ := R1.called hnd ms k o
          exact hp v H' R2 (x1.trans x2) (hh.ext fun a ob hb e => ⟨fun z => hb (by
            rcases z with z | ⟨i, c, e, z⟩
            · exact .inl z
            · by_cases hi : i ∈ slotsOf cs0
              · obtain ⟨b, c1, e1⟩ := ms i hi
                rw [z]; exact R1.mutBad e1
              · rw [put_other _ _ hi] at e
                exact .inr ⟨i, c, e, z⟩), e⟩)
        | retF c outs =>
          cases hk
          intro p H' k o h0 ok
          obtain ⟨R2, x2⟩ := R1.called hnd ms k (Paired.mapP o fun q c h => h.ext (fun a ob hb e => ⟨fun z => hb (.inl z), e⟩) rfl)
          have sub : ∀ a, Bad G (putOuts ρ0' (slotsOf cs0) outs) f a → Bad G ρ0' f a := fun a z => by
            rcases z with z | ⟨i, c, e, z⟩
            · exact .inl z
            · by_cases hi : i ∈ slotsOf cs0
              · obtain ⟨b, c1, e1⟩ := ms i hi
                rw [z]; exact R1.mutBad e1
              · rw [put_other _ _ hi] at e
                exact .inr ⟨i, c, e, z⟩
          have ok' : CellOk G.K (Bad G (putOuts ρ0' (slotsOf cs0) outs) f) H' p c := ok.ext (fun a ob hb e => ⟨fun z => hb (.inl (sub a z)), e⟩) rfl
          exact hp _ H' R2 (x1.trans x2) (ok'.has fun z => R1.free h0 (sub p z))
        | exc c outs =>
          cases hk
          intro cls H' hc k o
          obtain ⟨R2, x2⟩ := R1.called hnd ms k o
          exact hp cls H' hc R2
  · cases hk
theorem callF_imp {F : Fn} {ms : M (List CArg)} : ∀ σ H Q, tF G W (callF F ms) σ H Q → tCallS (spF G.K G.mg G.T F) (WE W) (tC' G W ms) σ H Q := by
  rintro σ H Q ⟨ρ, f, r, R, hm, hp⟩
  have hx := xok hp
  have hm0 := hm
  rcases bind_inv hm0 with ⟨c, ρ', e1, e2⟩ | ⟨cs0, ρ0', e1, _⟩
  · exact ⟨ρ, f, _, R, e1, hx c ρ' e2⟩
  refine ⟨ρ, f, _, R, e1, fun vs H1 R1 x1 hvs => ?_⟩
  have hk : (fun ρ => if (slotsOf cs0).Nodup then match avs ρ cs0 with
  | none => none
  | some as => match F as with
    | some (.retF c outs) => some (DL.R.val c (putOuts ρ (slotsOf cs0) outs))
    | some (.exc c outs) => some (DL.R.exc c (putOuts ρ (slotsOf cs0) outs))
    | _ => none else none) ρ0' = some r := by
    have := hm
    unfold callF M.bind at this
    rw [e1] at this
    exact this
  dsimp only at hk
  split at hk
  · rename_i hnd
    cases ea : avs ρ0' cs0 with
    | none => rw [ea] at hk; cases hk
    | some as =>
      rw [ea] at hk
      dsimp only at hk
      obtain ⟨av, ms⟩ := avs_ok R1 hvs hnd ea
      cases eF : F as with
      | none => rw [eF] at hk; cases hk
      | some fr =>
        rw [eF] at hk
        refine ⟨Bad G ρ0' f, as, _, fr, av, ⟨fun a z => R1.bad z, fun a z => ⟨.inl (R1.dom.2 a z).1, (R1.dom.2 a z).2⟩⟩, eF, ?_⟩
        cases fr with
        | ret d outs => cases hk
        | retF c outs =>
          cases hk
          intro p H' k o h0 ok
          obtain ⟨R2, x2⟩ := R1.called hnd ms k (Paired.mapP o fun q c h => h.ext (fun a ob hb e => ⟨fun z => hb (.inl z), e⟩) rfl)
          have sub : ∀ a, Bad G (putOuts ρ0' (slotsOf cs0) outs) f a → Bad G ρ0' f a := fun a z => by
            rcases z with z | ⟨i, c, e, z⟩
            · exact .inl z
            · by_cases hi : i ∈ slotsOf cs0
              · obtain ⟨b, c1, e1⟩ := ms i hi
                rw [z]; exact R1.mutBad e1
              · rw [put_other _ _ hi] at e
                exact .inr ⟨i, c, e, z⟩
          obtain ⟨ob, eo⟩ := ok.at
          have h0' : H1 p = none := h0
          have RP : Rel (G.plus p) σ (upd H1 p ob) ρ0' f := R1.grow h0 (same_upd h0) ⟨ob, upd_same⟩
          have k' : Keep G.T ((slotsOf cs0).map f) (upd H1 p ob) H' := ⟨fun a o' e hn ht => by
            by_cases hp' : a = p
            · subst hp'
              rw [upd_same] at e
              cases e
              exact eo
            · rw [upd_ne hp'] at e
              exact k.1 a o' e hn ht, k.2⟩
          have o' : Outs G.K (Bad (G.plus p) ρ0' f) H' ((slotsOf cs0).map f) outs := Paired.mapP o fun q c h => h.ext (fun a ob hb e => ⟨fun z => hb (bad_plus.mp z), e⟩) rfl
          have R3 := (RP.called hnd ms k' o').1
          refine hp p H' ⟨R2, R3, ⟨(R1.fresh h0).a, (R1.fresh h0).h0, fun i b c e => ?_⟩, ok.ext (fun a ob hb e => ⟨fun z => hb (z.elim (fun z => .inl (sub a z)) .inr), e⟩) rfl⟩ (fun a ob hb e => ⟨fun z => z.elim ((x1.trans x2) a ob hb e).1 (ne_of_none (x1 a ob hb e).2 h0), ((x1.trans x2) a ob hb e).2⟩)
          by_cases hi : i ∈ slotsOf cs0
          · obtain ⟨b, c1, e1⟩ := ms i hi
            exact (R1.fresh h0).m i _ _ e1
          · rw [put_other _ _ hi] at e
            exact (R1.fresh h0).m i _ _ e
        | exc c outs =>
          cases hk
          intro cls H' hc k o
          obtain ⟨R2, x2⟩ := R1.called hnd ms k o
          exact hp cls H' hc R2
  · cases hk
/-- a def of the text: it stands at f, its run is F -/
structure Def (P : Program) (w : World) (K : PySem.W.Frag) (mg : Str → Option Value) (base : Heap) (T : Addr → Prop) (k : Nat) (x : Str) (F : Fn) : Prop where
  ex : ∃ (f : Addr) (fd : FuncData) (ps : List Str), FnOk P w K mg base (L2N.CX P w) k f fd ps (spF K mg T F) ∧ mg x = some (.ref f) ∧ PySem.W.keepIn K (.ref f) = true ∧ Binds K fd ps []
theorem de_call {j : Nat} {x : Str} {p : Pos} {F : Fn} {ms : M (List CArg)} (d : Def X.prog X.w X.K X.mg X.base G.T k x F) (hr : Room j X.A) (hkj : k ≤ j) (tk : L2N.Takes X W) (ha : DC X G W (e :: es) ms) (hg : Gl X x := by rfl) (hK : X.K = G.K := by rfl) (hM : X.mg = G.mg := by rfl)
    (hdb : (x == ("__debug__" : Str)) = false := by decide) (he : starEach (e :: es) X.env = (false, eval e X.env) :: starEach es X.env := by rfl) (hpl : (backTo pos (starEach es X.env)).any (·.1) = false := by rfl) :
    DE X G W (.Call (.Name x p) (e :: es) [] pos) (callM F ms) := by
  obtain ⟨f, fd, ps, h1, h2, h3, h4⟩ := d.ex
  rw [hK, hM] at h1
  exact imp (pe_callS (by rw [hK, hM]; exact h1) (hr.mono hkj) hg h2 h3 h4 (fun σ => L2N.passAt tk σ) ha hdb he hpl) call_imp
theorem df_call {j : Nat} {x : Str} {p : Pos} {F : Fn} {ms : M (List CArg)} (d : Def X.prog X.w X.K X.mg X.base G.T k x F) (hr : Room j X.A) (hkj : k ≤ j) (tk : L2N.Takes X W) (ha : DC X G W (e :: es) ms) (hg : Gl X x := by rfl) (hK : X.K = G.K := by rfl) (hM : X.mg = G.mg := by rfl)
    (hdb : (x == ("__debug__" : Str)) = false := by decide) (he : starEach (e :: es) X.env = (false, eval e X.env) :: starEach es X.env := by rfl) (hpl : (backTo pos (starEach es X.env)).any (·.1) = false := by rfl) :
    DF X G W (.Call (.Name x p) (e :: es) [] pos) (callF F ms) := by
  obtain ⟨f, fd, ps, h1, h2, h3, h4⟩ := d.ex
  rw [hK, hM] at h1
  exact imp (pe_callS (by rw [hK, hM]; exact h1) (hr.mono hkj) hg h2 h3 h4 (fun σ => L2N.passAt tk σ) ha hdb he hpl) callF_imp
end
end DL
namespace DL
open PySem PySem.Spec PyProof.Rows L2

inductive SR where
  | nx (ρ : Rho)
  | ret (d : D) (ρ : Rho)
  | retF (c : Cell) (ρ : Rho)
  | brk (ρ : Rho)
  | ct (ρ : Rho)
  | exc (c : Str) (ρ : Rho)
abbrev SS := Rho → Option SR
@[reducible] def SOut (G : Gc) (W : WX) (E : Ends) (H : Hp) (ρ : Rho) (f : Nat → Addr) : SR → Prop
  | .nx ρ' => ∀ σ' H' f', Rel G σ' H' ρ' f' → Ext (Bad G ρ f) H (Bad G ρ' f') H' → E.nx σ' H'
  | .brk ρ' => ∀ σ' H' f', Rel G σ' H' ρ' f' → Ext (Bad G ρ f) H (Bad G ρ' f') H' → E.bk σ' H'
  | .ct ρ' => ∀ σ' H' f', Rel G σ' H' ρ' f' → Ext (Bad G ρ f) H (Bad G ρ' f') H' → E.ct σ' H'
  | .ret d ρ' => ∀ v σ' H' f', Rel G σ' H' ρ' f' → Has G.K (Bad G ρ' f') H' v d → E.rt v H'
  | .retF c ρ' => ∀ p σ' H' f', NewAt G σ' H' ρ' f' p c → E.rt (.ref p) H'
  | .exc c ρ' => ∀ cls σ' H' f', G.mg c = some cls → Rel G σ' H' ρ' f' → W cls none σ' H'
def tS (G : Gc) (W : WX) (m : SS) : TS := fun E σ H => ∃ ρ f r, Rel G σ H ρ f ∧ m ρ = some r ∧ SOut G W E H ρ f r
abbrev DS (X : Cx) (G : Gc) (W : WX) (st : Stmt) (m : SS) : Prop := PS X st (tS G W m)
abbrev DSs (X : Cx) (G : Gc) (W : WX) (st : List Stmt) (m : SS) : Prop := PSs X st (tS G W m)
theorem impS {X : Cx} {st : Stmt} {t t' : TS} (h : PS X st t) (w : ∀ D σ H, t' D σ H → t D σ H) : PS X st t' := ⟨fun pins s σ H D I hq => h.run pins s σ H D I (w D σ H hq)⟩
theorem impSs {X : Cx} {st : List Stmt} {t t' : TS} (h : PSs X st t) (w : ∀ D σ H, t' D σ H → t D σ H) : PSs X st t' := ⟨fun pins s σ H D I hq => h.run pins s σ H D I (w D σ H hq)⟩
def S.nx : SS := fun ρ => some (.nx ρ)
def S.seq (m n : SS) : SS := fun ρ => match m ρ with
  | some (.nx ρ') => n ρ'
  | r => r
/-- an evaluation, then a step -/
def S.of {α : Type} (m : M α) (k : α → SS) : SS := fun ρ => match m ρ with
  | none => none
  | some (.exc c ρ') => some (.exc c ρ')
  | some (.val a ρ') => k a ρ'
theorem of_inv {α : Type} {m : M α} {k : α → SS} {ρ : Rho} {r : SR} (h : S.of m k ρ = some r) :
    (∃ c ρ', m ρ = some (.exc c ρ') ∧ r = .exc c ρ') ∨ ∃ a ρ', m ρ = some (.val a ρ') ∧ k a ρ' = some r := by
  unfold S.of at h
  cases e : m ρ with
  | none => rw [e] at h; cases h
  | some x =>
    rw [e] at h
    cases x with
    | exc c ρ' => exact .inl ⟨c, ρ', rfl, (Option.some.inj h).symm⟩
    | val a ρ' => exact .inr ⟨a, ρ', rfl, h⟩
theorem SOut.mono {G : Gc} {W : WX} {E : Ends} {H H1 : Hp} {ρ ρ1 : Rho} {f f1 : Nat → Addr} {r : SR} (x : Ext (Bad G ρ f) H (Bad G ρ1 f1) H1) (h : SOut G W E H ρ f r) : SOut G W E H1 ρ1 f1 r := by
  cases r with
  | nx ρ' => exact fun σ' H' f' R y => h σ' H' f' R (x.trans y)
  | brk ρ' => exact fun σ' H' f' R y => h σ' H' f' R (x.trans y)
  | ct ρ' => exact fun σ' H' f' R y => h σ' H' f' R (x.trans y)
  | ret d ρ' => exact h
  | retF c ρ' => exact h
  | exc c ρ' => exact h
theorem SOut.xp {G : Gc} {W : WX} {E : Ends} {H : Hp} {ρ : Rho} {f : Nat → Addr} {r : SR} (h : SOut G W E H ρ f r) {σ : L2.St} {f1 : Nat → Addr} : ∀ c ρ', r = .exc c ρ' → XP G W σ c ρ' f1 := fun c ρ' e cls H' hc R => by
  subst e
  exact h cls σ H' f1 hc R
section
variable {X : Cx} {G : Gc} {W : WX} {a b c e : Expr} {es : List Expr} {m ma mb mc : M D} {mt mu : M Bool} {pos : Pos} {k : Nat} {st : Stmt} {rest sts : List Stmt} {n n' : SS}
theorem tD_of {α : Type} {m : M D} {k : D → SS} {σ : L2.St} {H : Hp} {ρ : Rho} {f : Nat → Addr} {r : SR} {Q : VK} {E : Ends} (Rl : Rel G σ H ρ f) (h : S.of m k ρ = some r) (hp : SOut G W E H ρ f r)
    (hk : ∀ d ρ' v H', k d ρ' = some r → Rel G σ H' ρ' f → Ext (Bad G ρ f) H (Bad G ρ' f) H' → Has G.K (Bad G ρ' f) H' v d → Q v H') : tD G W m σ H Q := by
  rcases of_inv h with ⟨c, ρ', e1, e2⟩ | ⟨d, ρ', e1, e2⟩
  · exact ⟨ρ, f, _, Rl, e1, hp.xp c ρ' e2⟩
  · exact ⟨ρ, f, _, Rl, e1, fun v H' R' x hh => hk d ρ' v H' e2 R' x hh⟩
theorem tF_of {m : M Cell} {k : Cell → SS} {σ : L2.St} {H : Hp} {ρ : Rho} {f : Nat → Addr} {r : SR} {Q : VK} {E : Ends} (Rl : Rel G σ H ρ f) (h : S.of m k ρ = some r) (hp : SOut G W E H ρ f r)
    (hk : ∀ d ρ' p H', k d ρ' = some r → NewAt G σ H' ρ' f p d → Ext (Bad G ρ f) H (fun a => Bad G ρ' f a ∨ a = p) H' → Q (.ref p) H') : tF G W m σ H Q := by
  rcases of_inv h with ⟨c, ρ', e1, e2⟩ | ⟨d, ρ', e1, e2⟩
  · exact ⟨ρ, f, _, Rl, e1, hp.xp c ρ' e2⟩
  · exact ⟨ρ, f, _, Rl, e1, fun v H' N x => hk d ρ' v H' e2 N x⟩
theorem tT_of {m : M Bool} {k : Bool → SS} {σ : L2.St} {H : Hp} {ρ : Rho} {f : Nat → Addr} {r : SR} {Q : Bool → Hp → Prop} {E : Ends} (Rl : Rel G σ H ρ f) (h : S.of m k ρ = some r) (hp : SOut G W E H ρ f r)
    (hk : ∀ d ρ' H', k d ρ' = some r → Rel G σ H' ρ' f → Ext (Bad G ρ f) H (Bad G ρ' f) H' → Q d H') : tT G W m σ H Q := by
  rcases of_inv h with ⟨c, ρ', e1, e2⟩ | ⟨d, ρ', e1, e2⟩
  · exact ⟨ρ, f, _, Rl, e1, hp.xp c ρ' e2⟩
  · exact ⟨ρ, f, _, Rl, e1, fun H' R' x => hk d ρ' H' e2 R' x⟩
/-! ### blocks -/
theorem dss_nil : DSs X G W [] S.nx := impSs pss_nil fun E σ H ⟨ρ, f, r, R, hm, hp⟩ => by
  cases hm
  exact hp σ H f R (Ext.refl _ _)
theorem dss_one (h : DS X G W st n) : DSs X G W [st] n := pss_one h
theorem dss_cons (h : DS X G W st n) (h2 : DSs X G W rest n') : DSs X G W (st :: rest) (S.seq n n') := by
  refine impSs (pss_cons h h2) ?_
  rintro E σ H ⟨ρ, f, r, R, hm, hp⟩
  unfold S.seq at hm
  cases e : n ρ with
  | none => rw [e] at hm; cases hm
  | some q =>
    rw [e] at hm
    refine ⟨ρ, f, q, R, e, ?_⟩
    cases q with
    | nx ρ1 => exact fun σ1 H1 f1 R1 x1 => ⟨ρ1, f1, r, R1, hm, hp.mono x1⟩
    | ret d ρ1 => cases hm; exact hp
    | retF d ρ1 => cases hm; exact hp
    | brk ρ1 => cases hm; exact hp
    | ct ρ1 => cases hm; exact hp
    | exc c ρ1 => cases hm; exact hp
theorem ds_pass : DS X G W (.Pass pos) S.nx := impS ps_pass fun E σ H ⟨ρ, f, r, R, hm, hp⟩ => by
  cases hm
  exact hp σ H f R (Ext.refl _ _)
def S.brk : SS := fun ρ => some (.brk ρ)
def S.ct : SS := fun ρ => some (.ct ρ)
theorem ds_break : DS X G W (.Break pos) S.brk := impS ps_break fun E σ H ⟨ρ, f, r, R, hm, hp⟩ => by
  cases hm
  exact hp σ H f R (Ext.refl _ _)
theorem ds_continue : DS X G W (.Continue pos) S.ct := impS ps_continue fun E σ H ⟨ρ, f, r, R, hm, hp⟩ => by
  cases hm
  exact hp σ H f R (Ext.refl _ _)
def S.ret (m : M D) : SS := S.of m fun d ρ => some (.ret d ρ)
def S.retF (m : M Cell) : SS := S.of m fun c ρ => some (.retF c ρ)
theorem ds_ret (h : DE X G W e m) : DS X G W (.Return (some e) pos) (S.ret m) := by
  refine impS (ps_ret h) ?_
  rintro E σ H ⟨ρ, f, r, R, hm, hp⟩
  refine tD_of (α := D) R hm hp fun d ρ1 v H1 hk R1 x1 hv => ?_
  cases hk
  exact hp v σ H1 f R1 hv
theorem ds_retF {m : M Cell} (h : DF X G W e m) : DS X G W (.Return (some e) pos) (S.retF m) := by
  refine impS (ps_ret h) ?_
  rintro E σ H ⟨ρ, f, r, R, hm, hp⟩
  refine tF_of R hm hp fun d ρ1 v H1 hk N x1 => ?_
  cases hk
  exact hp v σ H1 f N
def S.retN : SS := fun ρ => some (.ret .none ρ)
theorem ds_retN : DS X G W (.Return none pos) S.retN := impS ps_retN fun E σ H ⟨ρ, f, r, R, hm, hp⟩ => by
  cases hm
  exact hp .non σ H f R .non
def S.drop (m : M D) : SS := S.of m fun _ ρ => some (.nx ρ)
theorem ds_expr (h : DE X G W e m) (hs : swapsWith e none pos.line X.env = pure false := by rfl) : DS X G W (.Expr e pos) (S.drop m) := by
  refine impS (ps_expr h hs) ?_
  rintro E σ H ⟨ρ, f, r, R, hm, hp⟩
  refine tD_of (α := D) R hm hp fun d ρ1 v H1 hk R1 x1 hv => ?_
  cases hk
  exact hp σ H1 f R1 x1
def S.ife (mt : M Bool) (n n' : SS) : SS := S.of mt fun t => if t = true then n else n'
theorem ds_if {sa sb : List Stmt} (ht : DT X G W c mt) (ha : DSs X G W sa n) (hb : DSs X G W sb n') : DS X G W (.If c sa sb pos) (S.ife mt n n') := by
  refine impS (ps_if ht ha hb) ?_
  rintro E σ H ⟨ρ, f, r, R, hm, hp⟩
  refine tT_of R hm hp fun t ρ1 H1 hk R1 x1 => ?_
  cases t with
  | true => rw [if_pos rfl] at hk ⊢; exact ⟨ρ1, f, r, R1, hk, hp.mono x1⟩
  | false => rw [if_neg Bool.false_ne_true] at hk ⊢; exact ⟨ρ1, f, r, R1, hk, hp.mono x1⟩
end

/-! ### stores -/
def isMut : Sl → Bool
  | .mut _ _ => true
  | _ => false
def isInn (ρ : Rho) (i : Nat) : Bool := match ρ[i]? with
  | some (some (.mut false _)) => true
  | _ => false
section
variable {G : Gc} {σ : L2.St} {H : Hp} {ρ : Rho} {f : Nat → Addr} {i : Nat} {c : Cell}
/-- slot i holds data, or nothing that is known -/
theorem Rel.put (R : Rel G σ H ρ f) (hi : isInn ρ i = false) {s : Option Sl} {w : Option V} (hs : ∀ t, s = some t → isMut t = false ∧ ∃ v, w = some v ∧ ∀ q, SlOk G (Bad G ρ f) H q v t) :
    Rel G (σ.set i w) H (ρ.set i s) f ∧ Ext (Bad G ρ f) H (Bad G (ρ.set i s) f) H := by
  have nm : ∀ b c, s = some (.mut b c) → False := fun b c e => by
    have := (hs _ e).1
    cases this
  have sub : ∀ a, Bad G (ρ.set i s) f a → Bad G ρ f a := fun a z => by
    rcases z with z | ⟨j, c', e, z⟩
    · exact .inl z
    · rcases get_set e with ⟨_, e2, _⟩ | ⟨_, e2⟩
      · exact (nm _ _ e2.symm).elim
      · exact .inr ⟨j, c', e2, z⟩
  have x : Ext (Bad G ρ f) H (Bad G (ρ.set i s) f) H := fun a o hb e => ⟨fun z => hb (sub a z), e⟩
  refine ⟨⟨?_, R.keep, R.dom, fun j c' e => ?_, fun j k b c' b' c'' e1 e2 z => ?_, fun j c' e => ?_, fun p hp => ?_, fun j t e => ?_⟩, x⟩
  · rw [List.length_set, List.length_set]; exact R.len
  · rcases get_set e with ⟨_, e2, _⟩ | ⟨_, e2⟩
    · exact (nm _ _ e2.symm).elim
    · exact R.own j c' e2
  · rcases get_set e1 with ⟨_, e3, _⟩ | ⟨_, e3⟩
    · exact (nm _ _ e3.symm).elim
    · rcases get_set e2 with ⟨_, e4, _⟩ | ⟨_, e4⟩
      · exact (nm _ _ e4.symm).elim
      · exact R.inj j k _ _ _ _ e3 e4 z
  · rcases get_set e with ⟨_, e2, _⟩ | ⟨_, e2⟩
    · exact (nm _ _ e2.symm).elim
    · exact R.inn j c' e2
  · obtain ⟨c', e1, e2⟩ := R.innB p hp
    refine ⟨c', ?_, e2⟩
    have ne : i ≠ p.1 := fun z => by
      rw [← z] at e1
      unfold isInn at hi
      rw [e1] at hi
      cases hi
    rw [List.getElem?_set_ne ne]
    exact e1
  · rcases get_set e with ⟨e1, e2, hl⟩ | ⟨hj, e2⟩
    · subst e1
      obtain ⟨_, v, ev, h⟩ := hs t e2.symm
      have hl' : j < σ.length := by rw [R.len]; exact hl
      refine ⟨v, by rw [List.getElem?_set_self hl', ev], (h (f j)).ext x fun _ => rfl⟩
    · obtain ⟨v, e3, h3⟩ := R.sl j t e2
      exact ⟨v, by rw [List.getElem?_set_ne (Ne.symm hj)]; exact e3, h3.ext x fun _ => rfl⟩
theorem Rel.putD (R : Rel G σ H ρ f) (hi : isInn ρ i = false) {d : D} {v : V} (h : Has G.K (Bad G ρ f) H v d) : Rel G (σ.set i (some v)) H (ρ.set i (some (.dat d))) f ∧ Ext (Bad G ρ f) H (Bad G (ρ.set i (some (.dat d))) f) H :=
  R.put hi fun t e => by cases e; exact ⟨rfl, v, rfl, fun _ => h⟩
def setF (f : Nat → Addr) (i : Nat) (p : Addr) : Nat → Addr := fun j => if j = i then p else f j
theorem setF_at {i j : Nat} {p : Addr} (h : j = i) : setF f i p j = p := if_pos h
theorem setF_ne {i j : Nat} {p : Addr} (h : j ≠ i) : setF f i p j = f j := if_neg h
/-- slot i holds a new object -/
theorem NewAt.put {p : Addr} (N : NewAt G σ H ρ f p c) (hi : isInn ρ i = false) :
    ∃ f', Rel G (σ.set i (some (.ref p))) H (ρ.set i (some (.mut true c))) f' ∧ ∀ a, Bad G (ρ.set i (some (.mut true c))) f' a → Bad G ρ f a ∨ a = p := by
  obtain ⟨R, RP, fr, ok⟩ := N
  refine ⟨setF f i p, ?_⟩
  have sub : ∀ a, Bad G (ρ.set i (some (.mut true c))) (setF f i p) a → Bad G ρ f a ∨ a = p := fun a z => by
    rcases z with z | ⟨j, c', e, z⟩
    · exact .inl (.inl z)
    · rcases get_set e with ⟨e1, _, _⟩ | ⟨hj, e2⟩
      · rw [setF_at e1] at z
        exact .inr z
      · rw [setF_ne hj] at z
        exact .inl (.inr ⟨j, c', e2, z⟩)
  have x : Ext (fun a => Bad G ρ f a ∨ a = p) H (Bad G (ρ.set i (some (.mut true c))) (setF f i p)) H := fun a o hb e => ⟨fun z => hb (sub a z), e⟩
  refine ⟨⟨?_, R.keep, R.dom, fun j c' e => ?_, fun j k b c' b' c'' e1 e2 z => ?_, fun j c' e => ?_, fun q hq => ?_, fun j t e => ?_⟩, sub⟩
  · rw [List.length_set, List.length_set]; exact R.len
  · rcases get_set e with ⟨e1, e2, _⟩ | ⟨hj, e2⟩
    · rw [setF_at e1]
      exact ⟨fr.a, fr.h0⟩
    · rw [setF_ne hj]
      exact R.own j c' e2
  · rcases get_set e1 with ⟨h1, e3, _⟩ | ⟨h1, e3⟩
    · rcases get_set e2 with ⟨h2, e4, _⟩ | ⟨h2, e4⟩
      · rw [h1, h2]
      · rw [setF_at h1, setF_ne h2] at z
        exact absurd z.symm (fr.m k _ _ e4)
    · rcases get_set e2 with ⟨h2, e4, _⟩ | ⟨h2, e4⟩
      · rw [setF_ne h1, setF_at h2] at z
        exact absurd z (fr.m j _ _ e3)
      · rw [setF_ne h1, setF_ne h2] at z
        exact R.inj j k _ _ _ _ e3 e4 z
  · rcases get_set e with ⟨_, e2, _⟩ | ⟨hj, e2⟩
    · cases e2
    · rw [setF_ne hj]
      exact R.inn j c' e2
  · obtain ⟨c', e1, e2⟩ := R.innB q hq
    have ne : i ≠ q.1 := fun z => by
      rw [← z] at e1
      unfold isInn at hi
      rw [e1] at hi
      cases hi
    refine ⟨c', ?_, ?_⟩
    · rw [List.getElem?_set_ne ne]
      exact e1
    · rw [setF_ne (Ne.symm ne)]
      exact e2
  · rcases get_set e with ⟨e1, e2, hl⟩ | ⟨hj, e2⟩
    · subst e1
      cases e2
      have hl' : j < σ.length := by rw [R.len]; exact hl
      rw [setF_at rfl]
      exact ⟨.ref p, by rw [List.getElem?_set_self hl'], rfl, ok.ext x rfl⟩
    · obtain ⟨v, e3, h3⟩ := RP.sl j t e2
      rw [setF_ne hj]
      exact ⟨v, by rw [List.getElem?_set_ne (Ne.symm hj)]; exact e3, (h3.ext (fun a o hb e => ⟨fun z => hb (bad_plus.mpr (sub a z)), e⟩) fun _ => rfl).minus⟩
end
end DL
namespace DL
open PySem PySem.Spec PyProof.Rows L2

/-! ### targets -/
abbrev TgM := D → Rho → Option Rho
def tGt (G : Gc) (m : TgM) : TG := fun v σ H Q => ∃ ρ f d ρ', Rel G σ H ρ f ∧ Has G.K (Bad G ρ f) H v d ∧ m d ρ = some ρ' ∧ ∀ σ' f', Rel G σ' H ρ' f' → Ext (Bad G ρ f) H (Bad G ρ' f') H → Q σ' H
abbrev DG (X : Cx) (G : Gc) (e : Expr) (m : TgM) : Prop := PG X e (tGt G m)
def tGts (G : Gc) (m : List D → Rho → Option Rho) : TGs := fun vs σ H Q => ∃ ρ f ds ρ', Rel G σ H ρ f ∧ HasL G.K (Bad G ρ f) H vs ds ∧ m ds ρ = some ρ' ∧ ∀ σ' f', Rel G σ' H ρ' f' → Ext (Bad G ρ f) H (Bad G ρ' f') H → Q σ' H
abbrev DGs (X : Cx) (G : Gc) (es : List Expr) (m : List D → Rho → Option Rho) : Prop := PGs X es (tGts G m)
def tgN (i : Nat) : TgM := fun d ρ => if isInn ρ i = true then none else some (ρ.set i (some (.dat d)))
def tgNil : List D → Rho → Option Rho := fun ds ρ => match ds with
  | [] => some ρ
  | _ => none
def tgCons (m : TgM) (r : List D → Rho → Option Rho) : List D → Rho → Option Rho := fun ds ρ => match ds with
  | d :: ds => (m d ρ).bind (r ds)
  | [] => none
def tgT (n : Nat) (r : List D → Rho → Option Rho) : TgM := fun d ρ => match d with
  | .tuple ds => if ds.length = n then r ds ρ else none
  | _ => none
section
variable {X : Cx} {G : Gc} {W : WX} {a b c e tg : Expr} {es : List Expr} {m ma mb mc : M D} {mt mu : M Bool} {pos : Pos} {k : Nat} {st : Stmt} {rest sts : List Stmt} {n n' : SS} {gm : TgM} {gr : List D → Rho → Option Rho}
theorem impG {t t' : TG} (h : PG X e t) (w : ∀ v σ H Q, t' v σ H Q → t v σ H Q) : PG X e t' := ⟨fun pins s σ H v u Q I r hq => h.run pins s σ H v u Q I r (w v σ H Q hq)⟩
theorem impGs {t t' : TGs} (h : PGs X es t) (w : ∀ v σ H Q, t' v σ H Q → t v σ H Q) : PGs X es t' := ⟨fun pins s σ H v u Q I r hq => h.run pins s σ H v u Q I r (w v σ H Q hq)⟩
theorem dg_name {x : Str} (i : Nat) (hN : X.N.Nodup) (hi : X.N[i]? = some x := by rfl) (hx : Loc X.env.scope x := by first | exact Or.inl rfl | exact Or.inr rfl) (hf : X.fn x = true ∨ X.env.scope.names.lookup x = some .local := by first | exact .inl rfl | exact .inr rfl | assumption) : DG X G (.Name x pos) (tgN i) := by
  refine impG (pg_name hN hi hx hf) ?_
  rintro v σ H Q ⟨ρ, f, d, ρ', R, h, hm, q⟩
  unfold tgN at hm
  split at hm
  · cases hm
  · rename_i hin
    cases hm
    obtain ⟨R', x⟩ := R.putD (i := i) (by simpa using hin) h
    exact q _ f R' x
theorem dgs_nil : DGs X G [] tgNil := impGs pgs_nil fun v σ H Q ⟨ρ, f, ds, ρ', R, h, hm, q⟩ => by
  cases h with
  | nil => cases hm; exact ⟨rfl, q σ f R (Ext.refl _ _)⟩
  | cons _ _ => cases hm
theorem dgs_cons (h : DG X G e gm) (h2 : DGs X G es gr) (hs : (assignEach (e :: es) X.env).map (·.2) = assign e X.env :: (assignEach es X.env).map (·.2) := by rfl) : DGs X G (e :: es) (tgCons gm gr) := by
  refine impGs (pgs_cons h h2 hs) ?_
  rintro v σ H Q ⟨ρ, f, ds, ρ', R, h, hm, q⟩
  cases h with
  | nil => cases hm
  | cons h1 h2 =>
    obtain ⟨ρ1, e1, e2⟩ := Option.bind_eq_some_iff.mp (show (gm _ ρ).bind _ = some ρ' from hm)
    exact ⟨_, _, rfl, ρ, f, _, ρ1, R, h1, e1, fun σ1 f1 R1 x1 => ⟨ρ1, f1, _, ρ', R1, h2.ext x1, e2, fun σ2 f2 R2 x2 => q σ2 f2 R2 (x1.trans x2)⟩⟩
theorem dg_tup {kk l : Nat} (hc : X.calm = true) (h : DGs X G es gr) (hn : (assignEach es X.env).length = l := by rfl) (hst : (assignEach es X.env).findIdx? (·.1) = none := by rfl) (hk : X.K = G.K := by rfl) : DG X G (.Tuple es kk pos) (tgT l gr) := by
  refine impG (pg_tup hc h hn hst) ?_
  rintro v σ H Q ⟨ρ, f, d, ρ', R, h, hm, q⟩
  cases d <;> try (cases hm)
  rename_i ds
  simp only [tgT] at hm
  split at hm
  · rename_i hl
    obtain ⟨a, xs, rfl, r1, s1, h1⟩ := h.tup_inv
    exact ⟨a, xs, rfl, hk ▸ s1, by rw [h1.length]; exact hl, ρ, f, ds, ρ', R, h1, hm, q⟩
  · cases hm
/-- target = e -/
def S.asg (m : M D) (g : TgM) : SS := S.of m fun d ρ => match g d ρ with
  | some ρ' => some (.nx ρ')
  | none => none
theorem asg_imp {g : TgM} : ∀ E σ H, tS G W (S.asg m g) E σ H → tAsg (tD G W m) (tGt G g) E σ H := by
  rintro E σ H ⟨ρ, f, r, R, hm, hp⟩
  refine tD_of (α := D) R hm hp fun d ρ1 v H1 hk R1 x1 hv => ?_
  cases e : g d ρ1 with
  | none => rw [e] at hk; cases hk
  | some ρ2 =>
    rw [e] at hk
    cases hk
    exact ⟨ρ1, f, d, ρ2, R1, hv, e, fun σ' f' R' x' => hp σ' H1 f' R' (x1.trans x')⟩
theorem ds_asg {g : TgM} (he : DE X G W e m) (hg : DG X G tg g) (hs : swapsWithSole [tg] e pos.line X.env = pure false := by rfl) (hw : swappedStores [tg] e X.env = pure none := by rfl)
    (h1 : (assignEach [tg] X.env).map (·.2) = [assign tg X.env] := by rfl) : DS X G W (.Assign [tg] e pos) (S.asg m g) := impS (ps_asg he hg hs hw h1) asg_imp
theorem ds_set {x : Str} {pos' : Pos} (i : Nat) (hN : X.N.Nodup) (he : DE X G W e m) (hi : X.N[i]? = some x := by rfl) (hx : Loc X.env.scope x := by first | exact Or.inl rfl | exact Or.inr rfl)
    (hs : swapsWith e (some (.Name x pos')) pos.line X.env = pure false := by rfl) (hf : X.fn x = true ∨ X.env.scope.names.lookup x = some .local := by first | exact .inl rfl | exact .inr rfl | assumption) : DS X G W (.Assign [.Name x pos'] e pos) (S.asg m (tgN i)) := by
  refine impS (ps_set hN hi hx he hs hf) ?_
  rintro E σ H ⟨ρ, f, r, R, hm, hp⟩
  refine tD_of (α := D) R hm hp fun d ρ1 v H1 hk R1 x1 hv => ?_
  unfold tgN at hk
  split at hk
  · rename_i ρ2 e2
    split at e2
    · cases e2
    · rename_i hin
      cases e2
      cases hk
      obtain ⟨R', x⟩ := R1.putD (i := i) (by simpa using hin) hv
      exact hp _ H1 f R' (x1.trans x)
  · cases hk
/-- a name holds a new object that is changed later on -/
def S.setF (m : M Cell) (i : Nat) : SS := S.of m fun c ρ => if isInn ρ i = true then none else some (.nx (ρ.set i (some (.mut true c))))
theorem ds_setF {m : M Cell} {x : Str} {pos' : Pos} (i : Nat) (hN : X.N.Nodup) (he : DF X G W e m) (hi : X.N[i]? = some x := by rfl) (hx : Loc X.env.scope x := by first | exact Or.inl rfl | exact Or.inr rfl)
    (hs : swapsWith e (some (.Name x pos')) pos.line X.env = pure false := by rfl) (hf : X.fn x = true ∨ X.env.scope.names.lookup x = some .local := by first | exact .inl rfl | exact .inr rfl | assumption) : DS X G W (.Assign [.Name x pos'] e pos) (S.setF m i) := by
  refine impS (ps_set hN hi hx he hs hf) ?_
  rintro E σ H ⟨ρ, f, r, R, hm, hp⟩
  refine tF_of R hm hp fun d ρ1 p H1 hk N x1 => ?_
  split at hk
  · cases hk
  · rename_i hin
    cases hk
    obtain ⟨f', R', sub⟩ := N.put (i := i) (by simpa using hin)
    exact hp _ H1 f' R' fun a o hb e => ⟨fun z => (x1 a o hb e).1 (sub a z), (x1 a o hb e).2⟩

/-! ### what is walked -/
structure WalkOk (G : Gc) (B : Addr → Prop) (H : Hp) (ds : List D) (J : It) (n : Nat) (Gh : Hp → Prop) (Y : Nat → Hp → V → Hp → Prop) : Prop where
  len : ds.length = n
  walk : Walk J n Gh Y
  keep : ∀ B' H', Ext B H B' H' → Gh H'
  item : ∀ i d B' H1 x H2, ds[i]? = some d → Ext B H B' H1 → (∀ p, H1 p = none → ¬ B' p) → Y i H1 x H2 → Same H1 H2 ∧ Has G.K B' H2 x d
def tI (G : Gc) (W : WX) (m : M (List D)) : TI := fun σ H Rr => ∃ ρ f r, Rel G σ H ρ f ∧ m ρ = some r ∧
  Out r (fun ds ρ' => ∀ J n Gh Y H', Rel G σ H' ρ' f → Ext (Bad G ρ f) H (Bad G ρ' f) H' → WalkOk G (Bad G ρ' f) H' ds J n Gh Y → Rr J H') (fun c ρ' => XP G W σ c ρ' f)
abbrev DI (X : Cx) (G : Gc) (W : WX) (tg e : Expr) (m : M (List D)) : Prop := PI X tg e (tI G W m)
theorem impI {t t' : TI} (h : PI X tg e t) (w : ∀ σ H R, t' σ H R → t σ H R) : PI X tg e t' := ⟨fun pins s σ H R I hq => h.run pins s σ H R I (w σ H R hq)⟩
/-- data that is walked -/
def itemsD : D → Option (List D)
  | .list ds => some ds
  | .tuple ds => some ds
  | .str z => some (z.cps.toList.map fun c => .str ⟨#[c]⟩)
  | _ => none
def M.items (m : M D) : M (List D) := m.bind fun d => .lift (itemsD d)
def iSeq (K : PySem.W.Frag) (tl : TE) : TI := fun σ H R => tl σ H fun x H1 => (∃ a xs, x = .ref a ∧ SqL K H1 a xs ∧ R (Itl K a) H1) ∨ (∃ a xs, x = .ref a ∧ SqT K H1 a xs ∧ R (Itt K a) H1) ∨ ∃ z, x = .str z ∧ R (Its z) H1
theorem pi_seq {l : Expr} {tl : TE} (hl : PE X l tl) : PI X tg l (iSeq X.K tl) := by
  refine ⟨fun pins s σ H R I h => ?_⟩
  refine thn (hl.run pins s σ H _ I h) fun v s1 ⟨x, H1, I1, r1, q1⟩ => ?_
  rcases q1 with ⟨a, xs, e, hq, q⟩ | ⟨a, xs, e, hq, q⟩ | ⟨z, e, q⟩
  · subst e
    cases r1
    obtain ⟨its, rv, p, hz⟩ := I1.list hq
    refine wpAny_pyIter_list p.isList ?_
    refine ⟨s1.heap.objs.size, [s1.heap.objs.size], _, _, H1, rfl, I1.kept (t' := s1.toks) fun b o e => Heap.get?_push_of_some _ e, turn_list a _, ⟨_, Heap.get?_push_size _ rfl, rfl, rfl⟩, fun b hb => ?_, q⟩
    have e : b = s1.heap.objs.size := by simpa using hb
    subst e
    exact I1.fpOk (Nat.le_refl _) (I1.hok.fresh (Nat.le_refl _))
  · subst e
    cases r1
    obtain ⟨its, rv, p, hz⟩ := I1.tuple hq
    refine wpAny_pyIter_tuple (show s1.heap.IsTuple a its.toArray from p) ?_
    refine ⟨s1.heap.objs.size, [s1.heap.objs.size], _, _, H1, rfl, I1.kept (t' := s1.toks) fun b o e => Heap.get?_push_of_some _ e, turn_tuple a _, ⟨_, Heap.get?_push_size _ rfl, rfl, rfl⟩, fun b hb => ?_, q⟩
    have e : b = s1.heap.objs.size := by simpa using hb
    subst e
    exact I1.fpOk (Nat.le_refl _) (I1.hok.fresh (Nat.le_refl _))
  · subst e
    obtain ⟨t, rfl⟩ := r1
    cases ha : z.cps.all (· < 128)
    · exact wpAny_pyIter_wide ha (pi_one (tk := s1.toks) I1 _ (turn_str _ z t "str_iterator" (.inr rfl)) ⟨_, Heap.get?_push_size _ rfl, rfl, rfl⟩ q)
    · exact wpAny_pyIter_ascii ha (pi_one (tk := s1.toks) I1 _ (turn_str _ z t "str_ascii_iterator" (.inl rfl)) ⟨_, Heap.get?_push_size _ rfl, rfl, rfl⟩ q)
theorem rd_keep {B B' : Addr → Prop} {H H' : Hp} {K : PySem.W.Frag} {a : Addr} {xs : List V} (h : (¬ B a ∧ Rd H a (.lst xs)) ∨ KL K a xs) (x : Ext B H B' H') : SqL K H' a xs := h.elim (fun h => .inl (x.rd h.1 h.2).2) .inr
theorem sqt_keep {B B' : Addr → Prop} {H H' : Hp} {K : PySem.W.Frag} {a : Addr} {xs : List V} (h : (¬ B a ∧ Rd H a (.tup xs)) ∨ KT K a xs) (x : Ext B H B' H') : SqT K H' a xs := h.elim (fun h => .inl (x.rd h.1 h.2).2) .inr
theorem di_items (h : DE X G W e m) (hk : X.K = G.K := by rfl) : DI X G W tg e (M.items m) := by
  refine impI (pi_seq h) ?_
  rintro σ H Rr ⟨ρ, f, r, R, hm, hp⟩
  refine tD_bind R hm (xok hp) fun d ρ1 v H1 hk1 R1 x1 hv => ?_
  obtain ⟨ds, e, er⟩ := lift_inv hk1
  subst er
  cases d <;> try (cases e)
  · rename_i z
    refine .inr (.inr ⟨z, hv.str_inv, hp _ _ _ _ H1 R1 x1 ⟨by simp, walk_str, fun _ _ _ => trivial, fun i d B' H2 x H3 e x2 hf y => ?_⟩⟩)
    obtain ⟨rfl, c, e1, rfl⟩ := y
    refine ⟨Same.refl _, ?_⟩
    rw [List.getElem?_map, Array.getElem?_toList, e1] at e
    cases e
    exact .str _
  · obtain ⟨a, xs, rfl, h1, s1, h2⟩ := hv.lst_inv
    refine .inl ⟨a, xs, rfl, hk ▸ s1, hp _ _ _ _ H1 R1 x1 ⟨h2.length.symm, walk_list, fun B' H' x => by rw [hk]; exact rd_keep h1 x, fun i d B' H2 x H3 e x2 hf y => ?_⟩⟩
    obtain ⟨rfl, e1⟩ := y
    obtain ⟨v, e2, h3⟩ := h2.get e
    rw [e1] at e2
    cases e2
    exact ⟨Same.refl _, h3.ext x2⟩
  · obtain ⟨a, xs, rfl, h1, s1, h2⟩ := hv.tup_inv
    refine .inr (.inl ⟨a, xs, rfl, hk ▸ s1, hp _ _ _ _ H1 R1 x1 ⟨h2.length.symm, walk_tup, fun B' H' x => by rw [hk]; exact sqt_keep h1 x, fun i d B' H2 x H3 e x2 hf y => ?_⟩⟩)
    obtain ⟨rfl, e1⟩ := y
    obtain ⟨v, e2, h3⟩ := h2.get e
    rw [e1] at e2
    cases e2
    exact ⟨Same.refl _, h3.ext x2⟩
/-! ranges -/
def rangeL (lo hi : Int) : List D := (List.range (hi - lo).toNat).map fun i => .int (lo + (i : Nat))
def okR (i : Int) : Bool := decide (-(2 ^ 62) ≤ i) && decide (i < 2 ^ 62)
def rng1D : List D → Option (List D)
  | [.int j] => if okR j = true then some (rangeL 0 j) else none
  | _ => none
def rng2D : List D → Option (List D)
  | [.int i, .int j] => if okR i = true ∧ okR j = true then some (rangeL i j) else none
  | _ => none
def M.rng1 (ms : M (List D)) : M (List D) := ms.bind fun ds => .lift (rng1D ds)
def M.rng2 (ms : M (List D)) : M (List D) := ms.bind fun ds => .lift (rng2D ds)
theorem okR_spec {i : Int} (h : okR i = true) : -(2 ^ 62) ≤ i ∧ i < 2 ^ 62 := by simpa [okR] using h
theorem walk_rng {B : Addr → Prop} {H : Hp} {lo hi : Int} : WalkOk G B H (rangeL lo hi) (Itr lo (hi - lo).toNat) (hi - lo).toNat (fun _ => True) (YFn fun i => .int (lo + i)) := by
  refine ⟨by simp [rangeL], walk_range, fun _ _ _ => trivial, fun i d B' H2 x H3 e x2 hf y => ?_⟩
  obtain ⟨rfl, rfl⟩ := y
  refine ⟨Same.refl _, ?_⟩
  simp only [rangeL, List.getElem?_map] at e
  cases e2 : (List.range (hi - lo).toNat)[i]? with
  | none => rw [e2] at e; cases e
  | some j =>
    rw [e2] at e
    have := List.getElem?_eq_some_iff.mp e2
    obtain ⟨h1, h2⟩ := this
    rw [List.getElem_range] at h2
    subst h2
    cases e
    exact .int _
theorem di_range1 {p : Pos} {ms : M (List D)} (hm : X.mg "range" = none) (ha : DA X G W [a] ms) (hg : Gl X "range" := by rfl) (hs : starEach [a] X.env = [(false, eval a X.env)] := by rfl) : DI X G W tg (.Call (.Name "range" p) [a] [] pos) (M.rng1 ms) := by
  refine impI (pi_range1 hg hm ha hs) ?_
  rintro σ H Rr ⟨ρ, f, r, R, hm, hp⟩
  refine tA_bind R hm (xok hp) fun ds ρ1 vs H1 hk1 R1 x1 hv => ?_
  obtain ⟨es, e, er⟩ := lift_inv hk1
  subst er
  unfold rng1D at e
  split at e
  · split at e
    · rename_i j ho
      cases e
      cases hv with
      | cons h1 h2 =>
        cases h2
        have o := okR_spec ho
        have hh := hp (Itr 0 (j - 0).toNat) _ _ _ H1 R1 x1 walk_rng
        rw [Int.sub_zero] at hh
        exact ⟨j, by rw [h1.int_inv], o.1, o.2, hh⟩
    · cases e
  · cases e
theorem di_range2 {p : Pos} {ms : M (List D)} (hm : X.mg "range" = none) (ha : DA X G W [a, b] ms) (hg : Gl X "range" := by rfl) (hs : starEach [a, b] X.env = [(false, eval a X.env), (false, eval b X.env)] := by rfl) (hs2 : starEach [b] X.env = [(false, eval b X.env)] := by rfl) :
    DI X G W tg (.Call (.Name "range" p) [a, b] [] pos) (M.rng2 ms) := by
  refine impI (pi_range2 hg hm ha hs hs2) ?_
  rintro σ H Rr ⟨ρ, f, r, R, hm, hp⟩
  refine tA_bind R hm (xok hp) fun ds ρ1 vs H1 hk1 R1 x1 hv => ?_
  obtain ⟨es, e, er⟩ := lift_inv hk1
  subst er
  unfold rng2D at e
  split at e
  · split at e
    · rename_i i j ho
      cases e
      cases hv with
      | cons h1 h2 =>
        cases h2 with
        | cons h2 h3 =>
          cases h3
          have o1 := okR_spec ho.1
          have o2 := okR_spec ho.2
          exact ⟨i, j, by rw [h1.int_inv, h2.int_inv], ⟨o1.1, o1.2, o2.1, o2.2⟩, hp _ _ _ _ H1 R1 x1 walk_rng⟩
    · cases e
  · cases e

/-! ### for -/
/-- behind a loop's turn -/
def S.turn (body next : SS) : SS := fun ρ => match body ρ with
  | some (.nx ρ2) => next ρ2
  | some (.ct ρ2) => next ρ2
  | some (.brk ρ2) => some (.nx ρ2)
  | q => q
def loopM (g : TgM) (body : SS) : List D → SS
  | [] => S.nx
  | d :: r => fun ρ => match g d ρ with
    | none => none
    | some ρ1 => S.turn body (loopM g body r) ρ1
def S.forS (ms : M (List D)) (g : TgM) (body : SS) : SS := S.of ms fun ds => loopM g body ds
theorem tI_of {ms : M (List D)} {k : List D → SS} {σ : L2.St} {H : Hp} {ρ : Rho} {f : Nat → Addr} {r : SR} {Q : It → Hp → Prop} {E : Ends} (Rl : Rel G σ H ρ f) (h : S.of ms k ρ = some r) (hp : SOut G W E H ρ f r)
    (hk : ∀ ds ρ' J n Gh Y H', k ds ρ' = some r → Rel G σ H' ρ' f → Ext (Bad G ρ f) H (Bad G ρ' f) H' → WalkOk G (Bad G ρ' f) H' ds J n Gh Y → Q J H') : tI G W ms σ H Q := by
  rcases of_inv h with ⟨c, ρ', e1, e2⟩ | ⟨d, ρ', e1, e2⟩
  · exact ⟨ρ, f, _, Rl, e1, hp.xp c ρ' e2⟩
  · exact ⟨ρ, f, _, Rl, e1, fun J n Gh Y H' R' x hh => hk d ρ' J n Gh Y H' e2 R' x hh⟩
theorem ds_for {ms : M (List D)} {g : TgM} {body : List Stmt} (hp : PassesOwn (model X.prog X.w) X.A X.env X.xe) (hc : X.calm = true) (hi : DI X G W tg e ms) (hg : DG X G tg g) (hb : DSs X G W body n)
    (hs : ∀ x, foldedSetIterable e X.env x = pure x := by intro _; rfl) : DS X G W (.For tg e body [] pos) (S.forS ms g n) := by
  refine impS (ps_for hp hc hi hg hb hs) ?_
  rintro E σ H ⟨ρ, f, r, R, hm, hp⟩
  refine tI_of R hm hp fun ds ρ1 J len Gh Y H1 hk R1 x1 wk => ?_
  have hp1 := hp.mono x1
  refine for_it wk.walk (fun i σ2 H2 => ∃ ρ2 f2, Rel G σ2 H2 ρ2 f2 ∧ loopM g n (ds.drop i) ρ2 = some r ∧ Ext (Bad G ρ1 f) H1 (Bad G ρ2 f2) H2) ⟨ρ1, f, R1, by simpa using hk, Ext.refl _ _⟩ (fun i σ2 H2 _ ⟨ρ2, f2, R2, _, x2⟩ => wk.keep _ _ x2) ?_ ?_
  · rintro i x σ2 H2 H3 hi ⟨ρ2, f2, R2, hl, x2⟩ y
    have hlt : i < ds.length := by rw [wk.len]; exact hi
    rw [List.drop_eq_getElem_cons hlt] at hl
    obtain ⟨s3, hx⟩ := wk.item i ds[i] (Bad G ρ2 f2) H2 x H3 (List.getElem?_eq_getElem hlt) x2 (fun p h => R2.free h) y
    have R3 := R2.same s3
    simp only [loopM] at hl
    cases eg : g ds[i] ρ2 with
    | none => rw [eg] at hl; cases hl
    | some ρ3 =>
      rw [eg] at hl
      refine ⟨ρ2, f2, ds[i], ρ3, R3, hx, eg, fun σ4 f4 R4 x4 => ?_⟩
      dsimp only at hl
      unfold S.turn at hl
      have x5 := (x2.trans (Ext.same s3)).trans x4
      cases eb : n ρ3 with
      | none => rw [eb] at hl; cases hl
      | some q =>
        rw [eb] at hl
        refine ⟨ρ3, f4, q, R4, eb, ?_⟩
        cases q with
        | nx ρ5 => exact fun σ5 H5 f5 R5 x6 => ⟨ρ5, f5, R5, hl, x5.trans x6⟩
        | ct ρ5 => exact fun σ5 H5 f5 R5 x6 => ⟨ρ5, f5, R5, hl, x5.trans x6⟩
        | brk ρ5 => cases hl; exact fun σ5 H5 f5 R5 x6 => hp1 σ5 H5 f5 R5 (x5.trans x6)
        | ret d ρ5 => cases hl; exact hp1
        | retF d ρ5 => cases hl; exact hp1
        | exc c ρ5 => cases hl; exact hp1
  · rintro σ2 H2 ⟨ρ2, f2, R2, hl, x2⟩
    rw [← wk.len, List.drop_length] at hl
    cases hl
    exact hp1 σ2 H2 f2 R2 x2

/-! ### while -/
def whileM (mt : M Bool) (body : SS) : Nat → SS
  | 0 => fun _ => none
  | k + 1 => S.of mt fun t => if t = true then S.turn body (whileM mt body k) else S.nx
open Classical in
noncomputable def S.whl (mt : M Bool) (body : SS) : SS := fun ρ => if h : ∃ k r, whileM mt body k ρ = some r then whileM mt body h.choose ρ else none
theorem whileM_mono {body : SS} : ∀ {k j : Nat} {ρ : Rho} {r : SR}, whileM mt body k ρ = some r → k ≤ j → whileM mt body j ρ = some r
  | 0, _, _, _, h, _ => by cases h
  | k + 1, 0, _, _, _, h => by cases h
  | k + 1, j + 1, ρ, r, h, hj => by
    rcases of_inv h with ⟨c, ρ', e1, e2⟩ | ⟨t, ρ', e1, e2⟩
    · show S.of mt _ ρ = some r
      unfold S.of
      rw [e1]
      exact congrArg some e2.symm
    · show S.of mt _ ρ = some r
      unfold S.of
      rw [e1]
      dsimp only at e2 ⊢
      cases t with
      | false => exact e2
      | true =>
        rw [if_pos rfl] at e2 ⊢
        unfold S.turn at e2 ⊢
        cases eb : body ρ' with
        | none => rw [eb] at e2; cases e2
        | some q =>
          rw [eb] at e2
          cases q with
          | nx ρ2 => exact whileM_mono e2 (Nat.le_of_succ_le_succ hj)
          | ct ρ2 => exact whileM_mono e2 (Nat.le_of_succ_le_succ hj)
          | brk ρ2 => exact e2
          | ret d ρ2 => exact e2
          | retF d ρ2 => exact e2
          | exc c ρ2 => exact e2
theorem whl_eq {body : SS} {k : Nat} {ρ : Rho} {r : SR} (h : whileM mt body k ρ = some r) : S.whl mt body ρ = some r := by
  unfold S.whl
  have hh : ∃ k r, whileM mt body k ρ = some r := ⟨k, r, h⟩
  rw [dif_pos hh]
  obtain ⟨r', e⟩ := hh.choose_spec
  have h1 := whileM_mono (j := max k hh.choose) h (Nat.le_max_left _ _)
  have h2 := whileM_mono (j := max k hh.choose) e (Nat.le_max_right _ _)
  rw [h1] at h2
  rw [e, h2]
theorem whl_inv {body : SS} {ρ : Rho} {r : SR} (h : S.whl mt body ρ = some r) : ∃ k, whileM mt body k ρ = some r := by
  unfold S.whl at h
  split at h
  · exact ⟨_, h⟩
  · cases h
theorem ds_while {body : List Stmt} (hp : PassesOwn (model X.prog X.w) X.A X.env X.xe) (ht : DT X G W c mt) (hb : DSs X G W body n) : DS X G W (.While c body [] pos) (S.whl mt n) := by
  refine impS (ps_while hp ht hb) ?_
  rintro E σ H ⟨ρ, f, r, R, hm, hp⟩
  obtain ⟨k0, e0⟩ := whl_inv hm
  refine ⟨fun k σ2 H2 => ∃ ρ2 f2, Rel G σ2 H2 ρ2 f2 ∧ whileM mt n k ρ2 = some r ∧ Ext (Bad G ρ f) H (Bad G ρ2 f2) H2, ⟨k0, ρ, f, R, e0, Ext.refl _ _⟩, ?_⟩
  rintro k σ2 H2 ⟨ρ2, f2, R2, hk, x2⟩
  have hp2 := hp.mono x2
  cases k with
  | zero => cases hk
  | succ k =>
    refine tT_of R2 hk hp2 fun t ρ3 H3 hk3 R3 x3 => ?_
    have hp3 := hp2.mono x3
    cases t with
    | false =>
      rw [if_neg Bool.false_ne_true] at hk3 ⊢
      cases hk3
      exact hp2 σ2 H3 f2 R3 x3
    | true =>
      rw [if_pos rfl] at hk3 ⊢
      refine ⟨fun σ4 H4 => ∃ ρ4 f4, Rel G σ4 H4 ρ4 f4 ∧ whileM mt n k ρ4 = some r ∧ Ext (Bad G ρ f) H (Bad G ρ4 f4) H4, fun σ' H' h => ⟨k, Nat.lt_succ_self k, h⟩, ?_⟩
      unfold S.turn at hk3
      cases eb : n ρ3 with
      | none => rw [eb] at hk3; cases hk3
      | some q =>
        rw [eb] at hk3
        refine ⟨ρ3, f2, q, R3, eb, ?_⟩
        cases q with
        | nx ρ5 => exact fun σ5 H5 f5 R5 x6 => ⟨ρ5, f5, R5, hk3, (x2.trans x3).trans x6⟩
        | ct ρ5 => exact fun σ5 H5 f5 R5 x6 => ⟨ρ5, f5, R5, hk3, (x2.trans x3).trans x6⟩
        | brk ρ5 => cases hk3; exact fun σ5 H5 f5 R5 x6 => hp3 σ5 H5 f5 R5 x6
        | ret d ρ5 => cases hk3; exact hp3
        | retF d ρ5 => cases hk3; exact hp3
        | exc c ρ5 => cases hk3; exact hp3

/-! ### slots that are forgotten -/
def forget (ρ : Rho) : List Nat → Rho
  | [] => ρ
  | i :: r => if isInn ρ i = true then forget ρ r else forget (ρ.set i none) r
theorem Rel.forget1 {σ : L2.St} {H : Hp} {ρ : Rho} {f : Nat → Addr} {i : Nat} (R : Rel G σ H ρ f) (hi : isInn ρ i = false) : Rel G σ H (ρ.set i none) f ∧ Ext (Bad G ρ f) H (Bad G (ρ.set i none) f) H := by
  by_cases hl : i < σ.length
  · obtain ⟨R', x⟩ := R.put (i := i) (s := none) (w := σ[i]) hi (fun t e => nomatch e)
    rw [List.set_getElem_self] at R'
    exact ⟨R', x⟩
  · have : ρ.set i none = ρ := List.set_eq_of_length_le (by rw [← R.len]; omega)
    rw [this]
    exact ⟨R, Ext.refl _ _⟩
theorem Rel.forget {σ : L2.St} {H : Hp} {f : Nat → Addr} : ∀ (l : List Nat) {ρ : Rho} (R : Rel G σ H ρ f), Rel G σ H (DL.forget ρ l) f ∧ Ext (Bad G ρ f) H (Bad G (DL.forget ρ l) f) H
  | [], ρ, R => ⟨R, Ext.refl _ _⟩
  | i :: r, ρ, R => by
    unfold DL.forget
    split
    · exact Rel.forget r R
    · rename_i hi
      obtain ⟨R1, x1⟩ := R.forget1 (i := i) (by simpa using hi)
      obtain ⟨R2, x2⟩ := Rel.forget r R1
      exact ⟨R2, x1.trans x2⟩
def S.fgt (l : List Nat) : SS := fun ρ => some (.nx (forget ρ l))
theorem fgt_post {l : List Nat} {E : Ends} {σ : L2.St} {H : Hp} (h : tS G W (S.seq n (S.fgt l)) E σ H) : tS G W n E σ H := by
  obtain ⟨ρ, f, r, R, hm, hp⟩ := h
  unfold S.seq at hm
  cases e : n ρ with
  | none => rw [e] at hm; cases hm
  | some q =>
    rw [e] at hm
    refine ⟨ρ, f, q, R, e, ?_⟩
    cases q with
    | nx ρ1 =>
      cases hm
      intro σ' H' f' R' x'
      obtain ⟨R2, x2⟩ := R'.forget l
      exact hp σ' H' f' R2 (x'.trans x2)
    | ret d ρ1 => cases hm; exact hp
    | retF d ρ1 => cases hm; exact hp
    | brk ρ1 => cases hm; exact hp
    | ct ρ1 => cases hm; exact hp
    | exc c ρ1 => cases hm; exact hp
theorem ds_fgt (l : List Nat) (h : DS X G W st n) : DS X G W st (S.seq n (S.fgt l)) := impS h fun E σ H => fgt_post
theorem dss_fgt (l : List Nat) (h : DSs X G W sts n) : DSs X G W sts (S.seq n (S.fgt l)) := impSs h fun E σ H => fgt_post
theorem ds_pre (l : List Nat) (h : DS X G W st n) : DS X G W st (S.seq (S.fgt l) n) := impS h fun E σ H ⟨ρ, f, r, R, hm, hp⟩ => by
  obtain ⟨R2, x2⟩ := R.forget l
  exact ⟨DL.forget ρ l, f, r, R2, hm, hp.mono x2⟩
theorem dss_pre (l : List Nat) (h : DSs X G W sts n) : DSs X G W sts (S.seq (S.fgt l) n) := impSs h fun E σ H ⟨ρ, f, r, R, hm, hp⟩ => by
  obtain ⟨R2, x2⟩ := R.forget l
  exact ⟨DL.forget ρ l, f, r, R2, hm, hp.mono x2⟩
end
end DL
namespace DL
open PySem PySem.Spec PyProof.Rows L2

/-! ### a def by its body -/
def avSl : Av → Option Sl
  | .dat d => some (.dat d)
  | .ref c => some (.mut false c)
def rho0 (N : Nat) (as : List Av) : Rho := as.map avSl ++ List.replicate (N - as.length) none
def outsOf : List Av → Rho → Option (List Cell)
  | [], _ => some []
  | .dat _ :: as, _ :: ρ => outsOf as ρ
  | .ref _ :: as, some (.mut false c) :: ρ => (outsOf as ρ).map (c :: ·)
  | _, _ => none
/-- the def whose body is m, of n parameters and N names -/
def runF (n N : Nat) (m : SS) : Fn := fun as => if as.length = n ∧ n ≤ N then match m (rho0 N as) with
  | some (.nx ρ') => (outsOf as ρ').map fun o => .ret .none o
  | some (.ret d ρ') => (outsOf as ρ').map fun o => .ret d o
  | some (.retF c ρ') => (outsOf as ρ').map fun o => .retF c o
  | some (.exc c ρ') => (outsOf as ρ').map fun o => .exc c o
  | _ => none else none

/-- the addresses of the objects handed in, by place -/
def innsOf : List Av → List Addr → Nat → List (Nat × Addr)
  | .dat _ :: as, ps, i => innsOf as ps (i + 1)
  | .ref _ :: as, p :: ps, i => (i, p) :: innsOf as ps (i + 1)
  | _, _, _ => []
def addrOf (l : List (Nat × Addr)) (i : Nat) : Addr := match l.find? fun p => p.1 == i with
  | some p => p.2
  | none => 0
theorem inns_ge {as : List Av} : ∀ {ps : List Addr} {i : Nat} {p : Nat × Addr}, p ∈ innsOf as ps i → i ≤ p.1 := by
  induction as with
  | nil => intro ps i p h; simp [innsOf] at h
  | cons a as ih =>
    intro ps i p h
    cases a with
    | dat d => exact Nat.le_of_succ_le (ih (by simpa [innsOf] using h))
    | ref c =>
      cases ps with
      | nil => simp [innsOf] at h
      | cons q ps =>
        rcases List.mem_cons.mp (show p ∈ (i, q) :: innsOf as ps (i + 1) from h) with e | h
        · rw [e]; exact Nat.le_refl _
        · exact Nat.le_of_succ_le (ih h)
theorem addr_of {as : List Av} : ∀ {ps : List Addr} {i : Nat} {p : Nat × Addr}, p ∈ innsOf as ps i → addrOf (innsOf as ps i) p.1 = p.2 := by
  induction as with
  | nil => intro ps i p h; simp [innsOf] at h
  | cons a as ih =>
    intro ps i p h
    cases a with
    | dat d => exact ih (by simpa [innsOf] using h)
    | ref c =>
      cases ps with
      | nil => simp [innsOf] at h
      | cons q ps =>
        rcases List.mem_cons.mp (show p ∈ (i, q) :: innsOf as ps (i + 1) from h) with e | h
        · subst e
          simp [innsOf, addrOf]
        · have hge := inns_ge h
          have hne : (i == p.1) = false := beq_eq_false_iff_ne.mpr (by omega)
          have := ih h
          unfold addrOf at this ⊢
          rw [show innsOf (.ref c :: as) (q :: ps) i = (i, q) :: innsOf as ps (i + 1) from rfl, List.find?_cons, hne]
          exact this
theorem AvL.len {K : PySem.W.Frag} {A : Addr → Prop} {H : Hp} : ∀ {vs : List V} {as : List Av} {ps : List Addr}, AvL K A H vs as ps → vs.length = as.length
  | _, _, _, .nil => rfl
  | _, _, _, .dat _ r => congrArg (· + 1) (AvL.len r)
  | _, _, _, .ref _ _ _ r => congrArg (· + 1) (AvL.len r)
/-- what a place holds at the entry -/
theorem AvL.at {K : PySem.W.Frag} {A : Addr → Prop} {H : Hp} : ∀ {vs : List V} {as : List Av} {ps : List Addr} {j : Nat}, AvL K A H vs as ps → ∀ {i : Nat} {s : Sl}, (as.map avSl)[i]? = some (some s) →
    ∃ v, vs[i]? = some v ∧ ((∃ d, s = .dat d ∧ Has K A H v d) ∨ ∃ p c, s = .mut false c ∧ v = .ref p ∧ (j + i, p) ∈ innsOf as ps j ∧ A p ∧ CellOk K A H p c ∧ p ∈ ps)
  | _, _, _, _, .nil, i, s, e => by simp at e
  | _, _, _, j, .dat h r, 0, s, e => by
    simp [avSl] at e
    subst e
    exact ⟨_, rfl, .inl ⟨_, rfl, h⟩⟩
  | _, _, _, j, .dat h r, i + 1, s, e => by
    obtain ⟨v, e1, h1⟩ := AvL.at (j := j + 1) r (i := i) (s := s) (by simpa using e)
    refine ⟨v, by simpa using e1, ?_⟩
    rcases h1 with h1 | ⟨p, c, h2, h3, h4, h5⟩
    · exact .inl h1
    · exact .inr ⟨p, c, h2, h3, by rw [show j + (i + 1) = j + 1 + i by omega]; exact h4, h5⟩
  | _, _, _, j, .ref h1 h2 h3 r, 0, s, e => by
    simp [avSl] at e
    subst e
    exact ⟨_, rfl, .inr ⟨_, _, rfl, rfl, List.mem_cons_self, h1, h2, List.mem_cons_self⟩⟩
  | _, _, _, j, .ref h1 h2 h3 r, i + 1, s, e => by
    obtain ⟨v, e1, h1⟩ := AvL.at (j := j + 1) r (i := i) (s := s) (by simpa using e)
    refine ⟨v, by simpa using e1, ?_⟩
    rcases h1 with h1 | ⟨p, c, h2, h3, h4, h5, h6, h7⟩
    · exact .inl h1
    · exact .inr ⟨p, c, h2, h3, List.mem_cons_of_mem _ (by rw [show j + (i + 1) = j + 1 + i by omega]; exact h4), h5, h6, List.mem_cons_of_mem _ h7⟩
theorem AvL.inns {K : PySem.W.Frag} {A : Addr → Prop} {H : Hp} : ∀ {vs : List V} {as : List Av} {ps : List Addr} {j : Nat}, AvL K A H vs as ps → ∀ {p : Nat × Addr}, p ∈ innsOf as ps j → ∃ i c, p.1 = j + i ∧ (as.map avSl)[i]? = some (some (.mut false c)) ∧ p.2 ∈ ps
  | _, _, _, _, .nil, p, h => by simp [innsOf] at h
  | _, _, _, j, .dat _ r, p, h => by
    obtain ⟨i, c, e1, e2, e3⟩ := AvL.inns (j := j + 1) r h
    exact ⟨i + 1, c, by omega, by simpa using e2, e3⟩
  | _, _, _, j, .ref (c := c) h1 h2 h3 r, p, h => by
    rcases List.mem_cons.mp (show p ∈ (j, _) :: innsOf _ _ (j + 1) from h) with e | h
    · subst e
      exact ⟨0, c, rfl, rfl, List.mem_cons_self⟩
    · obtain ⟨i, c, e1, e2, e3⟩ := AvL.inns (j := j + 1) r h
      exact ⟨i + 1, c, by omega, by simpa using e2, List.mem_cons_of_mem _ e3⟩
theorem AvL.inj {K : PySem.W.Frag} {A : Addr → Prop} {H : Hp} : ∀ {vs : List V} {as : List Av} {ps : List Addr} {j : Nat}, AvL K A H vs as ps → ∀ {p q : Nat × Addr}, p ∈ innsOf as ps j → q ∈ innsOf as ps j → p.2 = q.2 → p.1 = q.1
  | _, _, _, _, .nil, p, q, h, _, _ => by simp [innsOf] at h
  | _, _, _, j, .dat _ r, p, q, h, h', e => AvL.inj (j := j + 1) r h h' e
  | _, _, _, j, .ref h1 h2 h3 r, p, q, h, h', e => by
    rcases List.mem_cons.mp (show p ∈ (j, _) :: innsOf _ _ (j + 1) from h) with e1 | g1
    · rcases List.mem_cons.mp (show q ∈ (j, _) :: innsOf _ _ (j + 1) from h') with e2 | g2
      · rw [e1, e2]
      · obtain ⟨i, c, _, _, e3⟩ := AvL.inns (j := j + 1) r g2
        rw [← e, e1] at e3
        exact absurd e3 h3
    · rcases List.mem_cons.mp (show q ∈ (j, _) :: innsOf _ _ (j + 1) from h') with e2 | g2
      · obtain ⟨i, c, _, _, e3⟩ := AvL.inns (j := j + 1) r g1
        rw [e, e2] at e3
        exact absurd e3 h3
      · exact AvL.inj (j := j + 1) r g1 g2 e
theorem AvL.ps {K : PySem.W.Frag} {A : Addr → Prop} {H : Hp} : ∀ {vs : List V} {as : List Av} {ps : List Addr} {j : Nat}, AvL K A H vs as ps → ∀ {p : Addr}, p ∈ ps → ∃ i, (i, p) ∈ innsOf as ps j
  | _, _, _, _, .nil, p, h => by simp at h
  | _, _, _, j, .dat _ r, p, h => AvL.ps (j := j + 1) r h
  | _, _, _, j, .ref h1 h2 h3 r, p, h => by
    rcases List.mem_cons.mp h with e | h
    · subst e
      exact ⟨j, List.mem_cons_self⟩
    · obtain ⟨i, h⟩ := AvL.ps (j := j + 1) r h
      exact ⟨i, List.mem_cons_of_mem _ h⟩
def gcOf (K : PySem.W.Frag) (mg : Str → Option Value) (T : Addr → Prop) (A : Addr → Prop) (H : Hp) (as : List Av) (ps : List Addr) (q : Addr → Str → Prop) : Gc := ⟨K, mg, A, H, innsOf as ps 0, q, T⟩
theorem rho0_get {N : Nat} {as : List Av} {i : Nat} {s : Sl} (h : (rho0 N as)[i]? = some (some s)) : (as.map avSl)[i]? = some (some s) := by
  unfold rho0 at h
  by_cases hi : i < (as.map avSl).length
  · rw [List.getElem?_append_left hi] at h
    exact h
  · rw [List.getElem?_append_right (by omega), List.getElem?_replicate] at h
    split at h <;> cases h
/-- the entry -/
theorem rel_start {K : PySem.W.Frag} {mg : Str → Option Value} {A : Addr → Prop} {H : Hp} {vs : List V} {as : List Av} {ps : List Addr} {N : List Str} {q : Addr → Str → Prop} (h : AvL K A H vs as ps) {T : Addr → Prop} (hA : (∀ a, A a → ∃ o, H a = some o) ∧ ∀ a, T a → A a ∧ TabAt H a) (hl : as.length ≤ N.length) :
    Rel (gcOf K mg T A H as ps q) (L2.start N vs) H (rho0 N.length as) (addrOf (innsOf as ps 0)) := by
  have nown : ∀ (i : Nat) (c : Cell), (rho0 N.length as)[i]? = some (some (.mut true c)) → False := fun i c e => by
    obtain ⟨v, _, h1⟩ := h.at (j := 0) (rho0_get e)
    rcases h1 with ⟨d, h1, _⟩ | ⟨p, c', h1, _⟩ <;> cases h1
  have bd : ∀ a, Bad (gcOf K mg T A H as ps q) (rho0 N.length as) (addrOf (innsOf as ps 0)) a → A a := fun a z => by
    rcases z with z | ⟨i, c, e, _⟩
    · exact z
    · exact (nown i c e).elim
  have x : Ext A H (Bad (gcOf K mg T A H as ps q) (rho0 N.length as) (addrOf (innsOf as ps 0))) H := fun a o hb e => ⟨fun z => hb (bd a z), e⟩
  have atM : ∀ (i : Nat) (b : Bool) (c : Cell), (rho0 N.length as)[i]? = some (some (.mut b c)) → (i, addrOf (innsOf as ps 0) i) ∈ innsOf as ps 0 ∧ A (addrOf (innsOf as ps 0) i) ∧ CellOk K A H (addrOf (innsOf as ps 0) i) c ∧ vs[i]? = some (.ref (addrOf (innsOf as ps 0) i)) := fun i b c e => by
    obtain ⟨v, e1, h1⟩ := h.at (j := 0) (rho0_get e)
    rcases h1 with ⟨d, h1, _⟩ | ⟨p, c', h1, h2, h3, h4, h5, _⟩
    · cases h1
    · cases h1
      rw [Nat.zero_add] at h3
      have := addr_of h3
      dsimp only at this
      rw [this]
      rw [h2] at e1
      exact ⟨h3, h4, h5, e1⟩
  have stt : ∀ (i : Nat) (v : V), vs[i]? = some v → (L2.start N vs)[i]? = some (some v) := fun i v e => by
    have hi := (List.getElem?_eq_some_iff.mp e).1
    unfold L2.start
    rw [List.getElem?_append_left (by simpa using hi), List.getElem?_map, e]
    rfl
  refine ⟨?_, fun a o e _ _ => e, hA, fun i c e => (nown i c e).elim, fun i j b c b' c' e1 e2 z => ?_, fun i c e => ⟨(atM i _ c e).1, (atM i _ c e).2.1⟩, fun p hp => ?_, fun i s e => ?_⟩
  · unfold L2.start rho0
    have := h.len
    simp only [List.length_append, List.length_map, List.length_replicate]
    omega
  · exact h.inj (j := 0) (atM i b c e1).1 (atM j b' c' e2).1 z
  · obtain ⟨i, c, e1, e2, _⟩ := h.inns (j := 0) hp
    rw [Nat.zero_add] at e1
    refine ⟨c, ?_, addr_of hp⟩
    unfold rho0
    rw [e1, List.getElem?_append_left (List.getElem?_eq_some_iff.mp e2).1]
    exact e2
  · obtain ⟨v, e1, h1⟩ := h.at (j := 0) (rho0_get e)
    rcases h1 with ⟨d, rfl, h2⟩ | ⟨p, c, rfl, _⟩
    · exact ⟨v, stt i v e1, Has.ext x h2⟩
    · obtain ⟨_, _, h3, h4⟩ := atM i _ c e
      exact ⟨_, stt i _ h4, rfl, h3.ext x rfl⟩
theorem outs_ok {K : PySem.W.Frag} {A B : Addr → Prop} {H H' : Hp} : ∀ {vs : List V} {as : List Av} {ps : List Addr} {j : Nat} {ρ : Rho} {outs : List Cell}, AvL K A H vs as ps → outsOf as ρ = some outs →
    (∀ i p, (j + i, p) ∈ innsOf as ps j → ∀ c, ρ[i]? = some (some (.mut false c)) → CellOk K B H' p c) → Outs K B H' ps outs
  | _, _, _, _, _, _, .nil, e, _ => by cases e; exact .nil
  | _, _, _, j, [], _, .dat _ r, e, h => by cases e
  | _, _, _, j, _ :: ρ, _, .dat _ r, e, h => outs_ok (j := j + 1) r (show outsOf _ ρ = _ from e) fun i p hp c hc => h (i + 1) p (by rw [show j + (i + 1) = j + 1 + i by omega]; exact hp) c (by simpa using hc)
  | _, _, _, j, [], _, .ref _ _ _ r, e, h => by cases e
  | _, _, _, j, none :: ρ, _, .ref _ _ _ r, e, h => by cases e
  | _, _, _, j, some (.dat _) :: ρ, _, .ref _ _ _ r, e, h => by cases e
  | _, _, _, j, some (.exc _) :: ρ, _, .ref _ _ _ r, e, h => by cases e
  | _, _, _, j, some (.mut true _) :: ρ, _, .ref _ _ _ r, e, h => by cases e
  | _, _, _, j, some (.mut false c) :: ρ, _, .ref _ _ _ r, e, h => by
    simp only [outsOf] at e
    cases e2 : outsOf _ ρ with
    | none => rw [e2] at e; cases e
    | some os =>
      rw [e2] at e
      cases e
      refine .cons (h 0 _ List.mem_cons_self c rfl) (outs_ok (j := j + 1) r e2 fun i p hp c hc => h (i + 1) p (List.mem_cons_of_mem _ (by rw [show j + (i + 1) = j + 1 + i by omega]; exact hp)) c (by simpa using hc))

section
variable {P : Program} {w : World} {K : PySem.W.Frag} {mg : Str → Option Value} {base : Heap} {T : Addr → Prop}
theorem spF_len {n N : Nat} {m : SS} : ∀ vs H Q E, spF K mg T (runF n N m) vs H Q E → vs.length = n := fun vs H Q E ⟨A, as, ps, r, h, _, e, _⟩ => by
  rw [h.len]
  unfold runF at e
  split at e
  · rename_i hh; exact hh.1
  · cases e
/-- from the promise to the body -/
theorem body_imp {N : List Str} {ps0 : Nat} {m : SS} {vs : List V} {H : Hp} {Q : VK} {E : XK} (h : spF K mg T (runF ps0 N.length m) vs H Q E) :
    ∃ gA gH gi gq, tS ⟨K, mg, gA, gH, gi, gq, T⟩ (fun cls d _ H => E cls d H) m { nx := fun _ H' => Q .non H', rt := Q } (L2.start N vs) H := by
  obtain ⟨A, as, ps, r, hv, hA, eF, hr⟩ := h
  unfold runF at eF
  split at eF
  · rename_i hl
    have R := rel_start (mg := mg) (N := N) (q := fun _ _ => False) hv hA (by rw [hl.1]; exact hl.2)
    refine ⟨A, H, innsOf as ps 0, fun _ _ => False, ?_⟩
    show tS (gcOf K mg T A H as ps fun _ _ => False) _ _ _ _ _
    have keep : ∀ {σ' : L2.St} {H' : Hp} {ρ' : Rho} {f' : Nat → Addr}, Rel (gcOf K mg T A H as ps fun _ _ => False) σ' H' ρ' f' → Keep T ps H H' := fun {σ' H' ρ' f'} R' => ⟨fun a o e hn ht => R'.keep a o e (fun p hp z => by
      obtain ⟨_, _, _, _, h3⟩ := hv.inns (j := 0) hp
      rw [z] at h3
      exact hn h3) ht, fun a ht => (R'.dom.2 a ht).2⟩
    have outs : ∀ {B : Addr → Prop} {σ' : L2.St} {H' : Hp} {ρ' : Rho} {f' : Nat → Addr} {o : List Cell}, Rel (gcOf K mg T A H as ps fun _ _ => False) σ' H' ρ' f' → (∀ p c, CellOk K (Bad (gcOf K mg T A H as ps fun _ _ => False) ρ' f') H' p c → CellOk K B H' p c) → outsOf as ρ' = some o → Outs K B H' ps o := fun {B σ' H' ρ' f' o} R' hB e => by
      refine outs_ok (j := 0) hv e fun i p hp c hc => ?_
      rw [Nat.zero_add] at hp
      obtain ⟨c', e1, e2⟩ := R'.innB (i, p) hp
      dsimp only at e1 e2
      rw [hc] at e1
      cases e1
      have := (R'.mutAt hc).2
      rw [e2] at this
      exact hB p c this
    cases em : m (rho0 N.length as) with
    | none => rw [em] at eF; cases eF
    | some q =>
      rw [em] at eF
      refine ⟨_, _, q, R, em, ?_⟩
      have weak : ∀ {ρ' : Rho} {f' : Nat → Addr} {H' : Hp} {p : Addr} {c : Cell}, CellOk K (Bad (gcOf K mg T A H as ps fun _ _ => False) ρ' f') H' p c → CellOk K A H' p c := fun {ρ' f' H' p c} h => h.ext (fun a o hb e => ⟨fun z => hb (.inl z), e⟩) rfl
      have weakD : ∀ {ρ' : Rho} {f' : Nat → Addr} {H' : Hp} {v : V} {d : D}, Has K (Bad (gcOf K mg T A H as ps fun _ _ => False) ρ' f') H' v d → Has K A H' v d := fun {ρ' f' H' p c} h => h.ext fun a o hb e => ⟨fun z => hb (.inl z), e⟩
      cases q with
      | nx ρ' =>
        obtain ⟨o, eo, er⟩ := Option.map_eq_some_iff.mp eF
        subst er
        exact fun σ' H' f' R' x => hr .non H' (keep R') (outs R' (fun _ _ => weak) eo) .non
      | ret d ρ' =>
        obtain ⟨o, eo, er⟩ := Option.map_eq_some_iff.mp eF
        subst er
        exact fun v σ' H' f' R' hh => hr v H' (keep R') (outs R' (fun _ _ => weak) eo) (weakD hh)
      | retF c ρ' =>
        obtain ⟨o, eo, er⟩ := Option.map_eq_some_iff.mp eF
        subst er
        intro p σ' H' f' N'
        refine hr p H' (keep N'.rel) ?_ N'.fr.h0 (N'.ok.ext (fun a o hb e => ⟨fun z => hb (z.elim (fun z => .inl (.inl z)) .inr), e⟩) rfl)
        refine outs_ok (j := 0) hv eo fun i q hq c' hc => ?_
        rw [Nat.zero_add] at hq
        obtain ⟨c2, e1, e2⟩ := N'.rel.innB (i, q) hq
        dsimp only at e1 e2
        rw [hc] at e1
        cases e1
        have := (N'.relP.mutAt hc).2
        rw [e2] at this
        exact this.ext (fun a o hb e => ⟨fun z => hb (z.elim (fun z => bad_plus.mpr (.inl (.inl z))) (fun z => bad_plus.mpr (.inr z))), e⟩) rfl
      | exc c ρ' =>
        obtain ⟨o, eo, er⟩ := Option.map_eq_some_iff.mp eF
        subst er
        exact fun cls σ' H' f' hc R' => hr cls H' hc (keep R') (outs R' (fun _ _ => weak) eo)
      | brk ρ' => cases eF
      | ct ρ' => cases eF
  · cases eF
/-- THE RULE for a def that may raise -/
theorem fn_body {x qual : Str} {st : Stmt} {f : Addr} {fd : FuncData} {N ps : List Str} {k : Nat} {m : SS} (F : L2.Fun K x qual st f fd) (S : FnScope N ps (defScope st))
    (hbody : ∀ (cdv : Value) (A : Around) (outer : List Env) (s : Shared) (H : Hp) (E : XK) (gA : Addr → Prop) (gH : Hp) (gi : List (Nat × Addr)) (gq : Addr → Str → Prop), Room k (A.deeper (envOfC qual (defScope st) s.heap.objs.size f cdv)) →
      DSs (cxOf (L2N.CX P w) P w K mg base N qual (defScope st) f cdv A outer s H E) ⟨K, mg, gA, gH, gi, gq, T⟩ (fun cls d _ H => E cls d H) (defBody st) m) : FnOk P w K mg base (L2N.CX P w) (k + 1) f fd ps (spF K mg T (runF ps.length N.length m)) := by
  obtain ⟨oc, od, kV, doc, pm, an, cdv, ct, osl, rfl, lk, hcd⟩ := F.ex
  refine fn_of lk hcd S spF_len fun A outer s H vs Q E hr h => ?_
  obtain ⟨gA, gH, gi, gq, ht⟩ := body_imp h
  exact ⟨_, hbody cdv A outer s H E gA gH gi gq hr, ht⟩
/-- .. for one that lets nothing out -/
theorem fn_body0 {x qual : Str} {st : Stmt} {f : Addr} {fd : FuncData} {N ps : List Str} {k : Nat} {m : SS} (F : L2.Fun K x qual st f fd) (S : FnScope N ps (defScope st))
    (hbody : ∀ (cdv : Value) (A : Around) (outer : List Env) (s : Shared) (H : Hp) (E : XK) (gA : Addr → Prop) (gH : Hp) (gi : List (Nat × Addr)) (gq : Addr → Str → Prop), Room k (A.deeper (envOfC qual (defScope st) s.heap.objs.size f cdv)) →
      DSs (cxOf CX0 P w K mg base N qual (defScope st) f cdv A outer s H E).nox ⟨K, mg, gA, gH, gi, gq, T⟩ (fun _ _ _ _ => False) (defBody st) m) (sp : Sp)
    (hsp : ∀ vs H Q E, sp vs H Q E → spF K mg T (runF ps.length N.length m) vs H Q E0) : FnOk P w K mg base CX0 (k + 1) f fd ps sp := by
  refine F.ok S (fun vs H Q E h => spF_len _ _ _ _ (hsp vs H Q E h)) fun cdv A outer s H vs Q E hr h => ?_
  obtain ⟨gA, gH, gi, gq, ht⟩ := body_imp (hsp vs H Q E h)
  exact ⟨_, hbody cdv A outer s H E gA gH gi gq hr, ht⟩
/-- .. one that holds generator expressions: its code stands at c -/
theorem fn_bodyG {x qual : Str} {st : Stmt} {f c : Addr} {fd : FuncData} {N ps : List Str} {k : Nat} {m : SS} (F : L2.Fun K x qual st f fd) (S : FnScope N ps (defScope st)) (hc : fd.code = .ref c)
    (hbody : ∀ (A : Around) (outer : List Env) (s : Shared) (H : Hp) (E : XK) (gA : Addr → Prop) (gH : Hp) (gi : List (Nat × Addr)) (gq : Addr → Str → Prop), Room k (A.deeper (envOfC qual (defScope st) s.heap.objs.size f (.ref c))) →
      DSs (cxOf (L2N.CX P w) P w K mg base N qual (defScope st) f (.ref c) A outer s H E) ⟨K, mg, gA, gH, gi, gq, T⟩ (fun cls d _ H => E cls d H) (defBody st) m) : FnOk P w K mg base (L2N.CX P w) (k + 1) f fd ps (spF K mg T (runF ps.length N.length m)) := by
  obtain ⟨oc, od, kV, doc, pm, an, cdv, ct, osl, rfl, lk, hcd⟩ := F.ex
  have e : cdv = .ref c := hc
  subst e
  exact fn_of lk hcd S spF_len fun A outer s H vs Q E hr hsp => by
    obtain ⟨gA, gH, gi, gq, ht⟩ := body_imp hsp
    exact ⟨_, hbody A outer s H E gA gH gi gq hr, ht⟩
end
end DL
namespace DL
open PySem PySem.Spec PyProof.Rows L2

/-! ### builtins of one argument -/
def rB1 (K : PySem.W.Frag) (g : D → Option D) : List V → Hp → VK → Prop := fun xs H Q => ∃ (B : Addr → Prop) (x : V) (d z : D), (∀ p, H p = none → ¬ B p) ∧ xs = [x] ∧ HasK K B H x d ∧ g d = some z ∧ ∀ v H', Same H H' → Has K B H' v z → Q v H'
def rB1F (K : PySem.W.Frag) (g : D → Option Cell) : List V → Hp → VK → Prop := fun xs H Q => ∃ (B : Addr → Prop) (x : V) (d : D) (z : Cell), (∀ p, H p = none → ¬ B p) ∧ xs = [x] ∧ HasK K B H x d ∧ g d = some z ∧
  ∀ p H', Same H H' → H p = none → CellOk K (fun a => B a ∨ a = p) H' p z → Q (.ref p) H'
def rB2 (K : PySem.W.Frag) (g : D → D → Option D) : List V → Hp → VK → Prop := fun xs H Q => ∃ (B : Addr → Prop) (x y : V) (d e z : D), (∀ p, H p = none → ¬ B p) ∧ xs = [x, y] ∧ Has K B H x d ∧ HasK K B H y e ∧ g d e = some z ∧ ∀ v H', Same H H' → Has K B H' v z → Q v H'
section
variable {X : Cx} {G : Gc} {W : WX} {a b e : Expr} {es : List Expr} {m ma mb : M D} {pos p : Pos} {x : Str} {id T : String}
theorem b1_imp {g : D → Option D} (hk : X.K = G.K) : ∀ σ H Q, tD G W (M.un g m) σ H Q → tCB (rB1 X.K g) (tCons (tK G W m) tNil) σ H Q := by
  rintro σ H Q ⟨ρ, f, r, R, hm, hp⟩
  refine tK_bind R hm (xok hp) fun d ρ1 v H1 hk1 R1 x1 hv => ?_
  obtain ⟨z, e, er⟩ := lift_inv hk1
  subst er
  rw [hk]
  exact ⟨Bad G ρ1 f, v, d, z, fun p h => R1.free h, rfl, hv, e, fun w H' s hw => hp w H' (R1.same s) (x1.trans (Ext.same s)) hw⟩
theorem b1F_imp {g : D → Option Cell} (hk : X.K = G.K) : ∀ σ H Q, tF G W (M.unF g m) σ H Q → tCB (rB1F X.K g) (tCons (tK G W m) tNil) σ H Q := by
  rintro σ H Q ⟨ρ, f, r, R, hm, hp⟩
  refine tK_bind R hm (xok hp) fun d ρ1 v H1 hk1 R1 x1 hv => ?_
  obtain ⟨z, e, er⟩ := lift_inv hk1
  subst er
  rw [hk]
  exact ⟨Bad G ρ1 f, v, d, z, fun p h => R1.free h, rfl, hv, e, fun q H' s h0 ok => hp q H' (.mk' R1 h0 s ok) (x1.trans (Ext.fresh h0 s))⟩
theorem b2_imp {g : D → D → Option D} (hk : X.K = G.K) : ∀ σ H Q, tD G W (M.bin g ma mb) σ H Q → tCB (rB2 X.K g) (tCons (tD G W ma) (tCons (tK G W mb) tNil)) σ H Q := by
  rintro σ H Q ⟨ρ, f, r, R, hm, hp⟩
  refine tD_bind R hm (xok hp) fun d ρ1 v H1 hk1 R1 x1 hv => ?_
  refine tK_bind R1 hk1 (xok hp) fun e ρ2 u H2 hk2 R2 x2 hu => ?_
  obtain ⟨z, ez, er⟩ := lift_inv hk2
  subst er
  rw [hk]
  exact ⟨Bad G ρ2 f, v, u, d, e, z, fun p h => R2.free h, rfl, hv.ext x2, hu, ez, fun w H' s hw => hp w H' (R2.same s) ((x1.trans x2).trans (Ext.same s)) hw⟩
variable {g : D → Option D} {gF : D → Option Cell} {g2 : D → D → Option D}
theorem de_b1 (hc : CallR X (.builtin id) (rB1 X.K g)) (ha : DK X G W e m) (hg : Gl X x := by rfl) (hm : X.mg x = none) (hv : bootBuiltins x = some (.builtin id) := by rfl) (hn : x ≠ "__name__" := by decide) (hdb : (x == ("__debug__" : Str)) = false := by decide)
    (he : starEach [e] X.env = (false, eval e X.env) :: starEach [] X.env := by rfl) (hk : X.K = G.K := by rfl) : DE X G W (.Call (.Name x p) [e] [] pos) (M.un g m) :=
  imp (pe_callB hc hg hm hv (pa_cons ha pa_nil he) hn hdb he rfl) (b1_imp hk)
theorem df_b1 (hc : CallR X (.builtin id) (rB1F X.K gF)) (ha : DK X G W e m) (hg : Gl X x := by rfl) (hm : X.mg x = none) (hv : bootBuiltins x = some (.builtin id) := by rfl) (hn : x ≠ "__name__" := by decide) (hdb : (x == ("__debug__" : Str)) = false := by decide)
    (he : starEach [e] X.env = (false, eval e X.env) :: starEach [] X.env := by rfl) (hk : X.K = G.K := by rfl) : DF X G W (.Call (.Name x p) [e] [] pos) (M.unF gF m) :=
  imp (pe_callB hc hg hm hv (pa_cons ha pa_nil he) hn hdb he rfl) (b1F_imp hk)
theorem de_t1 (hc : CallR X (.type T) (rB1 X.K g)) (ha : DK X G W e m) (hg : Gl X x := by rfl) (hm : X.mg x = none) (hv : bootBuiltins x = some (.type T) := by rfl) (hn : x ≠ "__name__" := by decide) (hdb : (x == ("__debug__" : Str)) = false := by decide)
    (he : starEach [e] X.env = (false, eval e X.env) :: starEach [] X.env := by rfl) (hk : X.K = G.K := by rfl) : DE X G W (.Call (.Name x p) [e] [] pos) (M.un g m) :=
  imp (pe_callTy hc hg hm hv (pa_cons ha pa_nil he) hn hdb he rfl) (b1_imp hk)
theorem df_t1 (hc : CallR X (.type T) (rB1F X.K gF)) (ha : DK X G W e m) (hg : Gl X x := by rfl) (hm : X.mg x = none) (hv : bootBuiltins x = some (.type T) := by rfl) (hn : x ≠ "__name__" := by decide) (hdb : (x == ("__debug__" : Str)) = false := by decide)
    (he : starEach [e] X.env = (false, eval e X.env) :: starEach [] X.env := by rfl) (hk : X.K = G.K := by rfl) : DF X G W (.Call (.Name x p) [e] [] pos) (M.unF gF m) :=
  imp (pe_callTy hc hg hm hv (pa_cons ha pa_nil he) hn hdb he rfl) (b1F_imp hk)
theorem de_b2 (hc : CallR X (.builtin id) (rB2 X.K g2)) (ha : DE X G W a ma) (hb : DK X G W b mb) (hg : Gl X x := by rfl) (hm : X.mg x = none) (hv : bootBuiltins x = some (.builtin id) := by rfl) (hn : x ≠ "__name__" := by decide) (hdb : (x == ("__debug__" : Str)) = false := by decide)
    (hs1 : starEach [a, b] X.env = (false, eval a X.env) :: starEach [b] X.env := by rfl) (hs2 : starEach [b] X.env = (false, eval b X.env) :: starEach [] X.env := by rfl) (hpl : (backTo pos (starEach [b] X.env)).any (·.1) = false := by rfl) (hk : X.K = G.K := by rfl) : DE X G W (.Call (.Name x p) [a, b] [] pos) (M.bin g2 ma mb) :=
  imp (pe_callB hc hg hm hv (pa_cons ha (pa_cons hb pa_nil hs2) hs1) hn hdb hs1 hpl) (b2_imp hk)
end

/-! ### what they give -/
def absD : D → Option D
  | .int i => some (.int (if i < 0 then -i else i))
  | _ => none
def intOfD : D → Option D
  | .int i => some (.int i)
  | .bool b => some (.int (if b then 1 else 0))
  | _ => none
def lenD : D → Option D
  | .list xs => some (.int xs.length)
  | .tuple xs => some (.int xs.length)
  | .dict kvs => some (.int kvs.length)
  | .str y => if y.length ≤ 16777216 then some (.int y.length) else none
  | _ => none
def minI : D → D → Option D
  | .int i, .int j => some (.int (if j < i then j else i))
  | _, _ => none
def maxI : D → D → Option D
  | .int i, .int j => some (.int (if j > i then j else i))
  | _, _ => none
def alikeB (xs : List D) : Bool := xs.all fun x => okD 60 x && (match x with | .none => false | _ => true) && xs.all fun y => PySem.W.alike x y
def itemsOf : D → Option (List D)
  | .list xs => some xs
  | .tuple xs => some xs
  | _ => none
def minOf (d : D) : Option D := match itemsOf d with
  | some (x :: xs) => if alikeB (x :: xs) = true then some (PySem.W.minD x xs) else none
  | _ => none
def maxOf (d : D) : Option D := match itemsOf d with
  | some (x :: xs) => if alikeB (x :: xs) = true then some (PySem.W.maxD x xs) else none
  | _ => none
def isTupNE : D → Bool
  | .tuple (_ :: _) => true
  | _ => false
def isTupD : D → Bool
  | .tuple _ => true
  | _ => false
def sortB (xs : List D) : Bool := alikeB xs && (xs.all isTupNE || xs.all fun x => !isTupD x)
def sortF : D → Option Cell
  | .list xs => if sortB xs = true ∧ xs.length ≤ 16777216 then some (.lst (xs.mergeSort (PySem.W.dataLe false fun d => d))) else none
  | _ => none
def tupOf : D → Option D
  | .list xs => some (.tuple xs)
  | .tuple xs => some (.tuple xs)
  | _ => none
def lstOf : D → Option Cell
  | .list xs => some (.lst xs)
  | .tuple xs => some (.lst xs)
  | _ => none
def intsOf : List D → Option (List Int)
  | [] => some []
  | .int i :: r => match intsOf r with
    | some is => some (i :: is)
    | none => none
  | _ => none
def sumD : D → Option D
  | .list xs => match intsOf xs with
    | some is => some (.int is.sum)
    | none => none
  | .tuple xs => match intsOf xs with
    | some is => some (.int is.sum)
    | none => none
  | _ => none
theorem intsOf_eq : ∀ {xs : List D} {is : List Int}, intsOf xs = some is → xs = is.map PyData.int
  | [], is, h => by cases h; rfl
  | .int i :: r, is, h => by
    simp only [intsOf] at h
    cases e : intsOf r with
    | none => rw [e] at h; cases h
    | some js =>
      rw [e] at h
      cases h
      rw [List.map_cons, intsOf_eq e]
  | .none :: _, _, h => by cases h
  | .bool _ :: _, _, h => by cases h
  | .str _ :: _, _, h => by cases h
  | .list _ :: _, _, h => by cases h
  | .tuple _ :: _, _, h => by cases h
  | .dict _ :: _, _, h => by cases h
theorem intsOf_map : ∀ (is : List Int), intsOf (is.map PyData.int) = some is
  | [] => rfl
  | i :: r => by rw [List.map_cons, intsOf, intsOf_map r]
section
variable {K : PySem.W.Frag} {B : Addr → Prop} {H : Hp}
theorem HasL.int_inv : ∀ {vs : List V} {is : List Int}, HasL K B H vs (is.map PyData.int) → vs = is.map V.int
  | _, [], h => by cases h; rfl
  | _, i :: r, h => by
    cases h with
    | cons h1 h2 => rw [h1.int_inv, HasL.int_inv h2]; rfl
theorem alikeB_spec {xs : List D} (h : alikeB xs = true) : PySem.W.AlikeAll xs ∧ (∀ x ∈ xs, okD 60 x = true) := by
  simp only [alikeB, List.all_eq_true, Bool.and_eq_true] at h
  refine ⟨⟨fun x hx y hy => (h x hx).2 y hy, fun x hx e => ?_⟩, fun x hx => (h x hx).1.1⟩
  have := (h x hx).1.2
  subst e
  simp at this
theorem okAll_plain {xs : List D} (h : ∀ x ∈ xs, okD 60 x = true) : PyData.plainAll xs = true ∧ PyData.depthAll xs ≤ 60 := ⟨plainAll_of fun d hd => (okD_spec (h d hd)).1, depthAll_of fun d hd => (okD_spec (h d hd)).2⟩
theorem HasK.len {x : V} {d : D} {z : D} (h : HasK K B H x d) (e : lenD d = some z) : (∃ n, LenV K x H n ∧ z = .int n) ∨ (∃ a kvs, x = V.ref a ∧ H a = some (.dK kvs) ∧ z = .int kvs.length) ∨ (∃ a kvs, x = V.ref a ∧ H a = some (.dT kvs) ∧ z = .int kvs.length) := by
  rcases h with h | ⟨p, c, rfl, ok, e'⟩
  · cases h with
    | str y =>
      simp only [lenD] at e
      split at e
      · rename_i hl
        cases e
        exact .inl ⟨y.length, ⟨hl, rfl⟩, rfl⟩
      · cases e
    | lst h1 h2 => cases e; exact .inl ⟨_, .inl ⟨_, (h1.elim (fun h => .inl h.2) .inr), rfl⟩, by rw [h2.length]⟩
    | tup h1 h2 => cases e; exact .inl ⟨_, .inr ⟨_, h1.elim (fun h => .inl h.2) .inr, rfl⟩, by rw [h2.length]⟩
    | dK h0 h1 h2 h3 h4 =>
      cases e
      refine .inr (.inl ⟨_, _, rfl, h1, ?_⟩)
      have := h3.length
      rw [h4, h2, List.length_zip, ← this]
      simp
    | dT h0 h1 h2 h3 h4 =>
      cases e
      refine .inr (.inr ⟨_, _, rfl, h1, ?_⟩)
      have := h3.length
      rw [h4, h2, List.length_zip, ← this]
      simp
    | _ => cases e
  · subst e'
    cases c with
    | lst ds =>
      obtain ⟨vs, h1, h2⟩ := ok
      cases e
      exact .inl ⟨_, .inl ⟨_, .inl (.inl h1), rfl⟩, by rw [h2.length]⟩
    | dK kvs =>
      obtain ⟨vs, h1, h2, h3⟩ := ok
      cases e
      refine .inr (.inl ⟨_, _, rfl, h1, ?_⟩)
      have := congrArg List.length h2
      rw [List.length_map, List.length_map] at this
      rw [List.length_map, this]
    | dT kvs =>
      obtain ⟨vs, h1, h2, h3⟩ := ok
      cases e
      refine .inr (.inr ⟨_, _, rfl, h1, ?_⟩)
      have := congrArg List.length h2
      rw [List.length_map, List.length_map] at this
      rw [List.length_map, this]
end
section
variable {X : Cx}
theorem cb_abs : CallR X (.builtin "abs") (rB1 X.K absD) := by
  rintro pins s σ H xs us Q I r ⟨B, x, d, z, hf, rfl, hx, hg, q⟩
  cases d <;> try (cases hg)
  exact call_abs pins s σ H _ us Q I r ⟨_, by rw [hx.int], q _ H (Same.refl H) (.int _)⟩
theorem cb_int : CallR X (.type "int") (rB1 X.K intOfD) := by
  rintro pins s σ H xs us Q I r ⟨B, x, d, z, hf, rfl, hx, hg, q⟩
  cases d <;> try (cases hg)
  · exact call_int1 pins s σ H _ us Q I r (.inr ⟨_, by rw [hx.bl], q _ H (Same.refl H) (.int _)⟩)
  · exact call_int1 pins s σ H _ us Q I r (.inl ⟨_, by rw [hx.int], q _ H (Same.refl H) (.int _)⟩)
theorem cb_len : CallR X (.builtin "len") (rB1 X.K lenD) := by
  rintro pins s σ H xs us Q I r ⟨B, x, d, z, hf, rfl, hx, hg, q⟩
  rcases hx.len hg with ⟨n, h1, rfl⟩ | ⟨a, kvs, rfl, h1, rfl⟩ | ⟨a, kvs, rfl, h1, rfl⟩
  · exact call_len pins s σ H _ us Q I r ⟨x, n, rfl, h1, q _ H (Same.refl H) (.int _)⟩
  · exact call_lenD pins s σ H _ us Q I r ⟨a, kvs, rfl, h1, q _ H (Same.refl H) (.int _)⟩
  · exact call_len_dT pins s σ H _ us Q I r ⟨a, kvs, rfl, h1, q _ H (Same.refl H) (.int _)⟩
theorem cb_min2 (hc : X.calm = true) : CallR X (.builtin "min") (rB2 X.K minI) := by
  rintro pins s σ H xs us Q I r ⟨B, x, y, d, e, z, hf, rfl, hx, hy, hg, q⟩
  cases d <;> cases e <;> try (cases hg)
  exact call_min2 hc pins s σ H _ us Q I r ⟨_, _, by rw [hx.int_inv, hy.int], q _ H (Same.refl H) (.int _)⟩
theorem cb_max2 (hc : X.calm = true) : CallR X (.builtin "max") (rB2 X.K maxI) := by
  rintro pins s σ H xs us Q I r ⟨B, x, y, d, e, z, hf, rfl, hx, hy, hg, q⟩
  cases d <;> cases e <;> try (cases hg)
  exact call_max2 hc pins s σ H _ us Q I r ⟨_, _, by rw [hx.int_inv, hy.int], q _ H (Same.refl H) (.int _)⟩
theorem cb_tup : CallR X (.type "tuple") (rB1 X.K tupOf) := by
  rintro pins s σ H xs us Q I r ⟨B, x, d, z, hf, rfl, hx, hg, q⟩
  cases d <;> try (cases hg)
  · obtain ⟨a, vs, rfl, h1, h2, h3⟩ := hx.lst
    exact call_tuple_of pins s σ H _ us Q I r ⟨a, vs, rfl, .inl ⟨h2, fun l hl => q _ _ (same_upd hl) (.tup (.inl ⟨hf l hl, .inl upd_same⟩) (h3.same (same_upd hl)))⟩⟩
  · obtain ⟨a, vs, rfl, h1, h2, h3⟩ := hx.tup.tup_inv
    exact call_tuple_of pins s σ H _ us Q I r ⟨a, vs, rfl, .inr ⟨h2, q _ H (Same.refl H) (.tup h1 h3)⟩⟩
theorem HasL.toF {K : PySem.W.Frag} {B : Addr → Prop} {H : Hp} {vs ws : List V} {ds : List D} {l : Addr} (h : HasL K B H vs ds) (hl : H l = none) : HasL K (fun a => B a ∨ a = l) (upd H l (.lst ws)) vs ds :=
  h.ext fun c o hc ho => ⟨fun z => z.elim hc (ne_of_none ho hl), (same_upd hl) _ _ ho⟩
theorem cb_lst : CallR X (.type "list") (rB1F X.K lstOf) := by
  rintro pins s σ H xs us Q I r ⟨B, x, d, z, hf, rfl, hx, hg, q⟩
  cases d <;> try (cases hg)
  · obtain ⟨a, vs, rfl, h1, h2, h3⟩ := hx.lst
    exact call_list_of pins s σ H _ us Q I r ⟨a, vs, rfl, .inl h2, fun l hl => q l _ (same_upd hl) hl ⟨vs, upd_same, h3.toF hl⟩⟩
  · obtain ⟨a, vs, rfl, h1, h2, h3⟩ := hx.tup.tup_inv
    exact call_list_of pins s σ H _ us Q I r ⟨a, vs, rfl, .inr h2, fun l hl => q l _ (same_upd hl) hl ⟨vs, upd_same, h3.toF hl⟩⟩
theorem reads_list {pins : List (Addr × Obj)} {σ : L2.St} {H : Hp} {s : Shared} {K : PySem.W.Frag} {vs : List V} {us : List Value} {ds : List D} (I : Inv X pins σ H s) {B : Addr → Prop} (h : HasL X.K B H vs ds) (hp : PyData.plainAll ds = true) (r : Vals vs us) : ∃ as, ReadsAll s.heap us ds as := Dp.readsAll I ds vs us (h.dp hp) r

end
/-! ### min, max of one -/
theorem depth_of_readsAll : True := trivial
theorem itemsOf_inv {d : D} {xs : List D} (h : itemsOf d = some xs) : d = .list xs ∨ d = .tuple xs := by
  cases d <;> cases h
  · exact .inl rfl
  · exact .inr rfl
theorem Vals.get'' : ∀ {xs : List V} {us : List Value} {i : Nat} {u : Value}, Vals xs us → us[i]? = some u → ∃ x, xs[i]? = some x ∧ RelV x u
  | _, _, i, u, .nil, e => by simp at e
  | _, _, 0, u, .cons r t, e => by
    simp at e
    subst e
    exact ⟨_, rfl, r⟩
  | _, _, i + 1, u, .cons r t, e => by
    obtain ⟨x, e1, r1⟩ := Vals.get'' t (i := i) (u := u) (by simpa using e)
    exact ⟨x, by simpa using e1, r1⟩
theorem pick {X : Cx} {H : Hp} {s : Shared} {B : Addr → Prop} {vs : List V} {us : List Value} {ds : List D} {h' : Heap} {as bs : List Addr} {i : Nat} {v : Value} {z : D} (hh : HasL X.K B H vs ds) (r : Vals vs us) (rd : ReadsAll s.heap us ds as)
    (k : ∀ b o, s.heap.get? b = some o → h'.get? b = some o) (e : us[i]? = some v) (r2 : Reads h' v z bs) : ∃ w, RelV w v ∧ Has X.K B H w z := by
  obtain ⟨w, e1, r1⟩ := Vals.get'' r e
  obtain ⟨d, e2, h2⟩ := hh.get' e1
  obtain ⟨bs', r3, _⟩ := PySem.W.readsAll_at rd i v e
  have e4 : ds.getD i .none = d := by rw [List.getD_eq_getElem?_getD, e2]; rfl
  rw [e4] at r3
  have := (Reads.unique (PySem.W.reads_keeps k r3) _ _ r2).1
  subst this
  exact ⟨w, r1, h2⟩
section
variable {X : Cx}
theorem cb_min (hc : X.calm = true) (hu : X.A.units + 70 < cLine) : CallR X (.builtin "min") (rB1 X.K minOf) := by
  rintro pins s σ H xs us Q I r ⟨B, x, d, z, hf, rfl, hx, hg, q⟩
  obtain ⟨u, rfl, rx⟩ := vals1 r
  cases ei : itemsOf d with
  | none => unfold minOf at hg; rw [ei] at hg; cases hg
  | some ys =>
    unfold minOf at hg
    rw [ei] at hg
    cases ys with
    | nil => cases hg
    | cons y ys =>
      dsimp only at hg
      split at hg
      · rename_i ha
        cases hg
        obtain ⟨ha, hok⟩ := alikeB_spec ha
        obtain ⟨hp, hd⟩ := okAll_plain hok
        rcases itemsOf_inv ei with rfl | rfl
        · obtain ⟨a, vs, rfl, h1, h2, h3⟩ := hx.lst
          cases rx
          obtain ⟨its, rv, hl, _⟩ := I.list h2
          obtain ⟨as, ra⟩ := Dp.readsAll I _ vs its (h3.dp hp) rv
          refine PySem.W.min_list_data (I.ok.hd hc) hl.isList (by simpa using ra) ha (by omega) fun i v h' tk bs hv hr k => ?_
          obtain ⟨w, r1, hw⟩ := pick h3 rv ra k (by simpa using hv) hr
          exact ⟨w, H, I.kept k, r1, q _ H (Same.refl H) hw⟩
        · obtain ⟨a, vs, rfl, h1, h2, h3⟩ := hx.tup.tup_inv
          cases rx
          obtain ⟨its, rv, hl, _⟩ := I.tuple h2
          obtain ⟨as, ra⟩ := Dp.readsAll I _ vs its (h3.dp hp) rv
          refine PySem.W.min_tuple_data (I.ok.hd hc) hl (by simpa using ra) ha (by omega) fun i v h' tk bs hv hr k => ?_
          obtain ⟨w, r1, hw⟩ := pick h3 rv ra k (by simpa using hv) hr
          exact ⟨w, H, I.kept k, r1, q _ H (Same.refl H) hw⟩
      · cases hg
theorem cb_max (hc : X.calm = true) (hu : X.A.units + 70 < cLine) : CallR X (.builtin "max") (rB1 X.K maxOf) := by
  rintro pins s σ H xs us Q I r ⟨B, x, d, z, hf, rfl, hx, hg, q⟩
  obtain ⟨u, rfl, rx⟩ := vals1 r
  cases ei : itemsOf d with
  | none => unfold maxOf at hg; rw [ei] at hg; cases hg
  | some ys =>
    unfold maxOf at hg
    rw [ei] at hg
    cases ys with
    | nil => cases hg
    | cons y ys =>
      dsimp only at hg
      split at hg
      · rename_i ha
        cases hg
        obtain ⟨ha, hok⟩ := alikeB_spec ha
        obtain ⟨hp, hd⟩ := okAll_plain hok
        rcases itemsOf_inv ei with rfl | rfl
        · obtain ⟨a, vs, rfl, h1, h2, h3⟩ := hx.lst
          cases rx
          obtain ⟨its, rv, hl, _⟩ := I.list h2
          obtain ⟨as, ra⟩ := Dp.readsAll I _ vs its (h3.dp hp) rv
          refine PySem.W.max_list_data (I.ok.hd hc) hl.isList (by simpa using ra) ha (by omega) fun i v h' tk bs hv hr k => ?_
          obtain ⟨w, r1, hw⟩ := pick h3 rv ra k (by simpa using hv) hr
          exact ⟨w, H, I.kept k, r1, q _ H (Same.refl H) hw⟩
        · obtain ⟨a, vs, rfl, h1, h2, h3⟩ := hx.tup.tup_inv
          cases rx
          obtain ⟨its, rv, hl, _⟩ := I.tuple h2
          obtain ⟨as, ra⟩ := Dp.readsAll I _ vs its (h3.dp hp) rv
          refine PySem.W.max_tuple_data (I.ok.hd hc) hl (by simpa using ra) ha (by omega) fun i v h' tk bs hv hr k => ?_
          obtain ⟨w, r1, hw⟩ := pick h3 rv ra k (by simpa using hv) hr
          exact ⟨w, H, I.kept k, r1, q _ H (Same.refl H) hw⟩
      · cases hg
theorem each_of {K : PySem.W.Frag} {B : Addr → Prop} {H : Hp} : ∀ {vs : List V} {us : List Value} {ds : List D}, HasL K B H vs ds → Vals vs us → PySem.W.EachIs (fun u d => ∃ w, RelV w u ∧ Has K B H w d) us ds
  | _, _, _, .nil, .nil => .nil
  | _, _, _, .cons h t, .cons r q => .cons ⟨_, r, h⟩ (each_of t q)
theorem each_back {K : PySem.W.Frag} {B : Addr → Prop} {H : Hp} : ∀ {us : List Value} {ds : List D}, PySem.W.EachIs (fun u d => ∃ w, RelV w u ∧ Has K B H w d) us ds → ∃ vs, HasL K B H vs ds ∧ Vals vs us
  | _, _, .nil => ⟨[], .nil, .nil⟩
  | _, _, .cons ⟨w, r, h⟩ t => let ⟨vs, h1, r1⟩ := each_back t; ⟨w :: vs, .cons h h1, .cons r r1⟩
theorem each_reads {h : Heap} : ∀ {us : List Value} {ds : List D} {as : List Addr}, ReadsAll h us ds as → PySem.W.EachIs (fun v b => ∃ as, Reads h v b as) us ds
  | _, _, _, .nil => .nil
  | _, _, _, .cons h t => .cons ⟨_, h⟩ (each_reads t)
theorem sortB_spec {xs : List D} (h : sortB xs = true) : PySem.W.AllAlike xs ∧ PySem.W.Sortable xs ∧ ∀ x ∈ xs, okD 60 x = true := by
  simp only [sortB, Bool.and_eq_true, Bool.or_eq_true, List.all_eq_true] at h
  obtain ⟨h1, h2⟩ := h
  obtain ⟨⟨ha, hn⟩, hok⟩ := alikeB_spec h1
  refine ⟨ha, ?_, hok⟩
  rcases h2 with h2 | h2
  · refine .inl fun d hd => ?_
    have := h2 d hd
    cases d <;> try (cases this)
    rename_i ys
    cases ys with
    | nil => cases this
    | cons y ys => exact ⟨y, ys, rfl⟩
  · refine .inr fun d hd => ⟨hn d hd, fun ys e => ?_⟩
    have := h2 d hd
    subst e
    cases this
theorem cb_sort (hu : X.A.units + 70 < cLine) : CallR X (.builtin "sorted") (rB1F X.K sortF) := by
  rintro pins s σ H xs us Q I r ⟨B, x, d, z, hf, rfl, hx, hg, q⟩
  obtain ⟨u, rfl, rx⟩ := vals1 r
  cases d <;> try (cases hg)
  rename_i ds
  simp only [sortF] at hg
  split at hg
  · rename_i ho
    cases hg
    obtain ⟨h1, h2⟩ := ho
    obtain ⟨ha, hs, hok⟩ := sortB_spec h1
    obtain ⟨hp, hd⟩ := okAll_plain hok
    obtain ⟨a, vs, rfl, _, hq, h3⟩ := hx.lst
    cases rx
    obtain ⟨its, rv, hl, _⟩ := I.list hq
    obtain ⟨as, ra⟩ := Dp.readsAll I _ vs its (h3.dp hp) rv
    have id1 : ds.map (fun d => d) = ds := List.map_id' ds
    refine PySem.W.sorted_data (enc := fun d => d) (bs := ds) hl.isList (each_of h3 rv) (each_reads ra) (by rw [id1]; exact ha) (by rw [id1]; exact hs) h2 (fun b hb => ?_) fun out hlen he => ?_
    · have := (okD_spec (hok b hb)).2
      show X.A.units + 2 + b.depth < _
      omega
    · obtain ⟨ws, hw, rw'⟩ := each_back he
      obtain ⟨ep, he'⟩ := PyProof.Rows.sortedAll_at s.heap its out.toArray
      have h0 : H (s.heap.objs.size + 1) = none := I.hok.fresh (Nat.le_succ _)
      have hz : ws.length ≤ sizeLine := by rw [rw'.length, hlen]; exact h2
      exact ⟨.ref _, upd H (s.heap.objs.size + 1) (.lst ws), I.laid (t' := s.toks) (fun _ _ => PyProof.Rows.sortedAll_old) (Nat.le_succ _) ⟨hz, out, ep, rw', he'⟩, rfl, q _ _ (same_upd h0) h0 ⟨ws, upd_same, hw.toF h0⟩⟩
  · cases hg
theorem sum_rawT {prog : Program} {w : World} {A : Around} {E : Value → Shared → Prop} {s : Shared} {l : Addr} {its : List Value} {ns : List Int} {Q : Value → Shared → Prop} (hh : A.handled = none) (hl : s.heap.IsTuple l its.toArray) (hi : IntsAre its ns)
    (h : ∀ h' tk t', (∀ b o, s.heap.get? b = some o → h'.get? b = some o) → Q (.int ns.sum t') { s with heap := h', toks := tk }) : wpAny (model prog w) A (call (.builtin "sum") [.ref l]) Q E s := by
  obtain ⟨xs, e⟩ := hi.allInts.items
  have hn : numsOf (intItems xs).toList = ns := by rw [← e]; exact hi.numsOf
  rw [nums_intItems] at hn
  rw [e] at hl
  refine PySem.W.ktm_sumG hh hl fun h' tk t' hk => ?_
  have := h h' tk t' hk
  rw [preSum_eq, List.take_of_length_le (by simp), hn]; exact this
theorem cb_sum (hc : X.calm = true) : CallR X (.builtin "sum") (rB1 X.K sumD) := by
  rintro pins s σ H xs us Q I r ⟨B, x, d, z, hf, rfl, hx, hg, q⟩
  cases d <;> try (cases hg)
  · rename_i ds
    simp only [sumD] at hg
    cases e : intsOf ds with
    | none => rw [e] at hg; cases hg
    | some is =>
      rw [e] at hg
      cases hg
      cases intsOf_eq e
      obtain ⟨a, vs, rfl, _, hq, h3⟩ := hx.lst
      cases h3.int_inv
      exact cr_sum hc pins s σ H _ us Q I r ⟨a, is, rfl, hq, q _ H (Same.refl H) (.int _)⟩
  · rename_i ds
    simp only [sumD] at hg
    cases e : intsOf ds with
    | none => rw [e] at hg; cases hg
    | some is =>
      rw [e] at hg
      cases hg
      cases intsOf_eq e
      obtain ⟨a, vs, rfl, _, hq, h3⟩ := hx.tup.tup_inv
      cases h3.int_inv
      obtain ⟨u, rfl, rx⟩ := vals1 r
      cases rx
      obtain ⟨its, rv, hl, _⟩ := I.tuple hq
      exact sum_rawT (I.ok.hd hc) hl rv.ints fun h' tk t' hk => ⟨.int _, H, I.kept hk, ⟨_, rfl⟩, q _ H (Same.refl H) (.int _)⟩
end

/-! ### isinstance -/
def isT (p : D → Bool) (d : D) : Option D := if okD 60 d = true then some (.bool (p d)) else none
def rIs (K : PySem.W.Frag) (T : String) (p : D → Bool) : List V → Hp → VK → Prop := fun xs H Q => ∃ (B : Addr → Prop) (x : V) (d z : D), (∀ p, H p = none → ¬ B p) ∧ xs = [x, .ty T] ∧ HasK K B H x d ∧ isT p d = some z ∧ ∀ v H', Same H H' → Has K B H' v z → Q v H'
/-- the test T tells p -/
def IsaOk (X : Cx) (T : String) (p : D → Bool) : Prop := CallR X (.builtin "isinstance") (rIs X.K T p)
section
variable {X : Cx} {G : Gc} {W : WX} {a b e : Expr} {m : M D} {pos p p2 : Pos} {x : Str} {T : String}
theorem isa_of {P : D → Bool} (h : ∀ {A : Around} {E : Value → Shared → Prop} {s : Shared} {v : Value} {d : D} {as : List Addr} {Q : Value → Shared → Prop} (r : Reads s.heap v d as) (q : ∀ tk, s.toks ≤ tk → Q (.bool (P d)) { s with toks := tk }), wpAny (model X.prog X.w) A (call (.builtin "isinstance") [v, .type T]) Q E s) : IsaOk X T P := by
  rintro pins s σ H xs us Q I r ⟨B, x, d, z, hf, rfl, hx, hg, q⟩
  obtain ⟨u, u2, rfl, r1, r2⟩ := vals2 r
  cases (show u2 = Value.type T from r2)
  simp only [isT] at hg
  split at hg
  · rename_i ho
    cases hg
    obtain ⟨as, rd⟩ := hx.reads I ho r1
    exact h rd fun tk _ => ⟨.bl _, H, I.tok tk, rfl, q _ H (Same.refl H) (.bl _)⟩
  · cases hg
theorem isa_int : IsaOk X "int" PyData.isInt := isa_of PySem.W.isinstance_int_data
theorem isa_bool : IsaOk X "bool" PyData.isBool := isa_of PySem.W.isinstance_bool_data
theorem isa_str : IsaOk X "str" PyData.isStr := isa_of PySem.W.isinstance_str_data
theorem isa_list : IsaOk X "list" PyData.isList := isa_of PySem.W.isinstance_list_data
theorem isa_tup : IsaOk X "tuple" PyData.isTuple := isa_of PySem.W.isinstance_tuple_data
theorem de_isa {P : D → Bool} {y : Str} (h : IsaOk X T P) (ha : DK X G W e m) (hm : X.mg "isinstance" = none) (hm2 : X.mg y = none) (hv2 : bootBuiltins y = some (.type T) := by rfl) (hg : Gl X "isinstance" := by rfl) (hg2 : Gl X y := by rfl) (hy : (y == ("__debug__" : Str)) = false := by decide) (hyn : y ≠ "__name__" := by decide)
    (hs1 : starEach [e, .Name y p2] X.env = (false, eval e X.env) :: starEach [.Name y p2] X.env := by rfl) (hpl : (backTo pos (starEach [.Name y p2] X.env)).any (·.1) = false := by rfl) (hs2 : starEach [.Name y p2] X.env = (false, eval (.Name y p2) X.env) :: starEach [] X.env := by rfl) (hk : X.K = G.K := by rfl) :
    DE X G W (.Call (.Name "isinstance" p) [e, .Name y p2] [] pos) (M.un (isT P) m) := by
  refine imp (pe_callB h hg hm (by rfl) (pa_cons ha (pa_cons (pe_bltn (v := .ty T) hg2 hm2 hv2 rfl hyn hy) pa_nil hs2) hs1) (by decide) (by decide) hs1 hpl) ?_
  rintro σ H Q ⟨ρ, f, r, R, hm, hp⟩
  refine tK_bind R hm (xok hp) fun d ρ1 v H1 hk1 R1 x1 hv => ?_
  obtain ⟨z, e, er⟩ := lift_inv hk1
  subst er
  rw [hk]
  exact ⟨Bad G ρ1 f, v, d, z, fun p h => R1.free h, rfl, hv, e, fun w H' s hw => hp w H' (R1.same s) (x1.trans (Ext.same s)) hw⟩
end
end DL
namespace DL
open PySem PySem.Spec PyProof.Rows L2

/-! ### an object that is kept as it is for a while -/
def Gc.pin (G : Gc) (p : Addr) (o : HO) : Gc := { G with A := fun a => G.A a ∨ a = p, H0 := L2.upd G.H0 p o }
structure Apt (G : Gc) (p : Addr) : Prop where
  a : ¬ G.A p
  h0 : G.H0 p = none
  t : ¬ G.T p
  inn : ∀ q ∈ G.inns, G.A q.2
section
variable {G : Gc} {σ σ' : L2.St} {H H' : Hp} {ρ ρ' : Rho} {f : Nat → Addr} {p : Addr} {o o' : HO}
theorem Rel.apt (R : Rel G σ H ρ f) (h : H p = none) : Apt G p where
  a := (R.fresh h).a
  h0 := (R.fresh h).h0
  t := fun z => by
    obtain ⟨_, ps, e, _⟩ := R.dom.2 p z
    rw [h] at e; cases e
  inn := fun q hq => by
    obtain ⟨c, e1, e2⟩ := R.innB q hq
    rw [← e2]
    exact (R.inn _ _ e1).2
theorem bad_pin {a : Addr} : Bad (G.pin p o) ρ f a ↔ Bad G ρ f a ∨ a = p := bad_plus (G := G) (p := p)
theorem SlOk.pin {B : Addr → Prop} {q : Addr} {s : Sl} {v : V} (h : SlOk G B H q v s) : SlOk (G.pin p o) B H q v s := by
  cases s <;> exact h
theorem SlOk.unpin {B : Addr → Prop} {q : Addr} {s : Sl} {v : V} (h : SlOk (G.pin p o) B H q v s) : SlOk G B H q v s := by
  cases s <;> exact h
theorem Rel.toPin (R : Rel G σ H ρ f) (h0 : H p = none) : Rel (G.pin p o) σ (L2.upd H p o) ρ f := by
  have R1 := R.grow h0 (same_upd (o := o) h0) ⟨o, upd_same⟩
  have ap := R.apt h0
  refine ⟨R1.len, fun a o' e hn ht => ?_, R1.dom, fun i c e => ⟨(R1.own i c e).1, ?_⟩, R1.inj, R1.inn, R1.innB, fun i s e => ?_⟩
  · by_cases ha : a = p
    · subst ha
      rw [show (G.pin a o).H0 a = some o from upd_same] at e
      cases e
      exact upd_same
    · rw [show (G.pin p o).H0 a = G.H0 a from upd_ne ha] at e
      exact R1.keep a o' e hn ht
  · rw [show (G.pin p o).H0 (f i) = G.H0 (f i) from upd_ne fun z => (R1.own i c e).1 (.inr z)]
    exact (R.own i c e).2
  · obtain ⟨v, e1, h⟩ := R1.sl i s e
    exact ⟨v, e1, SlOk.pin (SlOk.minus h)⟩
theorem Rel.at (R : Rel (G.pin p o) σ H ρ f) (ap : Apt G p) : H p = some o :=
  R.keep p o upd_same (fun q hq z => ap.a (z ▸ ap.inn q hq)) ap.t
theorem Rel.unpin (R : Rel (G.pin p o) σ H ρ f) (ap : Apt G p) : Rel (G.plus p) σ H ρ f := by
  refine ⟨R.len, fun a o' e hn ht => ?_, R.dom, fun i c e => ⟨(R.own i c e).1, ?_⟩, R.inj, R.inn, R.innB, fun i s e => ?_⟩
  · have ha : a ≠ p := fun z => by
      rw [z] at e
      rw [show (G.plus p).H0 p = none from ap.h0] at e
      cases e
    exact R.keep a o' (by rw [show (G.pin p o).H0 a = G.H0 a from upd_ne ha]; exact e) hn ht
  · have := (R.own i c e).2
    rw [show (G.pin p o).H0 (f i) = G.H0 (f i) from upd_ne fun z => (R.own i c e).1 (.inr z)] at this
    exact this
  · obtain ⟨v, e1, h⟩ := R.sl i s e
    exact ⟨v, e1, (SlOk.unpin h).plus⟩
theorem Rel.nf (R : Rel (G.pin p o) σ H ρ f) (ap : Apt G p) {i : Nat} {b : Bool} {c : Cell} (e : ρ[i]? = some (some (.mut b c))) : f i ≠ p := by
  cases b with
  | true => exact fun z => (R.own i c e).1 (.inr z)
  | false => exact fun z => ap.a (z ▸ ap.inn _ (R.inn i c e).1)
/-- it is rewritten -/
theorem Rel.repin (R : Rel (G.pin p o) σ H ρ f) (ap : Apt G p) : Rel (G.pin p o') σ (L2.upd H p o') ρ f := by
  have x : Ext (Bad (G.pin p o) ρ f) H (Bad (G.pin p o') ρ f) (L2.upd H p o') := fun a ob hb e => by
    have ha : a ≠ p := fun z => hb (bad_pin.mpr (.inr z))
    exact ⟨fun z => hb (bad_pin.mpr (bad_pin.mp z)), by rw [upd_ne ha]; exact e⟩
  refine ⟨R.len, fun a o'' e hn ht => ?_, ⟨fun a h => ?_, fun a h => ⟨(R.dom.2 a h).1, ?_⟩⟩, fun i c e => ⟨(R.own i c e).1, ?_⟩, R.inj, R.inn, R.innB, fun i s e => ?_⟩
  · by_cases ha : a = p
    · subst ha
      rw [show (G.pin a o').H0 a = some o' from upd_same] at e
      cases e
      exact upd_same
    · rw [show (G.pin p o').H0 a = G.H0 a from upd_ne ha] at e
      rw [upd_ne ha]
      exact R.keep a o'' (by rw [show (G.pin p o).H0 a = G.H0 a from upd_ne ha]; exact e) hn ht
  · by_cases ha : a = p
    · subst ha; exact ⟨o', upd_same⟩
    · obtain ⟨u, e⟩ := R.dom.1 a h
      exact ⟨u, by rw [upd_ne ha]; exact e⟩
  · obtain ⟨ps, e, tr⟩ := (R.dom.2 a h).2
    exact ⟨ps, by rw [upd_ne (show a ≠ p from fun z => ap.t (z ▸ h))]; exact e, tr⟩
  · have := (R.own i c e).2
    rw [show (G.pin p o).H0 (f i) = G.H0 (f i) from upd_ne fun z => (R.own i c e).1 (.inr z)] at this
    rw [show (G.pin p o').H0 (f i) = G.H0 (f i) from upd_ne fun z => (R.own i c e).1 (.inr z)]
    exact this
  · obtain ⟨v, e1, h⟩ := R.sl i s e
    refine ⟨v, e1, ((SlOk.unpin h).ext x ?_).pin⟩
    rintro ⟨b, c, rfl⟩
    rw [upd_ne (R.nf ap e)]
/-- a new list -/
theorem Rel.newAt {vs : List V} {ds : List D} (R : Rel (G.pin p (.lst vs)) σ H ρ f) (ap : Apt G p) (h : HasL G.K (Bad (G.pin p (.lst vs)) ρ f) H vs ds) : NewAt G σ H ρ f p (.lst ds) := by
  have RP := R.unpin ap
  have fr : Fresh G ρ f p := ⟨ap.a, ap.h0, fun i b c e => R.nf ap e⟩
  exact ⟨RP.minus fr (fun i c e => ap.inn _ (RP.inn i c e).1) ap.t, RP, fr, ⟨vs, R.at ap, HasL.ext (B := Bad (G.pin p (.lst vs)) ρ f) (fun a ob hb e => ⟨fun z => hb (bad_pin.mpr z), e⟩) h⟩⟩
/-- what slots say nothing may hold anything -/
theorem Rel.slots (R : Rel G σ H ρ f) (hl : σ'.length = σ.length) (h : ∀ (i : Nat) (s : Sl), ρ[i]? = some (some s) → σ'[i]? = σ[i]?) : Rel G σ' H ρ f :=
  ⟨hl.trans R.len, R.keep, R.dom, R.own, R.inj, R.inn, R.innB, fun i s e => by rw [h i s e]; exact R.sl i s e⟩
end

/-! ### a block's own names -/
def wipeR (ρ : Rho) : List Nat → Rho
  | [] => ρ
  | v :: vs => (wipeR ρ vs).set v none
theorem wipeR_len (ρ : Rho) : ∀ vs, (wipeR ρ vs).length = ρ.length
  | [] => rfl
  | v :: vs => by rw [wipeR, List.length_set, wipeR_len ρ vs]
theorem wipeR_at {ρ : Rho} {i : Nat} {s : Sl} : ∀ {vs : List Nat}, (wipeR ρ vs)[i]? = some (some s) → ρ[i]? = some (some s) ∧ i ∉ vs
  | [], h => ⟨h, by simp⟩
  | v :: vs, h => by
    rcases get_set (show ((wipeR ρ vs).set v none)[i]? = _ from h) with ⟨_, e, _⟩ | ⟨hne, e⟩
    · cases e
    · obtain ⟨h1, h2⟩ := wipeR_at e
      exact ⟨h1, by simp [hne, h2]⟩
def noInn (ρ : Rho) (vs : List Nat) : Bool := vs.all fun v => !isInn ρ v
theorem isInn_wipe {ρ : Rho} {i : Nat} (h : isInn ρ i = false) (vs : List Nat) : isInn (wipeR ρ vs) i = false := by
  cases e : isInn (wipeR ρ vs) i with
  | false => rfl
  | true =>
    unfold isInn at e
    split at e
    · rename_i c e2
      have := (wipeR_at e2).1
      unfold isInn at h
      rw [this] at h
      cases h
    · cases e
theorem Rel.wipe {G : Gc} {σ : L2.St} {H : Hp} {ρ : Rho} {f : Nat → Addr} (R : Rel G σ H ρ f) : ∀ (vs : List Nat), noInn ρ vs = true → Rel G (L2.wipe σ vs) H (wipeR ρ vs) f ∧ Ext (Bad G ρ f) H (Bad G (wipeR ρ vs) f) H
  | [], _ => ⟨R, Ext.refl _ _⟩
  | v :: vs, h => by
    simp only [noInn, List.all_cons, Bool.and_eq_true] at h
    obtain ⟨R1, x1⟩ := Rel.wipe R vs (by simpa [noInn] using h.2)
    obtain ⟨R2, x2⟩ := R1.put (i := v) (s := none) (w := none) (isInn_wipe (by simpa using h.1) vs) (fun t e => nomatch e)
    exact ⟨R2, x1.trans x2⟩
theorem wipe_set {σ : L2.St} {x : Option V} {i : Nat} : ∀ {vs : List Nat}, i ∈ vs → L2.wipe (σ.set i x) vs = L2.wipe σ vs
  | v :: vs, h => by
    unfold L2.wipe
    by_cases hi : i ∈ vs
    · rw [wipe_set hi]
    · have e : i = v := by simpa [hi] using h
      subst e
      have : ∀ (ws : List Nat), i ∉ ws → L2.wipe (σ.set i x) ws = (L2.wipe σ ws).set i x := fun ws => by
        induction ws with
        | nil => intro _; rfl
        | cons w ws ih =>
          intro hn
          have h1 : i ≠ w := fun z => hn (by simp [z])
          have h2 : i ∉ ws := fun z => hn (by simp [z])
          unfold L2.wipe
          rw [ih h2, List.set_comm _ _ h1]
      rw [this vs hi, List.set_set]

/-! ### its targets -/
def tGv (G : Gc) (vs : List Nat) (m : TgM) : TG := fun v σ H Q => ∃ ρ f d ρ', Rel G σ H ρ f ∧ Has G.K (Bad G ρ f) H v d ∧ m d ρ = some ρ' ∧ ∀ σ', L2.wipe σ' vs = L2.wipe σ vs → Rel G σ' H ρ' f → Ext (Bad G ρ f) H (Bad G ρ' f) H → Q σ' H
abbrev DGv (X : Cx) (G : Gc) (vs : List Nat) (e : Expr) (m : TgM) : Prop := PG X e (tGv G vs m)
def tGvs (G : Gc) (vs : List Nat) (m : List D → Rho → Option Rho) : TGs := fun us σ H Q => ∃ ρ f ds ρ', Rel G σ H ρ f ∧ HasL G.K (Bad G ρ f) H us ds ∧ m ds ρ = some ρ' ∧ ∀ σ', L2.wipe σ' vs = L2.wipe σ vs → Rel G σ' H ρ' f → Ext (Bad G ρ f) H (Bad G ρ' f) H → Q σ' H
abbrev DGvs (X : Cx) (G : Gc) (vs : List Nat) (es : List Expr) (m : List D → Rho → Option Rho) : Prop := PGs X es (tGvs G vs m)
section
variable {X : Cx} {G : Gc} {W : WX} {e tg elt iter : Expr} {es ifs : List Expr} {m me : M D} {mt : M Bool} {pos : Pos} {gm : TgM} {gr : List D → Rho → Option Rho} {vs : List Nat}
theorem dgv_name {x : Str} (i : Nat) (hN : X.N.Nodup) (hv : i ∈ vs := by decide) (hi : X.N[i]? = some x := by rfl) (hx : Loc X.env.scope x := by first | exact Or.inl rfl | exact Or.inr rfl) (hf : X.fn x = true ∨ X.env.scope.names.lookup x = some .local := by first | exact .inr rfl | exact .inl rfl) : DGv X G vs (.Name x pos) (tgN i) := by
  refine impG (pg_name hN hi hx hf) ?_
  rintro v σ H Q ⟨ρ, f, d, ρ', R, h, hm, q⟩
  unfold tgN at hm
  split at hm
  · cases hm
  · rename_i hin
    cases hm
    obtain ⟨R', x⟩ := R.putD (i := i) (by simpa using hin) h
    exact q _ (wipe_set hv) R' x
theorem dgvs_nil : DGvs X G vs [] tgNil := impGs pgs_nil fun v σ H Q ⟨ρ, f, ds, ρ', R, h, hm, q⟩ => by
  cases h with
  | nil => cases hm; exact ⟨rfl, q σ rfl R (Ext.refl _ _)⟩
  | cons _ _ => cases hm
theorem dgvs_cons (h : DGv X G vs e gm) (h2 : DGvs X G vs es gr) (hs : (assignEach (e :: es) X.env).map (·.2) = assign e X.env :: (assignEach es X.env).map (·.2) := by rfl) : DGvs X G vs (e :: es) (tgCons gm gr) := by
  refine impGs (pgs_cons h h2 hs) ?_
  rintro v σ H Q ⟨ρ, f, ds, ρ', R, h, hm, q⟩
  cases h with
  | nil => cases hm
  | cons h1 h2 =>
    obtain ⟨ρ1, e1, e2⟩ := Option.bind_eq_some_iff.mp (show (gm _ ρ).bind _ = some ρ' from hm)
    exact ⟨_, _, rfl, ρ, f, _, ρ1, R, h1, e1, fun σ1 w1 R1 x1 => ⟨ρ1, f, _, ρ', R1, h2.ext x1, e2, fun σ2 w2 R2 x2 => q σ2 (w2.trans w1) R2 (x1.trans x2)⟩⟩
theorem dgv_tup {kk l : Nat} (hc : X.calm = true) (h : DGvs X G vs es gr) (hn : (assignEach es X.env).length = l := by rfl) (hst : (assignEach es X.env).findIdx? (·.1) = none := by rfl) (hk : X.K = G.K := by rfl) : DGv X G vs (.Tuple es kk pos) (tgT l gr) := by
  refine impG (pg_tup hc h hn hst) ?_
  rintro v σ H Q ⟨ρ, f, d, ρ', R, h, hm, q⟩
  cases d <;> try (cases hm)
  rename_i ds
  simp only [tgT] at hm
  split at hm
  · rename_i hl
    obtain ⟨a, xs, rfl, r1, s1, h1⟩ := h.tup_inv
    exact ⟨a, xs, rfl, hk ▸ s1, by rw [h1.length]; exact hl, ρ, f, ds, ρ', R, h1, hm, q⟩
  · cases hm

/-! ### [elt for target in iter if test] -/
abbrev F0 : WX := fun _ _ _ _ => False
def M.yes : M Bool := .ret true
abbrev DTs (X : Cx) (G : Gc) (W : WX) (es : List Expr) (m : M Bool) : Prop := PTs X es (tT G W m)
theorem dts_nil : DTs X G W [] M.yes := ⟨fun pins s σ H Q I h => pts_nil.run pins s σ H Q I (by
  obtain ⟨ρ, f, r, R, hm, hp⟩ := h
  cases hm
  exact hp H R (Ext.refl _ _))⟩
theorem dts_one (h : DT X G W e mt) : DTs X G W [e] mt := pts_one h
def lcLoop (g : TgM) (mt : M Bool) (me : M D) (vs : List Nat) : List D → List D → Rho → Option (List D × Rho)
  | [], acc, ρ => some (acc, ρ)
  | d :: r, acc, ρ => match g d ρ with
    | none => none
    | some ρ2 => match mt ρ2 with
      | some (.val true ρ3) => match me ρ3 with
        | some (.val y ρ4) => if acc.length < 16777216 ∧ noInn ρ4 vs = true then lcLoop g mt me vs r (acc ++ [y]) (wipeR ρ4 vs) else none
        | _ => none
      | some (.val false ρ3) => if noInn ρ3 vs = true then lcLoop g mt me vs r acc (wipeR ρ3 vs) else none
      | _ => none
def M.lc (ms : M (List D)) (g : TgM) (mt : M Bool) (me : M D) (vs : List Nat) : M Cell := ms.bind fun ds ρ => if noInn ρ vs = true then match lcLoop g mt me vs ds [] (wipeR ρ vs) with
  | some (acc, ρ') => if noInn ρ' vs = true then some (.val (.lst acc) (wipeR ρ' vs)) else none
  | none => none else none
theorem wipe_wipe {σ : L2.St} {vs : List Nat} : L2.wipe (L2.wipe σ vs) vs = L2.wipe σ vs := by
  apply List.ext_getElem?
  intro i
  by_cases hi : i ∈ vs
  · have key : ∀ (τ : L2.St), (L2.wipe τ vs)[i]? = if i < τ.length then some none else none := fun τ => by
      have : ∀ (ws : List Nat), i ∈ ws → (L2.wipe τ ws)[i]? = if i < τ.length then some none else none := fun ws => by
        induction ws with
        | nil => intro h; simp at h
        | cons w ws ih =>
          intro h
          unfold L2.wipe
          by_cases e : w = i
          · subst e
            rw [List.getElem?_set]
            simp [wipe_length]
          · rw [List.getElem?_set_ne e]
            exact ih (by simpa [Ne.symm e] using h)
      exact this vs hi
    rw [key, key, wipe_length]
  · have key : ∀ (τ : L2.St), (L2.wipe τ vs)[i]? = τ[i]? := fun τ => by
      have : ∀ (ws : List Nat), i ∉ ws → (L2.wipe τ ws)[i]? = τ[i]? := fun ws => by
        induction ws with
        | nil => intro _; rfl
        | cons w ws ih =>
          intro h
          unfold L2.wipe
          rw [List.getElem?_set_ne (fun z => h (by simp [z])), ih fun z => h (by simp [z])]
      exact this vs hi
    rw [key]
theorem tI_bind {α : Type} {ms : M (List D)} {k : List D → M α} {σ : L2.St} {H : Hp} {ρ : Rho} {f : Nat → Addr} {r : R α} {Q : It → Hp → Prop} (Rl : Rel G σ H ρ f) (h : M.bind ms k ρ = some r) (hx : ∀ c ρ', r = .exc c ρ' → XP G W σ c ρ' f)
    (hk : ∀ ds ρ' J n Gh Y H', k ds ρ' = some r → Rel G σ H' ρ' f → Ext (Bad G ρ f) H (Bad G ρ' f) H' → WalkOk G (Bad G ρ' f) H' ds J n Gh Y → Q J H') : tI G W ms σ H Q := by
  rcases bind_inv h with ⟨c, ρ', e1, e2⟩ | ⟨d, ρ', e1, e2⟩
  · exact ⟨ρ, f, _, Rl, e1, hx c ρ' e2⟩
  · exact ⟨ρ, f, _, Rl, e1, fun J n Gh Y H' R' x hh => hk d ρ' J n Gh Y H' e2 R' x hh⟩
theorem wipe_rel {σ σ2 : L2.St} {H : Hp} {ρ : Rho} {f : Nat → Addr} (R : Rel G σ2 H ρ f) (h : noInn ρ vs = true) (e : L2.wipe σ2 vs = L2.wipe σ vs) : Rel G (L2.wipe σ vs) H (wipeR ρ vs) f ∧ Ext (Bad G ρ f) H (Bad G (wipeR ρ vs) f) H := e ▸ R.wipe vs h
theorem wipe_at {σ : L2.St} {i : Nat} : ∀ {vs : List Nat}, i ∉ vs → (L2.wipe σ vs)[i]? = σ[i]?
  | [], _ => rfl
  | v :: vs, h => by
    unfold L2.wipe
    rw [List.getElem?_set_ne (fun z => h (by simp [z])), wipe_at fun z => h (by simp [z])]
def tPinD (G : Gc) (m : M D) : TE := fun σ H Q => ∃ p o, tD (G.pin p o) F0 m σ H Q
def tPinT (G : Gc) (m : M Bool) : TT := fun σ H Q => ∃ p o, tT (G.pin p o) F0 m σ H Q
def tPinG (G : Gc) (vs : List Nat) (g : TgM) : TG := fun v σ H Q => ∃ p o, tGv (G.pin p o) vs g v σ H Q
theorem pin_d (h : ∀ p o, DE X (G.pin p o) F0 e m) : PE X e (tPinD G m) := ⟨fun pins s σ H Q I ⟨p, o, hq⟩ => (h p o).run pins s σ H Q I hq⟩
theorem pin_t (h : ∀ p o, DTs X (G.pin p o) F0 es mt) : PTs X es (tPinT G mt) := ⟨fun pins s σ H Q I ⟨p, o, hq⟩ => (h p o).run pins s σ H Q I hq⟩
theorem pin_g (h : ∀ p o, DGv X (G.pin p o) vs e gm) : PG X e (tPinG G vs gm) := ⟨fun pins s σ H v u Q I r ⟨p, o, hq⟩ => (h p o).run pins s σ H v u Q I r hq⟩
theorem slots_back {σ : L2.St} {H : Hp} {ρ : Rho} {f : Nat → Addr} (R : Rel G (L2.wipe σ vs) H ρ f) (h : noInn ρ vs = true) : Rel G σ H (wipeR ρ vs) f ∧ Ext (Bad G ρ f) H (Bad G (wipeR ρ vs) f) H := by
  obtain ⟨R1, x1⟩ := R.wipe vs h
  refine ⟨R1.slots (by rw [wipe_length, wipe_length]) fun i s e => ?_, x1⟩
  have hi := (wipeR_at e).2
  rw [wipe_at hi, wipe_at hi]
theorem lc_imp {ms : M (List D)} {g : TgM} : ∀ σ H Q, tF G W (M.lc ms g mt me vs) σ H Q → tLc (tI G W ms) (tPinG G vs g) (tPinT G mt) (tPinD G me) vs σ H Q := by
  rintro σ H Q ⟨ρ, f, r, R, hm, hp⟩
  refine tI_bind R hm (xok hp) fun ds ρ1 J n Gh Y H1 hk R1 x1 wk => ?_
  intro D hD
  split at hk
  · rename_i hn1
    cases el : lcLoop g mt me vs ds [] (wipeR ρ1 vs) with
    | none => rw [el] at hk; cases hk
    | some res =>
      rw [el] at hk
      obtain ⟨out, ρ'⟩ := res
      dsimp only at hk
      split at hk
      · rename_i hn2
        cases hk
        have ap := R1.apt hD
        obtain ⟨Rw, xw⟩ := R1.wipe vs hn1
        have R2 : Rel (G.pin D (.lst [])) (L2.wipe σ vs) (L2.upd H1 D (.lst [])) (wipeR ρ1 vs) f := Rw.toPin hD
        have x2 : Ext (Bad G ρ1 f) H1 (Bad (G.pin D (.lst [])) (wipeR ρ1 vs) f) (L2.upd H1 D (.lst [])) := fun a ob hb e => by
          obtain ⟨h1, h2⟩ := xw a ob hb e
          exact ⟨fun z => (bad_pin.mp z).elim h1 (ne_of_none e hD), same_upd hD _ _ e⟩
        refine lc_it wk.walk (fun i H2 => ∃ (ρ2 : Rho) (vacc : List V) (acc : List DL.D), Rel (G.pin D (.lst vacc)) (L2.wipe σ vs) H2 ρ2 f ∧ HasL G.K (Bad (G.pin D (.lst vacc)) ρ2 f) H2 vacc acc ∧ lcLoop g mt me vs (ds.drop i) acc ρ2 = some (out, ρ') ∧ Ext (Bad G ρ1 f) H1 (Bad (G.pin D (.lst vacc)) ρ2 f) H2)
          ⟨_, [], [], R2, .nil, by simpa using el, x2⟩ (fun i H2 _ ⟨ρ2, vacc, acc, _, _, _, x3⟩ => wk.keep _ _ x3) ?_ ?_
        · rintro i x H2 H3 hi ⟨ρ2, vacc, acc, R3, ha, hl, x3⟩ y
          have hlt : i < ds.length := by rw [wk.len]; exact hi
          rw [List.drop_eq_getElem_cons hlt] at hl
          obtain ⟨s3, hx⟩ := wk.item i ds[i] (Bad (G.pin D (.lst vacc)) ρ2 f) H2 x H3 (List.getElem?_eq_getElem hlt) x3 (fun p h => R3.free h) y
          have R4 := R3.same s3
          have ha4 := ha.same s3
          simp only [lcLoop] at hl
          cases eg : g ds[i] ρ2 with
          | none => rw [eg] at hl; cases hl
          | some ρ3 =>
            rw [eg] at hl
            dsimp only at hl
            refine ⟨D, .lst vacc, ρ2, f, ds[i], ρ3, R4, hx, eg, fun σ5 w5 R5 x5 => ⟨by rw [w5]; exact wipe_wipe, ?_⟩⟩
            have w5' : L2.wipe σ5 vs = L2.wipe σ vs := w5.trans wipe_wipe
            cases et : mt ρ3 with
            | none => rw [et] at hl; cases hl
            | some rt =>
              rw [et] at hl
              cases rt with
              | exc c ρ4 => cases hl
              | val b ρ4 =>
                refine ⟨D, .lst vacc, ρ3, f, _, R5, et, fun H6 R6 x6 => ?_⟩
                have xx6 := ((x3.trans (Ext.same s3)).trans x5).trans x6
                have ha6 := (ha4.ext x5).ext x6
                cases b with
                | false =>
                  show if false = true then _ else _
                  rw [if_neg Bool.false_ne_true]
                  dsimp only at hl
                  split at hl
                  · rename_i hn
                    obtain ⟨R7, x7⟩ := wipe_rel R6 hn w5'
                    exact ⟨_, vacc, acc, R7, ha6.ext x7, hl, xx6.trans x7⟩
                  · cases hl
                | true =>
                  show if true = true then _ else _
                  rw [if_pos rfl]
                  dsimp only at hl
                  cases ev : me ρ4 with
                  | none => rw [ev] at hl; cases hl
                  | some rv =>
                    rw [ev] at hl
                    cases rv with
                    | exc c ρ5 => cases hl
                    | val yd ρ5 =>
                      dsimp only at hl
                      split at hl
                      · rename_i hn
                        refine ⟨D, .lst vacc, ρ4, f, _, R6, ev, fun yv H7 R7 x7 hy => ?_⟩
                        have ha7 := ha6.ext x7
                        refine ⟨vacc, R7.at ap, by rw [ha7.length]; exact hn.1, ?_⟩
                        obtain ⟨R8, x8⟩ := wipe_rel R7 hn.2 w5'
                        have R9 := R8.repin (o' := .lst (vacc ++ [yv])) ap
                        have x9 : Ext (Bad (G.pin D (.lst vacc)) (wipeR ρ5 vs) f) H7 (Bad (G.pin D (.lst (vacc ++ [yv]))) (wipeR ρ5 vs) f) (L2.upd H7 D (.lst (vacc ++ [yv]))) := fun a ob hb e => by
                          have hne : a ≠ D := fun z => hb (bad_pin.mpr (.inr z))
                          exact ⟨fun z => hb (bad_pin.mpr (bad_pin.mp z)), by rw [upd_ne hne]; exact e⟩
                        exact ⟨_, _, _, R9, ((ha7.ext x8).ext x9).append (.cons ((hy.ext x8).ext x9) .nil), hl, ((xx6.trans x7).trans x8).trans x9⟩
                      · cases hl
        · rintro H2 ⟨ρ2, vacc, acc, R3, ha, hl, x3⟩
          rw [← wk.len, List.drop_length] at hl
          cases hl
          obtain ⟨R4, x4⟩ := slots_back R3 hn2
          refine hp D H2 (R4.newAt ap (ha.ext x4)) fun a ob hb e => ?_
          obtain ⟨h1, h2⟩ := ((x1.trans x3).trans x4) a ob hb e
          exact ⟨fun z => h1 (bad_pin.mpr z), h2⟩
      · cases hk
  · cases hk
/-- [elt for target in iter if test] as a new object -/
theorem df_lc {ms : M (List D)} {g : TgM} {scope : Scope} (own : List (Str × Nat)) (hc : X.calm = true) (hN : X.N.Nodup) (ok : BlkOk X.N X.env.scope scope own) (hi : DI X G W tg iter ms)
    (hg : ∀ (s : Shared) (H : Hp) (C : Addr) (cl : List (Str × Addr)) (fp : List Addr) (p : Addr) (o : HO), DGv (X.blk s H scope (compEnvC scope cl C X.env) fp) (G.pin p o) (own.map (·.2)) tg g)
    (ht : ∀ (s : Shared) (H : Hp) (C : Addr) (cl : List (Str × Addr)) (fp : List Addr) (p : Addr) (o : HO), DTs (X.blk s H scope (compEnvC scope cl C X.env) fp) (G.pin p o) F0 ifs mt)
    (he : ∀ (s : Shared) (H : Hp) (C : Addr) (cl : List (Str × Addr)) (fp : List Addr) (p : Addr) (o : HO), DE (X.blk s H scope (compEnvC scope cl C X.env) fp) (G.pin p o) F0 elt me)
    (hs : ∀ x, foldedSetIterable iter X.env x = pure x := by intro _; rfl) : DF X G W (.ListComp elt [⟨tg, iter, ifs, 0⟩] scope pos) (M.lc ms g mt me (own.map (·.2))) :=
  imp (pe_lc hc hN hi ok (fun s H C cl fp => pin_g (hg s H C cl fp)) (fun s H C cl fp => pin_t (ht s H C cl fp)) (fun s H C cl fp => pin_d (he s H C cl fp)) hs) lc_imp
/-- the name of a data value -/
theorem ds_setLc {ms : M (List D)} {g : TgM} {scope : Scope} {y : Str} {py spos : Pos} (i : Nat) (own : List (Str × Nat)) (hc : X.calm = true) (hN : X.N.Nodup) (ok : BlkOk X.N X.env.scope scope own) (hi : DI X G W tg iter ms)
    (hg : ∀ (s : Shared) (H : Hp) (C : Addr) (cl : List (Str × Addr)) (fp : List Addr) (p : Addr) (o : HO), DGv (X.blk s H scope (compEnvC scope cl C X.env) fp) (G.pin p o) (own.map (·.2)) tg g)
    (ht : ∀ (s : Shared) (H : Hp) (C : Addr) (cl : List (Str × Addr)) (fp : List Addr) (p : Addr) (o : HO), DTs (X.blk s H scope (compEnvC scope cl C X.env) fp) (G.pin p o) F0 ifs mt)
    (he : ∀ (s : Shared) (H : Hp) (C : Addr) (cl : List (Str × Addr)) (fp : List Addr) (p : Addr) (o : HO), DE (X.blk s H scope (compEnvC scope cl C X.env) fp) (G.pin p o) F0 elt me)
    (hs : ∀ x, foldedSetIterable iter X.env x = pure x := by intro _; rfl) (hyl : X.env.scope.names.lookup y = some .local := by rfl) (hsw : swapsWith (.ListComp elt [⟨tg, iter, ifs, 0⟩] scope pos) (some (.Name y py)) spos.line X.env = pure true := by rfl) (hy : X.N[i]? = some y := by rfl) :
    DS X G W (.Assign [.Name y py] (.ListComp elt [⟨tg, iter, ifs, 0⟩] scope pos) spos) (S.setF (M.lc ms g mt me (own.map (·.2))) i) := by
  refine impS (ps_setLc (i := i) hc hN hy hyl hsw hi ok (fun s H C cl fp => pin_g (hg s H C cl fp)) (fun s H C cl fp => pin_t (ht s H C cl fp)) (fun s H C cl fp => pin_d (he s H C cl fp)) hs) ?_
  rintro E σ H ⟨ρ, f, r, R, hm, hp⟩
  refine lc_imp _ _ _ (tF_of R hm hp fun d ρ1 p H1 hk N x1 => ?_)
  split at hk
  · cases hk
  · rename_i hin
    cases hk
    obtain ⟨f', R', sub⟩ := N.put (i := i) (by simpa using hin)
    exact hp _ H1 f' R' fun a o hb e => ⟨fun z => (x1 a o hb e).1 (sub a z), (x1 a o hb e).2⟩
end
end DL
namespace DL
open PySem PySem.Spec PyProof.Rows L2 GenW

/-! ### a generator expression's code, under any and all -/
/-- its context: it runs under A, its frame is cenv's, below it stand X's frames -/
abbrev gx (X : Cx) (A : Around) (s : Shared) (H : Hp) (cenv : Env) (fp : List Addr) : Cx :=
  { X with A := A, s_0 := s, H_0 := H, env := cenv, outer := X.stack, stack := cenv :: X.stack, ex := fp, fn := fun _ => false, calm := true, pn := [], xe := fun _ _ => False }
abbrev gEnv (X : Cx) (scope : Scope) (C : Addr) (code : Value) : Env := genEnv scope (cloFrom X.env.cells scope.names []) C code builtinsNs X.env
section
variable {X : Cx} {pins : List (Addr × Obj)} {σ : L2.St} {H : Hp} {s s5 : Shared}
theorem gen_start {A' : Around} {scope : Scope} {own : List (Str × Nat)} {fp : List Addr} {C a : Addr} {code : Value} {og : Obj} {m : Str → Option Value} (I : Inv X pins σ H s) (ok : BlkOk X.N X.env.scope scope own) (hcell : ∀ y ∈ scope.names, y.2 ≠ .cell) (hN : X.N.Nodup)
    (hfp : ∀ b ∈ fp, FpOk X pins H b ∧ b < s.heap.objs.size) (hA : A'.handled = none) (hfr : A'.frames = some (gEnv X scope C code :: X.stack)) (kp : ∀ b o, s.heap.get? b = some o → s5.heap.get? b = some o) (hos : s5.os = s.os) (hb : AllBare s5.gens)
    (hn : s5.heap.Ns C m) (hC : s.heap.objs.size ≤ C) (ha : s.heap.objs.size ≤ a) (haC : a ≠ C) (hag : s5.heap.get? a = some og) (hog : ∀ v, og.data ≠ .cell v) :
    Inv (gx X A' s H (gEnv X scope C code) fp) [(a, og)] (L2.wipe σ (own.map (·.2))) H s5 := by
  have hfree : ∀ y ∈ scope.names, y.2 = .free → ∃ c, X.env.cells.lookup y.1 = some c := fun y hy e => by
    rcases ok.free y hy e with k | k
    · exact I.ok.has _ (.inl k)
    · exact I.ok.has _ (.inr k)
  generalize hcenv : gEnv X scope C code = cenv at hfr ⊢
  have hL : cenv.locals = C := by rw [← hcenv]; rfl
  have hcl : cenv.cells = cloFrom X.env.cells scope.names [] := by rw [← hcenv]; rfl
  have hsc : cenv.scope = scope := by rw [← hcenv]; rfl
  have cm : ∀ {y c}, (y, c) ∈ cloFrom X.env.cells scope.names [] → X.env.cells.lookup y = some c ∧ c < s.heap.objs.size ∧ (y, NameKind.free) ∈ scope.names := fun {y c} hm => by
    rcases cloFrom_mem hm with hm | ⟨h1, rfl⟩
    · cases hm
    · obtain ⟨c, hc⟩ := hfree _ h1 rfl
      rw [hc]
      obtain ⟨w, z⟩ := I.cell _ _ hc
      exact ⟨rfl, z.lt, h1⟩
  have mem : ∀ {y c}, cenv.cells.lookup y = some c → X.env.cells.lookup y = some c ∧ c < s.heap.objs.size := fun {y c} e => by
    rw [hcl] at e
    exact ⟨(cm (PySem.mem_of_lookup e)).1, (cm (PySem.mem_of_lookup e)).2.1⟩
  have look : ∀ {y}, scope.names.lookup y = some .free → ∃ c, cenv.cells.lookup y = some c ∧ X.env.cells.lookup y = some c := fun {y} hl => by
    have hy : (y, NameKind.free) ∈ scope.names := PySem.mem_of_lookup hl
    obtain ⟨c', e'⟩ := mem_lookup (cloFrom_has (cells := X.env.cells) (acc := []) hy)
    rw [← hcl] at e'
    exact ⟨c', e', (mem e').1⟩
  have kind : ∀ {y k}, cenv.scope.names.lookup y = some k → k = .local ∨ k = .cell ∨ k = .free → k ≠ .local → scope.names.lookup y = some .free := fun {y k} e hk hne => by
    rw [hsc] at e
    rcases hk with rfl | rfl | rfl
    · exact absurd rfl hne
    · exact absurd rfl (hcell _ (PySem.mem_of_lookup e))
    · exact e
  have ltC : ∀ {b}, b < s.heap.objs.size → b ≠ C := fun {b} h z => by rw [z] at h; exact absurd h (Nat.not_lt.mpr hC)
  have okB : (gx X A' s H cenv fp).Ok := by
    refine ⟨I.ok.mod, by show cenv.scope.kind = _; rw [hsc]; exact ok.kind, by show cenv.globals = _; rw [← hcenv]; exact I.ok.glob, by show cenv.builtins = _; rw [← hcenv]; rfl, by show s.heap.objs.size ≤ cenv.locals; rw [hL]; exact hC,
      fun y z c e1 e2 => I.ok.inj y z c (mem e1).1 (mem e2).1, fun y hy => ?_, fun y c z e => (by cases z), fun _ => hA, hfr, .inr ⟨rfl, by show cenv.frame = some cenv.locals; rw [← hcenv]; rfl⟩, fun b hb => ⟨?_, fun y c e z => ?_⟩, I.bs, Nat.le_trans I.ok.bsz I.sz, fun b o e hb => ?_, fun b hb z => ?_, I.stack, I.stkFree⟩
    · show ∃ c, cenv.cells.lookup y = some c
      have key : ∀ k, cenv.kindOf y = some k → (k = .cell ∨ k = .free) → ∃ c, cenv.cells.lookup y = some c := fun k hk hk' => by
        have e := kind (y := y) (k := k) hk (hk'.elim (fun z => .inr (.inl z)) fun z => .inr (.inr z)) (by rcases hk' with rfl | rfl <;> decide)
        obtain ⟨c, h1, _⟩ := look e
        exact ⟨c, h1⟩
      rcases hy with hy | hy
      · exact key _ hy (.inl rfl)
      · exact key _ hy (.inr rfl)
    · show b ≠ cenv.locals
      rw [hL]; exact ltC (hfp b hb).2
    · exact (hfp b hb).1.2.2.2.2.1 y c (mem e).1 z
    · rcases (hfp b hb).1.2.2.2.1 with z | z
      · exact I.ok.noex b o e z
      · exact absurd (Nat.lt_of_lt_of_le (Heap.lt_size e) (Nat.le_trans I.ok.bsz z)) (Nat.lt_irrefl _)
    · rcases List.mem_cons.mp (I.stkSub b z) with z | z
      · exact (hfp b hb).1.2.1 z
      · exact (hfp b hb).1.2.2.1 z
  refine ⟨okB, hos, hb, Un.kept kp, ⟨m, ?_, fun i y av e1 e2 e3 => ?_⟩, fun y c e => ?_, ?_, fun y c e => ?_, fun p hp => ?_, I.hok.kept kp, by rw [wipe_length]; exact I.len⟩
  · show Heap.Ns _ cenv.locals _
    rw [hL]
    exact hn
  · obtain ⟨e2, hne⟩ := wipe_some e2
    have key : ∀ k, cenv.scope.names.lookup y = some k → k = .local ∨ k = .cell ∨ k = .free → scope.names.lookup y = some .free ∧ cenv.kindOf y = some .free := fun k hk hk' => by
      have no : k ≠ .local := fun hh => by
        subst hh
        rw [hsc] at hk
        rcases ok.own _ (PySem.mem_of_lookup hk) (.inl rfl) with e' | e'
        · obtain ⟨p, hp, hpy⟩ := List.mem_map.mp e'
          have e3 := ok.ix p hp
          have : p.1 = y := hpy
          rw [this] at e3
          exact hne (List.mem_map.mpr ⟨p, hp, nodup_ix hN e3 e1⟩)
        · exact e' (List.mem_of_getElem? e1)
      have e := kind hk hk' no
      refine ⟨e, ?_⟩
      show cenv.scope.names.lookup y = _
      rw [hsc]; exact e
    have e3 : Vis cenv.scope y := e3
    have hfr2 : scope.names.lookup y = some .free ∧ cenv.kindOf y = some .free := by
      rcases e3 with e3 | e3 | e3
      · exact key _ e3 (.inl rfl)
      · exact key _ e3 (.inr (.inl rfl))
      · exact key _ e3 (.inr (.inr rfl))
    obtain ⟨m', hn', hl⟩ := I.loc
    have hvis : Vis X.env.scope y := (ok.free _ (PySem.mem_of_lookup hfr2.1) rfl).elim (fun k => .inr (.inl k)) (fun k => .inr (.inr k))
    obtain ⟨w, r, q⟩ := hl i y av e1 e2 hvis
    refine ⟨w, r, .inr ⟨.inr hfr2.2, ?_⟩⟩
    obtain ⟨c, h1, h2⟩ := look hfr2.1
    rcases q with ⟨k, _⟩ | ⟨_, c', e', z⟩
    · have k : X.env.scope.names.lookup y = some .local := k
      rcases ok.free _ (PySem.mem_of_lookup hfr2.1) rfl with k' | k' <;> rw [show X.env.scope.names.lookup y = _ from k'] at k <;> cases k
    · rw [h2] at e'; cases e'
      exact ⟨c, h1, z.keeps kp⟩
  · obtain ⟨w, z⟩ := I.cell y c (mem e).1
    exact ⟨w, z.keeps kp⟩
  · show H cenv.locals = none
    rw [hL]; exact I.hok.fresh hC
  · exact I.freeC y c (mem e).1
  · have e : p = (a, og) := by simpa using (show p ∈ ([] : List (Addr × Obj)) ++ [(a, og)] from hp)
    subst e
    refine ⟨hag, I.hok.fresh ha, ?_, fun z => ?_, hog⟩
    · show a ≠ cenv.locals
      rw [hL]; exact haC
    · have z : a ∈ frs X.stack := z
      obtain ⟨_, o, ho, _⟩ := I.stack.mem z
      exact absurd (Heap.lt_size ho) (Nat.not_lt.mpr ha)

/-- a turn's steps -/
def tGe (stop : Bool) (wi : TI) (P : Addr) (g : TG) (tt : TT) (te : TE) (vs : List Nat) : TE := fun σ H Q => wi σ H fun J H1 => TabAt H1 P ∧ ∀ H2, GxR.Tabbed P H1 H2 → ∃ W : Nat → Nat → Hp → Prop, (∃ m, W 0 m H2) ∧ ∀ i m H, W i m H →
  (J.stop i H ∧ Q (.bl (!stop)) H) ∨ (J.go i H ∧ ∃ Nx : Hp → Prop, (∀ H', Nx H' → ∃ m', m' < m ∧ W (i + 1) m' H') ∧ ∀ x H', J.yld i H x H' → g x (L2.wipe σ vs) H' fun σ2 H2 => L2.wipe σ2 vs = L2.wipe σ vs ∧ tt σ2 H2 fun b H3 =>
    if b = true then te σ2 H3 fun y H4 => ∃ t : Bool, y = .bl t ∧ (if t = stop then Q (.bl stop) H4 else Nx H4) else Nx H3)
/-- what is known between the turns -/
structure GAt (X : Cx) (s4 : Shared) (H4 : Hp) (fp : List Addr) (a : Addr) (g : Nat) (H : Hp) (s : Shared) : Prop where
  os : s.os = s4.os
  bare : AllBare s.gens
  un : Un (frs X.stack) fp H4 H s4.heap s.heap
  hok : HOk X.prog X.w H s.heap
  lim : s.heap.NoLimit
  gen : s.heap.IsGen a g
  nfp : ∀ b ∈ fp, H b = none
def gY (X : Cx) (s4 : Shared) (H4 : Hp) (fp : List Addr) (a : Addr) (g : Nat) (stop : Bool) (Q : VK) : Protocol := fun n s₀ v s kap => ∃ (t : Bool) (H : Hp), v = .bool t ∧ GAt X s4 H4 fp a g H s ∧
  (if t = stop then Q (.bl stop) H else ∀ s', s'.heap = s.heap → s'.os = s.os → AllBare s'.gens → kap (.send .none) s')
def gR (X : Cx) (s4 : Shared) (H4 : Hp) (fp : List Addr) (a : Addr) (g : Nat) (stop : Bool) (Q : VK) : GenEnd := fun n s₀ r s => ((r = .ok (.ret .none) ∨ r = .ok .next) ∧ ∃ H, GAt X s4 H4 fp a g H s ∧ Q (.bl (!stop)) H) ∨ ∃ e, r = .error e ∧ False
theorem seg_gen {B A' : Around} {scope : Scope} {fp : List Addr} {it a : Addr} {gn : Nat} {og : Obj} {H4 : Hp} {s4 : Shared} {cenv : Env} {elt tg iter : Expr} {ifs : List Expr} {pos : Pos} {J : It} {tn : Nat → Heap → Prop} {stop : Bool} {Q : VK} {g : TG} {tt : TT} {te : TE} {vs : List Nat} {W : Nat → Nat → Hp → Prop}
    (hov : B.over (.compLoop (.GeneratorExp elt [⟨tg, iter, ifs, 0⟩] scope pos) 0 (.ref it) .none cenv) [] = A') (hco : cenv.scope.isCoroutine = false) (T : Turn X.prog X.w X.K tg J fp it tn) (hgen : ∀ h : Heap, h.get? a = some og → h.IsGen a gn)
    (hafp : a ∉ fp)
    (pg : PG (gx X A' s4 H4 cenv fp) tg g) (pt : PTs (gx X A' s4 H4 cenv fp) ifs tt) (pe : PE (gx X A' s4 H4 cenv fp) elt te)
    (turn : ∀ i m H, W i m H → (J.stop i H ∧ Q (.bl (!stop)) H) ∨ (J.go i H ∧ ∃ Nx : Hp → Prop, (∀ H', Nx H' → ∃ m', m' < m ∧ W (i + 1) m' H') ∧ ∀ x H', J.yld i H x H' → g x (L2.wipe σ vs) H' fun σ2 H2 => L2.wipe σ2 vs = L2.wipe σ vs ∧ tt σ2 H2 fun b H3 =>
      if b = true then te σ2 H3 fun y H4 => ∃ t : Bool, y = .bl t ∧ (if t = stop then Q (.bl stop) H4 else Nx H4) else Nx H3)) :
    ∀ (m : Nat) (n i : Nat) (s₀ s : Shared) (H : Hp), m < n → Inv (gx X A' s4 H4 cenv fp) [(a, og)] (L2.wipe σ vs) H s → tn i s.heap → (∀ b ∈ fp, H b = none) → W i m H →
      Seg (model X.prog X.w) B (gR X s4 H4 fp a gn stop Q) (gY X s4 H4 fp a gn stop Q) n s₀ (.compLoop (.GeneratorExp elt [⟨tg, iter, ifs, 0⟩] scope pos) 0 (.ref it) .none cenv)
        ((model X.prog X.w).den (.compLoop (.GeneratorExp elt [⟨tg, iter, ifs, 0⟩] scope pos) 0 (.ref it) .none cenv)) [] s := by
  have stat : ∀ {σ' : L2.St} {H' : Hp} {s' : Shared}, Inv (gx X A' s4 H4 cenv fp) [(a, og)] σ' H' s' → (∀ b ∈ fp, H' b = none) → ∀ b ∈ fp, FpOk (gx X A' s4 H4 cenv fp) [(a, og)] H' b := fun {σ' H' s'} I' hn b hb =>
    ⟨hn b hb, (I'.ok.exf b hb).1, I'.ok.exfs b hb, .inl hb, fun x c e => (I'.ok.exf b hb).2 x c e, fun p hp => by
      have e : p = (a, og) := by simpa using (show p ∈ ([] : List (Addr × Obj)) ++ [(a, og)] from hp)
      subst e
      exact fun z => hafp (by rw [show a = b from z]; exact hb)⟩
  have gat : ∀ {σ' : L2.St} {H' : Hp} {s' : Shared}, Inv (gx X A' s4 H4 cenv fp) [(a, og)] σ' H' s' → (∀ b ∈ fp, H' b = none) → GAt X s4 H4 fp a gn H' s' := fun {σ' H' s'} I' hn =>
    ⟨I'.os, I'.bare, I'.base, I'.hok, I'.nolimit, hgen _ (I'.pin (a, og) (List.mem_append_right _ (by simp))).1, hn⟩
  intro m
  induction m using Nat.strongRecOn with
  | _ m ih =>
    intro n i s₀ s H hmn I st hn w0
    show Seg _ B _ _ _ s₀ _ ((compTurn (.GeneratorExp elt [⟨tg, iter, ifs, 0⟩] scope pos) 0 (.ref it) .none cenv).onRaise (leaving cenv)) [] s
    rw [compTurn_gen, Sem.onRaise_eq_wrap]
    refine seg_bind_wrap (wpAny_standAt ?_)
    rcases turn i m H w0 with ⟨stp, qq⟩ | ⟨go, Nx, hNx, step⟩
    · have td := T.done (gx X A' s4 H4 cenv fp) rfl rfl rfl rfl i [(a, og)] s _ H (fun _ _ => False) I (stat I hn) st stp
      refine seg_bind_wrap ?_
      rw [hov]
      refine thnF td fun r s6 ⟨hr, I6⟩ => ?_
      subst hr
      exact seg_end (.ok .next) (.inl ⟨.inr rfl, H, gat I6 hn, qq⟩)
    · have ti := T.item (gx X A' s4 H4 cenv fp) rfl rfl rfl rfl i [(a, og)] s _ H (fun _ _ => False) I (stat I hn) st go
      refine seg_bind_wrap ?_
      rw [hov]
      refine thnF ti fun r s6 ⟨u, hr, h6⟩ => ?_
      subst hr
      refine seg_bind_wrap ?_
      rw [hov]
      refine thnF h6 fun _ s7 ⟨x, H7, I7, r7, y7, st7, n7⟩ => ?_
      have I7' := I7.pinned (stat I7 n7) (T.obj _ _ st7)
      refine seg_bind_wrap ?_
      rw [hov]
      refine thnF (pg.run _ s7 _ H7 x u _ I7' r7 (step x H7 y7)) fun _ s8 ⟨σ8, H8, I8, hw8, q8⟩ => ?_
      refine seg_bind_wrap ?_
      rw [hov]
      refine thnF (pt.run _ s8 σ8 H8 _ I8 q8) fun b s9 ⟨H9, I9, q9⟩ => ?_
      -- the turn's end
      have fin : ∀ {s' : Shared} {H' : Hp}, Inv (gx X A' s4 H4 cenv fp) ([(a, og)] ++ pinsAt fp s7.heap) σ8 H' s' → Inv (gx X A' s4 H4 cenv fp) [(a, og)] (L2.wipe σ vs) H' s' ∧ tn (i + 1) s'.heap ∧ ∀ b ∈ fp, H' b = none := fun {s' H'} I' => by
        have pin' : ∀ b ∈ fp, ∀ o, s7.heap.get? b = some o → s'.heap.get? b = some o ∧ H' b = none := fun b hb o e =>
          let z := I'.pin (b, o) (List.mem_append_right _ (List.mem_append_right _ (mem_pinsAt hb e)))
          ⟨z.1, z.2.1⟩
        have hl : (L2.wipe σ vs).length = σ8.length := by rw [← hw8, wipe_length]
        refine ⟨(I'.unpinned (pins := [(a, og)])).weak hl (fun j v e => ?_), T.keep _ _ _ st7 fun b hb o e => (pin' b hb o e).1, fun b hb => ?_⟩
        · rw [← hw8] at e
          exact (wipe_some e).1
        · obtain ⟨o, e, _⟩ := T.obj _ _ st7 b hb
          exact (pin' b hb o e).2
      cases b with
      | false =>
        simp only [Bool.false_eq_true, if_false] at q9 ⊢
        obtain ⟨I10, st10, n10⟩ := fin I9
        obtain ⟨m', hm, w'⟩ := hNx _ q9
        exact seg_again rfl (ih m' hm n (i + 1) s₀ s9 H9 (by omega) I10 st10 n10 w')
      | true =>
        simp only [if_true] at q9 ⊢
        have hy : ∀ v, yieldOut cenv v = yieldValue v := fun v => by simp only [yieldOut, hco, Bool.false_eq_true, if_false]
        simp only [hy]
        rw [Sem.bind_eq_wrap', Sem.bind_eq_wrap', Sem.wrap_wrap, Sem.wrap_wrap]
        refine seg_wrap ?_
        rw [hov]
        refine thnF (pe.run _ s9 σ8 H9 _ I9 q9) fun z s10 ⟨yv, H10, I10, r10, t, et, nx⟩ => ?_
        subst et
        cases r10
        obtain ⟨I11, st11, n11⟩ := fin I10
        obtain ⟨n', rfl⟩ : ∃ n', n = n' + 1 := ⟨n - 1, by omega⟩
        refine seg_at (seg_yield rfl rfl rfl ⟨t, H10, rfl, gat I11 n11, ?_⟩)
        by_cases ht : t = stop
        · rw [if_pos ht] at nx ⊢
          exact nx
        · rw [if_neg ht] at nx ⊢
          intro s' hh ho hb
          obtain ⟨m', hm, w'⟩ := hNx _ nx
          have I12 : Inv (gx X A' s4 H4 cenv fp) [(a, og)] (L2.wipe σ vs) H10 s' := I11.call' ho (Un.kept fun b o e => by rw [hh]; exact e) (by rw [hh]; exact I11.hok) hb (ch := []) fun b hb => absurd hb (by simp)
          exact seg_again rfl (ih m' hm n' (i + 1) s' s' H10 (by omega) I12 (by rw [hh]; exact st11) n11 w')

/-- all(g) -/
theorem all_loop {A : Around} {R : Result → Shared → Prop} {a : Addr} {gn : Nat} {H4 : Hp} {s4 : Shared} {fp : List Addr} {Q : VK} (hh : A.handled = none) (hd : A.depth < recursionLimit)
    (hR : ∀ t H' s', s'.os = s4.os → AllBare s'.gens → Un (frs X.stack) fp H4 H' s4.heap s'.heap → HOk X.prog X.w H' s'.heap → Q (.bl t) H' → R (.ok (.ret (.bool t))) s') :
    ∀ (m : Nat) (s : Shared), s.heap.IsGen a gn → s.heap.NoLimit → (∃ gs, s.gens[gn]? = some gs ∧ gs.Goes (model X.prog X.w) A.in1.in1 (gR X s4 H4 fp a gn false Q) (gY X s4 H4 fp a gn false Q) m (.send .none) (s.setGen gn .running)) →
      codeAny (model X.prog X.w) A (.builtin "all.loop" ⟨[.ref a], []⟩) R s := by
  intro m
  induction m with
  | zero =>
    intro s hg hl ⟨gs, hgs, hgo⟩
    refine codeAny_builtin F.entry_all_loop ?_
    rw [Around.under_plainId F.plain_all_loop _]
    show wpAny _ A.in1 (pyNext (.ref a) >>= _) _ _ s
    refine wpAny_bind (next_genG (A := A.in1) (F := fun _ _ s => ∃ H, GAt X s4 H4 fp a gn H s ∧ Q (.bl (!false)) H) (Er := fun _ _ => False) hh hl hd hg hgs hgo (fun v s₁ gs' hbare hv => ?_) (fun s₁ hp h' hk => ?_) fun e s₁ he => he.elim)
    · obtain ⟨t, H, rfl, ga, hv⟩ := hv
      refine wpAny_bind (wpAny_holding (wpAny_truthy_bool ?_))
      refine wpAny_bind (wpAny_letGo ?_)
      cases t with
      | true =>
        rw [if_neg (by decide)] at hv
        exact False.elim (hv s₁ rfl rfl ga.bare)
      | false =>
        rw [if_pos rfl] at hv
        simp only [Bool.false_eq_true, if_false]
        refine wpAny_bind (wpAny_rule (wpAny_pure ?_))
        exact hR false H _ ga.os (allBare_setGen ga.bare hbare) ga.un ga.hok hv
    · obtain ⟨H, ga, hq⟩ := hp
      refine wpAny_bind (wpAny_rule (wpAny_pure ?_))
      exact hR true H _ ga.os (allBare_setGen ga.bare rfl) (ga.un.trans (Un.kept hk)) (ga.hok.kept hk) hq
  | succ m ih =>
    intro s hg hl ⟨gs, hgs, hgo⟩
    have hgl : gn < s.gens.size := (Array.getElem?_eq_some_iff.mp hgs).1
    refine codeAny_builtin F.entry_all_loop ?_
    rw [Around.under_plainId F.plain_all_loop _]
    show wpAny _ A.in1 (pyNext (.ref a) >>= _) _ _ s
    refine wpAny_bind (wpAny_gsz (n := gn + 1) hgl (next_genG (A := A.in1) (F := fun _ _ s => ∃ H, GAt X s4 H4 fp a gn H s ∧ Q (.bl (!false)) H) (Er := fun _ _ => False) hh hl hd hg hgs hgo (fun v s₁ gs' hbare hv => ?_) (fun s₁ hp h' hk => ?_) fun e s₁ he => he.elim))
    · intro hsz
      obtain ⟨t, H, rfl, ga, hv⟩ := hv
      refine wpAny_bind (wpAny_holding (wpAny_truthy_bool ?_))
      refine wpAny_bind (wpAny_letGo ?_)
      cases t with
      | true =>
        rw [if_neg (by decide)] at hv
        simp only [if_true]
        refine wpAny_pure ⟨plainId_quiet F.plain_all_loop _, ?_⟩
        have hsz1 : gn < s₁.gens.size := by
          have q : (s₁.setGen gn gs').gens.size = s₁.gens.size := setGen_size _ _ _
          have hsz' : gn + 1 ≤ (s₁.setGen gn gs').gens.size := hsz
          omega
        exact ih (s₁.setGen gn gs') ga.gen ga.lim ⟨gs', setGen_at hsz1, hv _ rfl rfl (allBare_setGen (s := s₁.setGen gn gs') (allBare_setGen ga.bare hbare) rfl)⟩
      | false =>
        rw [if_pos rfl] at hv
        simp only [Bool.false_eq_true, if_false]
        refine wpAny_bind (wpAny_rule (wpAny_pure ?_))
        exact hR false H _ ga.os (allBare_setGen ga.bare hbare) ga.un ga.hok hv
    · intro hsz
      obtain ⟨H, ga, hq⟩ := hp
      refine wpAny_bind (wpAny_rule (wpAny_pure ?_))
      exact hR true H _ ga.os (allBare_setGen ga.bare rfl) (ga.un.trans (Un.kept hk)) (ga.hok.kept hk) hq
/-- any(g) -/
theorem any_loop {A : Around} {R : Result → Shared → Prop} {a : Addr} {gn : Nat} {H4 : Hp} {s4 : Shared} {fp : List Addr} {Q : VK} (hh : A.handled = none) (hd : A.depth < recursionLimit)
    (hR : ∀ t H' s', s'.os = s4.os → AllBare s'.gens → Un (frs X.stack) fp H4 H' s4.heap s'.heap → HOk X.prog X.w H' s'.heap → Q (.bl t) H' → R (.ok (.ret (.bool t))) s') :
    ∀ (m : Nat) (s : Shared), s.heap.IsGen a gn → s.heap.NoLimit → (∃ gs, s.gens[gn]? = some gs ∧ gs.Goes (model X.prog X.w) A.in1.in1 (gR X s4 H4 fp a gn true Q) (gY X s4 H4 fp a gn true Q) m (.send .none) (s.setGen gn .running)) →
      codeAny (model X.prog X.w) A (.builtin "any.loop" ⟨[.ref a], []⟩) R s := by
  intro m
  induction m with
  | zero =>
    intro s hg hl ⟨gs, hgs, hgo⟩
    refine codeAny_builtin F.entry_any_loop ?_
    rw [Around.under_plainId F.plain_any_loop _]
    show wpAny _ A.in1 (pyNext (.ref a) >>= _) _ _ s
    refine wpAny_bind (next_genG (A := A.in1) (F := fun _ _ s => ∃ H, GAt X s4 H4 fp a gn H s ∧ Q (.bl (!true)) H) (Er := fun _ _ => False) hh hl hd hg hgs hgo (fun v s₁ gs' hbare hv => ?_) (fun s₁ hp h' hk => ?_) fun e s₁ he => he.elim)
    · obtain ⟨t, H, rfl, ga, hv⟩ := hv
      refine wpAny_bind (wpAny_holding (wpAny_truthy_bool ?_))
      refine wpAny_bind (wpAny_letGo ?_)
      cases t with
      | false =>
        rw [if_neg (by decide)] at hv
        exact False.elim (hv s₁ rfl rfl ga.bare)
      | true =>
        rw [if_pos rfl] at hv
        simp only [if_true]
        refine wpAny_bind (wpAny_rule (wpAny_pure ?_))
        exact hR true H _ ga.os (allBare_setGen ga.bare hbare) ga.un ga.hok hv
    · obtain ⟨H, ga, hq⟩ := hp
      refine wpAny_bind (wpAny_rule (wpAny_pure ?_))
      exact hR false H _ ga.os (allBare_setGen ga.bare rfl) (ga.un.trans (Un.kept hk)) (ga.hok.kept hk) hq
  | succ m ih =>
    intro s hg hl ⟨gs, hgs, hgo⟩
    have hgl : gn < s.gens.size := (Array.getElem?_eq_some_iff.mp hgs).1
    refine codeAny_builtin F.entry_any_loop ?_
    rw [Around.under_plainId F.plain_any_loop _]
    show wpAny _ A.in1 (pyNext (.ref a) >>= _) _ _ s
    refine wpAny_bind (wpAny_gsz (n := gn + 1) hgl (next_genG (A := A.in1) (F := fun _ _ s => ∃ H, GAt X s4 H4 fp a gn H s ∧ Q (.bl (!true)) H) (Er := fun _ _ => False) hh hl hd hg hgs hgo (fun v s₁ gs' hbare hv => ?_) (fun s₁ hp h' hk => ?_) fun e s₁ he => he.elim))
    · intro hsz
      obtain ⟨t, H, rfl, ga, hv⟩ := hv
      refine wpAny_bind (wpAny_holding (wpAny_truthy_bool ?_))
      refine wpAny_bind (wpAny_letGo ?_)
      cases t with
      | false =>
        rw [if_neg (by decide)] at hv
        simp only [Bool.false_eq_true, if_false]
        refine wpAny_pure ⟨plainId_quiet F.plain_any_loop _, ?_⟩
        have hsz1 : gn < s₁.gens.size := by
          have q : (s₁.setGen gn gs').gens.size = s₁.gens.size := setGen_size _ _ _
          have hsz' : gn + 1 ≤ (s₁.setGen gn gs').gens.size := hsz
          omega
        exact ih (s₁.setGen gn gs') ga.gen ga.lim ⟨gs', setGen_at hsz1, hv _ rfl rfl (allBare_setGen (s := s₁.setGen gn gs') (allBare_setGen ga.bare hbare) rfl)⟩
      | true =>
        rw [if_pos rfl] at hv
        simp only [if_true]
        refine wpAny_bind (wpAny_rule (wpAny_pure ?_))
        exact hR true H _ ga.os (allBare_setGen ga.bare hbare) ga.un ga.hok hv
    · intro hsz
      obtain ⟨H, ga, hq⟩ := hp
      refine wpAny_bind (wpAny_rule (wpAny_pure ?_))
      exact hR false H _ ga.os (allBare_setGen ga.bare rfl) (ga.un.trans (Un.kept hk)) (ga.hok.kept hk) hq

/-- the generator stands, not yet begun -/
structure GNew (X : Cx) (s4 : Shared) (H4 : Hp) (fp : List Addr) (a : Addr) (g : Nat) (stop : Bool) (Q : VK) (m : Nat) (s : Shared) : Prop where
  gen : s.heap.IsGen a g
  lim : s.heap.NoLimit
  goes : ∃ gs, s.gens[g]? = some gs ∧ gs.Goes (model X.prog X.w) X.A.in1.in1 (gR X s4 H4 fp a g stop Q) (gY X s4 H4 fp a g stop Q) m (.send .none) (s.setGen g .running)
theorem call_all_gen {s4 s : Shared} {H4 : Hp} {fp : List Addr} {a : Addr} {g : Nat} {Q : VK} {m : Nat} {Q' : Value → Shared → Prop} {E : Value → Shared → Prop} (h : GNew X s4 H4 fp a g false Q m s) (hh : X.A.handled = none) (hd : X.A.depth < recursionLimit)
    (hQ : ∀ t H' s', s'.os = s4.os → AllBare s'.gens → Un (frs X.stack) fp H4 H' s4.heap s'.heap → HOk X.prog X.w H' s'.heap → Q (.bl t) H' → Q' (.bool t) s') : wpAny (model X.prog X.w) X.A (call (.builtin "all") [.ref a]) Q' E s := by
  refine call_function_tree F.kind_all F.plain_all F.entry_all (F.args_all1 _) ?_
  unfold Builtin.«all»
  refine wpAny_bind (m := oneArg "all" _) (wpAny_pure ?_)
  refine wpAny_bind (wpAny_pyIter_gen h.gen ?_)
  exact wpAny_pure ⟨plainId_quiet F.plain_all_loop _, all_loop (A := X.A) hh hd (fun t H' s' q1 q2 q3 q4 q5 => hQ t H' s' q1 q2 q3 q4 q5) m s h.gen h.lim h.goes⟩
theorem call_any_gen {s4 s : Shared} {H4 : Hp} {fp : List Addr} {a : Addr} {g : Nat} {Q : VK} {m : Nat} {Q' : Value → Shared → Prop} {E : Value → Shared → Prop} (h : GNew X s4 H4 fp a g true Q m s) (hh : X.A.handled = none) (hd : X.A.depth < recursionLimit)
    (hQ : ∀ t H' s', s'.os = s4.os → AllBare s'.gens → Un (frs X.stack) fp H4 H' s4.heap s'.heap → HOk X.prog X.w H' s'.heap → Q (.bl t) H' → Q' (.bool t) s') : wpAny (model X.prog X.w) X.A (call (.builtin "any") [.ref a]) Q' E s := by
  refine call_function_tree F.kind_any F.plain_any F.entry_any (F.args_any1 _) ?_
  unfold Builtin.«any»
  refine wpAny_bind (m := oneArg "any" _) (wpAny_pure ?_)
  refine wpAny_bind (wpAny_pyIter_gen h.gen ?_)
  exact wpAny_pure ⟨plainId_quiet F.plain_any_loop _, any_loop (A := X.A) hh hd (fun t H' s' q1 q2 q3 q4 q5 => hQ t H' s' q1 q2 q3 q4 q5) m s h.gen h.lim h.goes⟩

theorem room_gen {k : Nat} {A : Around} (hr : Room (k + 1) A) {elt tg iter : Expr} {ifs : List Expr} {scope : Scope} {pos : Pos} {it acc : Value} {cenv : Env} : Room k (A.in1.in1.over (.compLoop (.GeneratorExp elt [⟨tg, iter, ifs, 0⟩] scope pos) 0 it acc cenv) []) := by
  have h1 : (A.in1.in1.over (.compLoop (.GeneratorExp elt [⟨tg, iter, ifs, 0⟩] scope pos) 0 it acc cenv) []).depth ≤ A.depth + 1 := Nat.le_of_eq rfl
  have h2 : (A.in1.in1.over (.compLoop (.GeneratorExp elt [⟨tg, iter, ifs, 0⟩] scope pos) 0 it acc cenv) []).units ≤ A.units + 5 := Nat.le_of_eq rfl
  exact ⟨hr.hd, by have := hr.dp; omega, by have := hr.un; omega⟩
theorem gen_make {c P : Addr} {k : Nat} {elt tg iter : Expr} {ifs : List Expr} {scope : Scope} {own : List (Str × Nat)} {gpos : Pos} {stop : Bool} {wi : TI} {g : TG} {tt : TT} {te : TE} {Q : VK} {Q' : Value → Shared → Prop}
    (hr : Room (k + 1) X.A) (TB : GxR.TabB X.base X.mg c P) (hcode : X.env.code = .ref c) (ok : BlkOk X.N X.env.scope scope own) (hN : X.N.Nodup) (hco : scope.isCoroutine = false) (hcell : ∀ y ∈ scope.names, y.2 ≠ .cell) (hdot : scope.names.lookup (".0" : Str) = some NameKind.local)
    (hi : PI X tg iter wi)
    (hg : ∀ (A' : Around) (s : Shared) (H : Hp) (C : Addr) (code : Value) (fp : List Addr), Room k A' → PG (gx X A' s H (gEnv X scope C code) fp) tg g)
    (ht : ∀ (A' : Around) (s : Shared) (H : Hp) (C : Addr) (code : Value) (fp : List Addr), Room k A' → PTs (gx X A' s H (gEnv X scope C code) fp) ifs tt)
    (he : ∀ (A' : Around) (s : Shared) (H : Hp) (C : Addr) (code : Value) (fp : List Addr), Room k A' → PE (gx X A' s H (gEnv X scope C code) fp) elt te)
    (hs : ∀ v, genFold iter X.env v = pure v) (I : Inv X pins σ H s) (h : tGe stop wi P g tt te (own.map (·.2)) σ H Q)
    (hQ : ∀ s4 H4 fp a gn m s5, Inv X pins σ H4 s4 → (∀ b ∈ fp, FpOk X pins H4 b) → GNew X s4 H4 fp a gn stop Q m s5 → Q' (.ref a) s5) :
    wpAny (model X.prog X.w) X.A (eval (.GeneratorExp elt [⟨tg, iter, ifs, 0⟩] scope gpos) X.env) Q' X.xe s := by
  have hfree : ∀ y ∈ scope.names, y.2 = .free → ∃ c, X.env.cells.lookup y.1 = some c := fun y hy e => by
    rcases ok.free y hy e with k | k
    · exact I.ok.has _ (.inl k)
    · exact I.ok.has _ (.inr k)
  refine wpAny_GeneratorExp_make hco (closure_ok hfree) hcell hdot ok.kind (by have := hr.dp; omega) ?_ hs
  refine thn (hi.run pins s σ H _ I h) fun xv s1 hx => thn hx fun itv s2 h2 => ?_
  obtain ⟨it, fp, tn, J, H2, e, I2, T, st2, f2, tabP, q⟩ := h2
  subst e
  obtain ⟨ps, hP, ht0⟩ := tabP
  have hPs : s2.heap.get? P = some { cls := .none, data := .fields ps } := I2.hok P _ hP
  have cd : PySem.W.CodeHd s2.heap c P := TB.code.keeps fun b u e => I2.bk b u e
  have cont : ∀ (code : Value) (h3 : Heap) (tk : Nat) (ps' : Array Value), Heap.ExtBut P s2.heap h3 → s2.heap.objs.size ≤ h3.objs.size → h3.get? P = some { cls := .none, data := .fields ps' } → (∃ more, ps' = ps ++ more) → TriplesOk ps'.toList →
      wpAny (model X.prog X.w) X.A (builtinsFor X.env.globals X.env.builtins) (fun bi s₄ => ∀ h', h'.Ns s₄.heap.objs.size (fun y => if y = ".0" then some (.ref it) else none) → Heap.SameBut s₄.heap.objs.size (s₄.heap.push { cls := .type "frame", data := .dict #[] }) h' →
          Q' (.ref h'.objs.size) { s₄ with
            gens := s₄.gens.push (.fresh (.compStart (.GeneratorExp elt [⟨tg, iter, ifs, 0⟩] scope gpos) 0 (.ref it) .none (genEnv scope (cloFrom X.env.cells scope.names []) s₄.heap.objs.size code bi X.env))),
            toks := s₄.toks + 1 + 1 + 1,
            heap := h'.push { cls := .type "generator", data := .fields #[.int s₄.gens.size 0, .str "<genexpr>" (s₄.toks + 1), .str (X.env.qual ++ "<genexpr>") (s₄.toks + 1 + 1)] } }) X.xe { s2 with heap := h3, toks := tk } := by
    intro code h3 tk ps' hx hsz hP3 hmore ht3
    obtain ⟨bm, ob, e1, e2, e3, e4, e5, e6, e7, e8⟩ := TB.bm
    have keep3 : ∀ b u, b ≠ P → s2.heap.get? b = some u → h3.get? b = some u := fun b u hb e => hx b u hb e
    refine wpAny_builtinsFor (m := X.mg) (by rw [I2.ok.glob]; exact ((I2.mod.glob.keeps I2.bk)).extBut hx TB.gP) e1 e2 (keep3 _ _ e4 (I2.bk _ _ e5)) e6 e7 e8 ?_
    obtain ⟨more, em⟩ := hmore
    have J4 : Inv X pins σ (L2.upd H2 P (.tbl (ps ++ more))) { s2 with heap := h3, toks := tk } := GxR.inv_tab (more := more) (h' := h3) (g' := s2.gens) (d' := s2.drawn) (t' := tk) I2 hP keep3 (by rw [← em]; exact hP3) I2.bare
    have tb : GxR.Tabbed P H2 (L2.upd H2 P (.tbl (ps ++ more))) := ⟨⟨ps ++ more, upd_same, by rw [← em]; exact ht3⟩, fun b hb => upd_ne hb⟩
    obtain ⟨W, ⟨m0, w0⟩, turn⟩ := q _ tb
    generalize hs4 : ({ s2 with heap := h3, toks := tk } : Shared) = s4 at J4 ⊢
    have hh4 : s4.heap = h3 := by rw [← hs4]
    generalize hH4 : L2.upd H2 P (.tbl (ps ++ more)) = H4 at J4 w0
    have nP : ∀ b ∈ fp, b ≠ P := fun b hb z => by
      have := (f2 b hb).1
      rw [z, hP] at this
      cases this
    have f4 : ∀ b ∈ fp, FpOk X pins H4 b ∧ b < s4.heap.objs.size := fun b hb => by
      obtain ⟨o, e, _⟩ := T.obj _ _ st2 b hb
      refine ⟨⟨?_, (f2 b hb).2⟩, ?_⟩
      · rw [← hH4, upd_ne (nP b hb)]
        exact (f2 b hb).1
      · rw [hh4]
        exact Nat.lt_of_lt_of_le (Heap.lt_size e) hsz
    have st4 : tn 0 s4.heap := T.keep _ _ _ st2 fun b hb o e => by rw [hh4]; exact keep3 b o (nP b hb) e
    intro h' hn' hs'
    have hsz' : h'.objs.size = s4.heap.objs.size + 1 := by rw [hs'.1, Heap.size_push]
    have keep' : ∀ b o, s4.heap.get? b = some o → h'.get? b = some o := fun b o e => hs'.extBut b o (Nat.ne_of_lt (Heap.lt_size e)) (Heap.get?_push_of_some _ e)
    generalize hog : ({ cls := .type "generator", data := .fields #[.int s4.gens.size 0, .str "<genexpr>" (s4.toks + 1), .str (X.env.qual ++ "<genexpr>") (s4.toks + 1 + 1)] } : Obj) = og
    have hgen : ∀ h : Heap, h.get? h'.objs.size = some og → h.IsGen h'.objs.size s4.gens.size := fun h e => by
      subst hog
      exact ⟨_, _, _, e, rfl, rfl, rfl⟩
    have hogc : ∀ v, og.data ≠ .cell v := fun v z => by
      subst hog
      cases z
    have ogp : (h'.push og).get? h'.objs.size = some og := by
      subst hog
      exact Heap.get?_push_size _ rfl
    have keep5 : ∀ b o, s4.heap.get? b = some o → (h'.push og).get? b = some o := fun b o e => Heap.get?_push_of_some _ (keep' b o e)
    refine hQ s4 H4 fp h'.objs.size s4.gens.size (m0 + 1) _ J4 (fun b hb => (f4 b hb).1) ⟨hgen _ ogp, J4.nolimit.keeps keep5, _, Array.getElem?_push_size .., rfl, ?_⟩
    have fr1 : X.A.frames = some X.stack := J4.ok.frames
    have bare5 : AllBare (s4.gens.push (.fresh (.compStart (.GeneratorExp elt [⟨tg, iter, ifs, 0⟩] scope gpos) 0 (.ref it) .none (gEnv X scope s4.heap.objs.size code)))) := J4.bare.push rfl
    generalize hs5 : ({ s4 with gens := s4.gens.push (.fresh (.compStart (.GeneratorExp elt [⟨tg, iter, ifs, 0⟩] scope gpos) 0 (.ref it) .none (gEnv X scope s4.heap.objs.size code))), toks := s4.toks + 1 + 1 + 1, heap := h'.push og } : Shared) = s5
    show Seg _ X.A.in1.in1 _ _ (m0 + 1) (s5.setGen s4.gens.size .running) _ _ [] (s5.setGen s4.gens.size .running)
    have h5 : s5.heap = h'.push og := by rw [← hs5]
    have b5 : AllBare (s5.setGen s4.gens.size .running).gens := allBare_setGen (by rw [← hs5]; exact bare5) rfl
    have hA' : Room k (X.A.in1.in1.over (.compLoop (.GeneratorExp elt [⟨tg, iter, ifs, 0⟩] scope gpos) 0 (.ref it) .none (gEnv X scope s4.heap.objs.size code)) []) := room_gen hr
    have I5 := gen_start (X := X) (A' := X.A.in1.in1.over (.compLoop (.GeneratorExp elt [⟨tg, iter, ifs, 0⟩] scope gpos) 0 (.ref it) .none (gEnv X scope s4.heap.objs.size code)) []) (s5 := s5.setGen s4.gens.size .running) (code := code) (og := og) (a := h'.objs.size) (C := s4.heap.objs.size)
      J4 ok hcell hN f4 hA'.hd (congrArg (fun x : Option (List Env) => x.map ((gEnv X scope s4.heap.objs.size code) :: ·)) fr1) (fun b o e => by show s5.heap.get? b = _; rw [h5]; exact keep5 b o e) (by rw [← hs5]; rfl) b5
      (by show s5.heap.Ns _ _; rw [h5]; exact hn'.push _) (Nat.le_refl _) (by rw [hsz']; exact Nat.le_succ _) (by rw [hsz']; exact Nat.succ_ne_self _) (by show s5.heap.get? _ = _; rw [h5]; exact ogp) hogc
    have st5 : tn 0 (s5.setGen s4.gens.size .running).heap := T.keep _ _ _ st4 fun b hb o e => by show s5.heap.get? b = _; rw [h5]; exact keep5 b o e
    have loop := seg_gen (X := X) (B := X.A.in1.in1) (pos := gpos) (elt := elt) (iter := iter) (s4 := s4) (H4 := H4) (fp := fp) (gn := s4.gens.size) (a := h'.objs.size) (og := og) (stop := stop) (Q := Q) (vs := own.map (·.2)) (W := W) (cenv := gEnv X scope s4.heap.objs.size code) rfl hco T hgen
      (fun hm => by have h9 : h'.objs.size < s4.heap.objs.size := (f4 _ hm).2; rw [hsz'] at h9; exact absurd h9 (Nat.not_lt.mpr (Nat.le_succ _))) (hg _ s4 H4 _ _ fp hA') (ht _ s4 H4 _ _ fp hA') (he _ s4 H4 _ _ fp hA') turn m0 (m0 + 1) 0 (s5.setGen s4.gens.size .running) (s5.setGen s4.gens.size .running) H4 (Nat.lt_succ_self _) I5 st5 (fun b hb => (f4 b hb).1.1) w0
    show Seg _ X.A.in1.in1 _ _ _ _ _ ((compStart (.GeneratorExp elt [⟨tg, iter, ifs, 0⟩] scope gpos) 0 (.ref it) .none (gEnv X scope s4.heap.objs.size code)).onRaise (leaving (gEnv X scope s4.heap.objs.size code))) [] _
    unfold compStart
    rw [Sem.onRaise_eq_wrap]
    show Seg _ X.A.in1.in1 _ _ _ _ _ ((ask >>= _).wrap _ _ _ _) [] _
    refine seg_bind_wrap (wpAny_askSetting ?_)
    split
    · exact seg_again rfl loop
    · first
        | exact seg_bind_wrap (wpAny_rule (seg_bind_wrap (wpAny_standAt (seg_bind_wrap (T.self _ 0 _ _ _ st5 (seg_again rfl loop))))))
        | (refine seg_bind_wrap (wpAny_rule ?_); show Seg _ X.A.in1.in1 _ _ _ _ _ ((standAt iter.pos >>= _).wrap _ _ _ _) [] _; exact seg_bind_wrap (wpAny_standAt (seg_bind_wrap (T.self _ 0 _ _ _ st5 (seg_again rfl loop)))))
  refine ⟨I2.nolimit, ?_⟩
  cases hf : codeAmong gpos ps.toList with
  | none =>
    refine wpAny_genexprCodeX hcode (cd.code hPs ht0) (cd.tab hPs) hf fun c' h' tk hx hge hlt hco' _ htab' _ => ?_
    obtain ⟨o1, vs, f1, tf, fl, tg, inF, tx, tt, op, _, _, _, _, _, _, _, _, _, htr, _⟩ := hco'
    exact cont _ h' tk _ hx (Nat.le_trans hge (Nat.le_of_lt hlt)) htab'.2 ⟨_, rfl⟩ htr
  | some cv =>
    refine wpAny_genexprCode_hit hcode (cd.code hPs ht0) hf ?_
    exact cont cv s2.heap s2.toks ps (Heap.ExtBut.refl _ _) (Nat.le_refl _) hPs ⟨#[], by simp⟩ ht0

section
variable {c P : Addr} {k : Nat} {elt tg iter : Expr} {ifs : List Expr} {scope : Scope} {own : List (Str × Nat)} {p pos gpos : Pos} {wi : TI} {g : TG} {tt : TT} {te : TE}
theorem pe_allG (hc : X.calm = true) (hr : Room (k + 1) X.A) (TB : GxR.TabB X.base X.mg c P) (hcode : X.env.code = .ref c) (ok : BlkOk X.N X.env.scope scope own) (hN : X.N.Nodup) (hco : scope.isCoroutine = false) (hcell : ∀ y ∈ scope.names, y.2 ≠ .cell) (hdot : scope.names.lookup (".0" : Str) = some NameKind.local)
    (hgl : Gl X "all") (hm : X.mg "all" = none) (hi : PI X tg iter wi)
    (hg : ∀ (A' : Around) (s : Shared) (H : Hp) (C : Addr) (code : Value) (fp : List Addr), Room k A' → PG (gx X A' s H (gEnv X scope C code) fp) tg g)
    (ht : ∀ (A' : Around) (s : Shared) (H : Hp) (C : Addr) (code : Value) (fp : List Addr), Room k A' → PTs (gx X A' s H (gEnv X scope C code) fp) ifs tt)
    (he : ∀ (A' : Around) (s : Shared) (H : Hp) (C : Addr) (code : Value) (fp : List Addr), Room k A' → PE (gx X A' s H (gEnv X scope C code) fp) elt te)
    (hs : ∀ v, genFold iter X.env v = pure v)
    (hst : starEach [.GeneratorExp elt [⟨tg, iter, ifs, 0⟩] scope gpos] X.env = (false, eval (.GeneratorExp elt [⟨tg, iter, ifs, 0⟩] scope gpos) X.env) :: starEach [] X.env) :
    PE X (.Call (.Name "all" p) [.GeneratorExp elt [⟨tg, iter, ifs, 0⟩] scope gpos] [] pos) (tGe false wi P g tt te (own.map (·.2))) := by
  refine ⟨fun pins s σ H Q I h => ?_⟩
  refine wpAny_Call_Name_kw (ld_blt I hgl hm (by rfl : bootBuiltins "all" = some (.builtin "all")) ?_)
  refine PyProof.Rows.callWith_builtin1 ?_ hst (by rfl)
  rw [hst]
  show wpAny _ _ (spliced ((false, eval (.GeneratorExp elt [⟨tg, iter, ifs, 0⟩] scope gpos) X.env) :: backTo pos (starEach [] X.env))) _ _ s
  refine Calls.spliced_cons (gen_make hr TB hcode ok hN hco hcell hdot hi hg ht he hs I h fun s4 H4 fp a gn m s5 I4 f4 hG => ?_)
  refine Calls.spliced_nil ?_
  refine call_all_gen hG hr.hd (by have := hr.dp; omega) fun t H' s' q1 q2 q3 q4 q5 => ?_
  exact ⟨.bl t, H', I4.call' q1 q3 q4 q2 fun b hb => ⟨(f4 b hb).2.2.2.1, (f4 b hb).2.1, (f4 b hb).2.2.2.2.1, (f4 b hb).2.2.2.2.2⟩, rfl, q5⟩
theorem pe_anyG (hc : X.calm = true) (hr : Room (k + 1) X.A) (TB : GxR.TabB X.base X.mg c P) (hcode : X.env.code = .ref c) (ok : BlkOk X.N X.env.scope scope own) (hN : X.N.Nodup) (hco : scope.isCoroutine = false) (hcell : ∀ y ∈ scope.names, y.2 ≠ .cell) (hdot : scope.names.lookup (".0" : Str) = some NameKind.local)
    (hgl : Gl X "any") (hm : X.mg "any" = none) (hi : PI X tg iter wi)
    (hg : ∀ (A' : Around) (s : Shared) (H : Hp) (C : Addr) (code : Value) (fp : List Addr), Room k A' → PG (gx X A' s H (gEnv X scope C code) fp) tg g)
    (ht : ∀ (A' : Around) (s : Shared) (H : Hp) (C : Addr) (code : Value) (fp : List Addr), Room k A' → PTs (gx X A' s H (gEnv X scope C code) fp) ifs tt)
    (he : ∀ (A' : Around) (s : Shared) (H : Hp) (C : Addr) (code : Value) (fp : List Addr), Room k A' → PE (gx X A' s H (gEnv X scope C code) fp) elt te)
    (hs : ∀ v, genFold iter X.env v = pure v)
    (hst : starEach [.GeneratorExp elt [⟨tg, iter, ifs, 0⟩] scope gpos] X.env = (false, eval (.GeneratorExp elt [⟨tg, iter, ifs, 0⟩] scope gpos) X.env) :: starEach [] X.env) :
    PE X (.Call (.Name "any" p) [.GeneratorExp elt [⟨tg, iter, ifs, 0⟩] scope gpos] [] pos) (tGe true wi P g tt te (own.map (·.2))) := by
  refine ⟨fun pins s σ H Q I h => ?_⟩
  refine wpAny_Call_Name_kw (ld_blt I hgl hm boot_any ?_)
  refine PyProof.Rows.callWith_builtin1 ?_ hst (by rfl)
  rw [hst]
  show wpAny _ _ (spliced ((false, eval (.GeneratorExp elt [⟨tg, iter, ifs, 0⟩] scope gpos) X.env) :: backTo pos (starEach [] X.env))) _ _ s
  refine Calls.spliced_cons (gen_make hr TB hcode ok hN hco hcell hdot hi hg ht he hs I h fun s4 H4 fp a gn m s5 I4 f4 hG => ?_)
  refine Calls.spliced_nil ?_
  refine call_any_gen hG hr.hd (by have := hr.dp; omega) fun t H' s' q1 q2 q3 q4 q5 => ?_
  exact ⟨.bl t, H', I4.call' q1 q3 q4 q2 fun b hb => ⟨(f4 b hb).2.2.2.1, (f4 b hb).2.1, (f4 b hb).2.2.2.2.1, (f4 b hb).2.2.2.2.2⟩, rfl, q5⟩
end
end

/-! ### as data -/
def geLoop (stop : Bool) (g : TgM) (mt : M Bool) (me : M D) (vs : List Nat) : List D → Rho → Option (Bool × Rho)
  | [], ρ => some (!stop, ρ)
  | d :: r, ρ => match g d ρ with
    | none => none
    | some ρ2 => match mt ρ2 with
      | some (.val true ρ3) => match me ρ3 with
        | some (.val (.bool t) ρ4) => if noInn ρ4 vs = true then (if t = stop then some (stop, wipeR ρ4 vs) else geLoop stop g mt me vs r (wipeR ρ4 vs)) else none
        | _ => none
      | some (.val false ρ3) => if noInn ρ3 vs = true then geLoop stop g mt me vs r (wipeR ρ3 vs) else none
      | _ => none
def M.ge (stop : Bool) (ms : M (List D)) (g : TgM) (mt : M Bool) (me : M D) (vs : List Nat) : M D := ms.bind fun ds ρ => if noInn ρ vs = true then match geLoop stop g mt me vs ds (wipeR ρ vs) with
  | some (t, ρ') => if noInn ρ' vs = true then some (.val (.bool t) (wipeR ρ' vs)) else none
  | none => none else none
section
variable {X : Cx} {G : Gc} {W : WX} {e tg elt iter : Expr} {es ifs : List Expr} {m me : M D} {mt : M Bool} {pos p gpos : Pos} {gm : TgM} {vs : List Nat} {P c : Addr} {k : Nat}
theorem tab_ext {H1 H2 : Hp} {σ : L2.St} {ρ : Rho} {f : Nat → Addr} (R : Rel G σ H1 ρ f) (hP : G.T P) (tb : GxR.Tabbed P H1 H2) : Rel G σ H2 ρ f ∧ Ext (Bad G ρ f) H1 (Bad G ρ f) H2 := by
  obtain ⟨R', x⟩ := R.upd (H' := H2) (ρ' := ρ) [] rfl (fun _ _ => rfl) (fun i hi => absurd hi (by simp)) (fun a o e _ ht => by
    rw [tb.2 a fun z => ht (z ▸ hP)]
    exact e) fun a ht => by
    by_cases ha : a = P
    · rw [ha]; exact tb.1
    · obtain ⟨ps, e, tr⟩ := (R.dom.2 a ht).2
      exact ⟨ps, by rw [tb.2 a ha]; exact e, tr⟩
  exact ⟨R', x⟩
theorem ge_imp {stop : Bool} {ms : M (List D)} {g : TgM} (hP : G.T P) : ∀ σ H Q, tD G W (M.ge stop ms g mt me vs) σ H Q → tGe stop (tI G W ms) P (tGv G vs g) (tT G F0 mt) (tD G F0 me) vs σ H Q := by
  rintro σ H Q ⟨ρ, f, r, R, hm, hp⟩
  refine tI_bind R hm (xok hp) fun ds ρ1 J n Gh Y H1 hk R1 x1 wk => ?_
  refine ⟨(R1.dom.2 P hP).2, fun H2 tb => ?_⟩
  obtain ⟨R2, x2⟩ := tab_ext R1 hP tb
  split at hk
  · rename_i hn1
    cases el : geLoop stop g mt me vs ds (wipeR ρ1 vs) with
    | none => rw [el] at hk; cases hk
    | some res =>
      rw [el] at hk
      obtain ⟨out, ρ'⟩ := res
      dsimp only at hk
      split at hk
      · rename_i hn2
        cases hk
        obtain ⟨R3, x3⟩ := R2.wipe vs hn1
        have xx := x2.trans x3
        have fin : ∀ {H' : Hp}, Rel G (L2.wipe σ vs) H' ρ' f → Ext (Bad G ρ1 f) H1 (Bad G ρ' f) H' → Q (.bl out) H' := fun {H'} R' x' => by
          obtain ⟨R4, x4⟩ := slots_back R' hn2
          exact hp _ H' R4 ((x1.trans x').trans x4) (.bl out)
        refine ⟨fun i m H2 => m = n - i ∧ i ≤ n ∧ ∃ ρ2 : Rho, Rel G (L2.wipe σ vs) H2 ρ2 f ∧ geLoop stop g mt me vs (ds.drop i) ρ2 = some (out, ρ') ∧ Ext (Bad G ρ1 f) H1 (Bad G ρ2 f) H2, ⟨n, by simp, Nat.zero_le _, _, R3, by simpa using el, xx⟩, ?_⟩
        rintro i m H3 ⟨rfl, hi, ρ2, R4, hl, x4⟩
        have hG := wk.keep _ _ x4
        by_cases hlt0 : i < n
        · refine .inr ⟨wk.walk.goes i H3 hlt0 hG, fun H2 => i + 1 ≤ n ∧ ∃ ρ2 : Rho, Rel G (L2.wipe σ vs) H2 ρ2 f ∧ geLoop stop g mt me vs (ds.drop (i + 1)) ρ2 = some (out, ρ') ∧ Ext (Bad G ρ1 f) H1 (Bad G ρ2 f) H2,
            fun H' p' => ⟨n - (i + 1), by omega, rfl, p'.1, p'.2⟩, fun x H' y => ?_⟩
          have y := wk.walk.yields i H3 x H' hlt0 hG y
          have hlt : i < ds.length := by rw [wk.len]; exact hlt0
          rw [List.drop_eq_getElem_cons hlt] at hl
          obtain ⟨s3, hx⟩ := wk.item i ds[i] (Bad G ρ2 f) H3 x H' (List.getElem?_eq_getElem hlt) x4 (fun p h => R4.free h) y
          have R5 := R4.same s3
          simp only [geLoop] at hl
          cases eg : g ds[i] ρ2 with
          | none => rw [eg] at hl; cases hl
          | some ρ3 =>
            rw [eg] at hl
            dsimp only at hl
            refine ⟨ρ2, f, ds[i], ρ3, R5, hx, eg, fun σ5 w5 R5 x5 => ⟨by rw [w5]; exact wipe_wipe, ?_⟩⟩
            have w5' : L2.wipe σ5 vs = L2.wipe σ vs := w5.trans wipe_wipe
            cases et : mt ρ3 with
            | none => rw [et] at hl; cases hl
            | some rt =>
              rw [et] at hl
              cases rt with
              | exc c ρ4 => cases hl
              | val b ρ4 =>
                refine ⟨ρ3, f, _, R5, et, fun H6 R6 x6 => ?_⟩
                have xx6 := ((x4.trans (Ext.same s3)).trans x5).trans x6
                cases b with
                | false =>
                  show if false = true then _ else _
                  rw [if_neg Bool.false_ne_true]
                  dsimp only at hl
                  split at hl
                  · rename_i hn
                    obtain ⟨R7, x7⟩ := wipe_rel R6 hn w5'
                    exact ⟨hlt0, _, R7, hl, xx6.trans x7⟩
                  · cases hl
                | true =>
                  show if true = true then _ else _
                  rw [if_pos rfl]
                  dsimp only at hl
                  cases ev : me ρ4 with
                  | none => rw [ev] at hl; cases hl
                  | some rv =>
                    rw [ev] at hl
                    cases rv with
                    | exc c ρ5 => cases hl
                    | val yd ρ5 =>
                      cases yd <;> try (cases hl)
                      rename_i t
                      dsimp only at hl
                      split at hl
                      · rename_i hn
                        refine ⟨ρ4, f, _, R6, ev, fun yv H7 R7 x7 hy => ⟨t, hy.bl_inv, ?_⟩⟩
                        obtain ⟨R8, x8⟩ := wipe_rel R7 hn w5'
                        by_cases ht : t = stop
                        · rw [if_pos ht] at hl ⊢
                          cases hl
                          exact fin R8 ((xx6.trans x7).trans x8)
                        · rw [if_neg ht] at hl ⊢
                          exact ⟨hlt0, _, R8, hl, (xx6.trans x7).trans x8⟩
                      · cases hl
        · have e : i = n := by omega
          subst e
          rw [← wk.len, List.drop_length] at hl
          cases hl
          exact .inl ⟨wk.walk.stops H3 hG, fin R4 x4⟩
      · cases hk
  · cases hk
/-- what a def's generator expressions need -/
structure GenOk (X : Cx) (G : Gc) : Prop where
  ex : ∃ c P, GxR.TabB X.base X.mg c P ∧ X.env.code = .ref c ∧ G.T P
theorem de_all {ms : M (List D)} {g : TgM} {scope : Scope} (own : List (Str × Nat)) (hc : X.calm = true) (hN : X.N.Nodup) (go : GenOk X G) (hr : Room (k + 1) X.A) (ok : BlkOk X.N X.env.scope scope own) (hm : X.mg "all" = none) (hi : DI X G W tg iter ms)
    (hg : ∀ (A' : Around) (s : Shared) (H : Hp) (C : Addr) (code : Value) (fp : List Addr), Room k A' → DGv (gx X A' s H (gEnv X scope C code) fp) G (own.map (·.2)) tg g)
    (ht : ∀ (A' : Around) (s : Shared) (H : Hp) (C : Addr) (code : Value) (fp : List Addr), Room k A' → DTs (gx X A' s H (gEnv X scope C code) fp) G F0 ifs mt)
    (he : ∀ (A' : Around) (s : Shared) (H : Hp) (C : Addr) (code : Value) (fp : List Addr), Room k A' → DE (gx X A' s H (gEnv X scope C code) fp) G F0 elt me)
    (hco : scope.isCoroutine = false := by rfl) (hcell : ∀ y ∈ scope.names, y.2 ≠ .cell := by decide) (hdot : scope.names.lookup (".0" : Str) = some NameKind.local := by rfl) (hgl : Gl X "all" := by rfl) (hs : ∀ v, genFold iter X.env v = pure v := by intro _; rfl)
    (hst : starEach [.GeneratorExp elt [⟨tg, iter, ifs, 0⟩] scope gpos] X.env = (false, eval (.GeneratorExp elt [⟨tg, iter, ifs, 0⟩] scope gpos) X.env) :: starEach [] X.env := by rfl) :
    DE X G W (.Call (.Name "all" p) [.GeneratorExp elt [⟨tg, iter, ifs, 0⟩] scope gpos] [] pos) (M.ge false ms g mt me (own.map (·.2))) := by
  obtain ⟨c, P, h1, h2, h3⟩ := go.ex
  exact imp (pe_allG hc hr h1 h2 ok hN hco hcell hdot hgl hm hi hg ht he hs hst) (ge_imp h3)
theorem de_any {ms : M (List D)} {g : TgM} {scope : Scope} (own : List (Str × Nat)) (hc : X.calm = true) (hN : X.N.Nodup) (go : GenOk X G) (hr : Room (k + 1) X.A) (ok : BlkOk X.N X.env.scope scope own) (hm : X.mg "any" = none) (hi : DI X G W tg iter ms)
    (hg : ∀ (A' : Around) (s : Shared) (H : Hp) (C : Addr) (code : Value) (fp : List Addr), Room k A' → DGv (gx X A' s H (gEnv X scope C code) fp) G (own.map (·.2)) tg g)
    (ht : ∀ (A' : Around) (s : Shared) (H : Hp) (C : Addr) (code : Value) (fp : List Addr), Room k A' → DTs (gx X A' s H (gEnv X scope C code) fp) G F0 ifs mt)
    (he : ∀ (A' : Around) (s : Shared) (H : Hp) (C : Addr) (code : Value) (fp : List Addr), Room k A' → DE (gx X A' s H (gEnv X scope C code) fp) G F0 elt me)
    (hco : scope.isCoroutine = false := by rfl) (hcell : ∀ y ∈ scope.names, y.2 ≠ .cell := by decide) (hdot : scope.names.lookup (".0" : Str) = some NameKind.local := by rfl) (hgl : Gl X "any" := by rfl) (hs : ∀ v, genFold iter X.env v = pure v := by intro _; rfl)
    (hst : starEach [.GeneratorExp elt [⟨tg, iter, ifs, 0⟩] scope gpos] X.env = (false, eval (.GeneratorExp elt [⟨tg, iter, ifs, 0⟩] scope gpos) X.env) :: starEach [] X.env := by rfl) :
    DE X G W (.Call (.Name "any" p) [.GeneratorExp elt [⟨tg, iter, ifs, 0⟩] scope gpos] [] pos) (M.ge true ms g mt me (own.map (·.2))) := by
  obtain ⟨c, P, h1, h2, h3⟩ := go.ex
  exact imp (pe_anyG hc hr h1 h2 ok hN hco hcell hdot hgl hm hi hg ht he hs hst) (ge_imp h3)
end
end DL
namespace DL
open PySem PySem.Spec PyProof.Rows L2

/-! ### lists that are changed -/
def mutL (ρ : Rho) (i : Nat) : Option (Bool × List D) := match ρ[i]? with
  | some (some (.mut b (.lst ds))) => some (b, ds)
  | _ => none
theorem mutL_inv {ρ : Rho} {i : Nat} {b : Bool} {ds : List D} (h : mutL ρ i = some (b, ds)) : ρ[i]? = some (some (.mut b (.lst ds))) := by
  unfold mutL at h
  split at h
  · rename_i b' ds' e
    cases h
    exact e
  · cases h
/-- x.append(e) -/
def M.app (i : Nat) (m : M D) : M D := fun ρ => match mutL ρ i with
  | none => none
  | some _ => M.bind m (fun d ρ' => match mutL ρ' i with
    | some (b, ds) => if ds.length < 16777216 then some (.val .none (ρ'.set i (some (.mut b (.lst (ds ++ [d])))))) else none
    | none => none) ρ
/-- x.pop() -/
def M.pop (i : Nat) : M D := fun ρ => match mutL ρ i with
  | some (b, ds) => match ds.getLast? with
    | some d => some (.val d (ρ.set i (some (.mut b (.lst ds.dropLast)))))
    | none => none
  | none => none
/-- x.pop(e) -/
def M.popAt (i : Nat) (m : M D) : M D := fun ρ => match mutL ρ i with
  | none => none
  | some _ => M.bind m (fun k ρ' => match k, mutL ρ' i with
    | .int j, some (b, ds) => if -(2 ^ 62) ≤ j ∧ j < 2 ^ 62 then match seqIndex? j ds.length with
      | some n => match ds[n]? with
        | some d => some (.val d (ρ'.set i (some (.mut b (.lst (ds.eraseIdx n))))))
        | none => none
      | none => none else none
    | _, _ => none) ρ
/-- x[k] = e -/
def S.setIx (i : Nat) (mk me : M D) : SS := S.of me fun d ρ => match mutL ρ i with
  | none => none
  | some _ => S.of mk (fun k ρ' => match k, mutL ρ' i with
    | .int j, some (b, ds) => match ixN ds.length j with
      | some n => some (.nx (ρ'.set i (some (.mut b (.lst (ds.set n d))))))
      | none => none
    | _, _ => none) ρ
section
variable {X : Cx} {G : Gc} {W : WX} {a b c e ei : Expr} {es : List Expr} {m ma mb mc mk me : M D} {mt mu : M Bool} {pos apos cpos : Pos} {k : Nat}
theorem HasL.dropLast {K : PySem.W.Frag} {B : Addr → Prop} {H : Hp} : ∀ {vs : List V} {ds : List D}, HasL K B H vs ds → HasL K B H vs.dropLast ds.dropLast
  | _, _, .nil => .nil
  | _, _, .cons h .nil => .nil
  | _, _, .cons h (.cons h2 t) => .cons h (HasL.dropLast (.cons h2 t))
theorem HasL.eraseIdx {K : PySem.W.Frag} {B : Addr → Prop} {H : Hp} : ∀ {vs : List V} {ds : List D} (i : Nat), HasL K B H vs ds → HasL K B H (vs.eraseIdx i) (ds.eraseIdx i)
  | _, _, _, .nil => .nil
  | _, _, 0, .cons _ t => t
  | _, _, i + 1, .cons h t => .cons h (HasL.eraseIdx i t)
/-- the list of a slot as it stands -/
theorem Rel.mutLst {σ : L2.St} {H : Hp} {ρ : Rho} {f : Nat → Addr} {i : Nat} {b : Bool} {ds : List D} (R : Rel G σ H ρ f) (h : mutL ρ i = some (b, ds)) : σ[i]? = some (some (.ref (f i))) ∧ ∃ vs, H (f i) = some (.lst vs) ∧ HasL G.K (Bad G ρ f) H vs ds := by
  obtain ⟨e, ok⟩ := R.mutAt (mutL_inv h)
  exact ⟨e, ok⟩
theorem Rel.lstUpd {σ : L2.St} {H : Hp} {ρ : Rho} {f : Nat → Addr} {i : Nat} {b : Bool} {ds es : List D} {ws : List V} (R : Rel G σ H ρ f) (h : mutL ρ i = some (b, ds)) (hw : HasL G.K (Bad G ρ f) H ws es) :
    Rel G σ (L2.upd H (f i) (.lst ws)) (ρ.set i (some (.mut b (.lst es)))) f ∧ Ext (Bad G ρ f) H (Bad G (ρ.set i (some (.mut b (.lst es)))) f) (L2.upd H (f i) (.lst ws)) := by
  have e := mutL_inv h
  have hb := R.mutBad e
  refine R.upd1 e ⟨ws, upd_same, hw.ext fun a o h1 h2 => ⟨h1, ?_⟩⟩ fun a o h1 h2 => by rw [upd_ne (Ne.symm h2)]; exact h1
  have hne : a ≠ f i := fun z => h1 (by rw [z]; exact hb)
  rw [upd_ne hne]
  exact h2
theorem de_append {x : Str} {px : Pos} (i : Nat) (he : DE X G W e m) (hN : X.N[i]? = some x := by rfl) (hv : Vis X.env.scope x := by first | exact Or.inl rfl | exact Or.inr (Or.inl rfl) | exact Or.inr (Or.inr rfl)) (hd : (x == ("__debug__" : Str)) = false := by decide)
    (hcd : (x == ("__classdict__" : Str)) = false := by decide) (hbase : attributeBase (.Name x px) "append" X.env (eval (.Name x px) X.env) = eval (.Name x px) X.env := by rfl)
    (hfew : ((backTo cpos (starEach [e] X.env)).all (fun x => !x.1) && (backToKw cpos (keywordEach [] X.env)).all (fun x => x.1.isSome)
      && decide ([e].length + ([] : List Keyword).length + (if ([] : List Keyword).isEmpty then 0 else 1) < 30)) = true := by rfl)
    (hline : (apos.endLine == cpos.line) = true := by rfl) (hs : starEach [e] X.env = (false, eval e X.env) :: starEach [] X.env := by rfl) (hk : X.K = G.K := by rfl) :
    DE X G W (.Call (.Attribute (.Name x px) "append" apos) [e] [] cpos) (M.app i m) := by
  refine imp (pe_bm PySem.F.plainAttrs_list PySem.F.slot_list_append PySem.F.type_list_append mt_append (pv i hN hv hd hcd) (pa_cons he pa_nil hs) hbase hfew hline hs rfl) ?_
  rintro σ H Q ⟨ρ, f, r, R, hm, hp⟩
  unfold M.app at hm
  cases e0 : mutL ρ i with
  | none => rw [e0] at hm; cases hm
  | some bd =>
    obtain ⟨b0, ds0⟩ := bd
    rw [e0] at hm
    dsimp only at hm
    obtain ⟨e1, vs0, h0, _⟩ := R.mutLst e0
    refine ⟨_, e1, .inl ⟨rfl, vs0, SqL.of h0⟩, ?_⟩
    refine tD_bind R hm (xok hp) fun d ρ1 v H1 hk1 R1 x1 hv => ?_
    cases e2 : mutL ρ1 i with
    | none => rw [e2] at hk1; cases hk1
    | some bd =>
      obtain ⟨b1, ds⟩ := bd
      rw [e2] at hk1
      dsimp only at hk1
      split at hk1
      · rename_i hl
        cases hk1
        obtain ⟨_, vs, h1, hh⟩ := R1.mutLst e2
        obtain ⟨R2, x2⟩ := R1.lstUpd e2 (hh.append (.cons hv .nil))
        exact ⟨f i, vs, v, rfl, rfl, h1, by rw [hh.length]; exact hl, hp _ _ R2 (x1.trans x2) .non⟩
      · cases hk1
theorem de_pop {x : Str} {px : Pos} (i : Nat) (hN : X.N[i]? = some x := by rfl) (hv : Vis X.env.scope x := by first | exact Or.inl rfl | exact Or.inr (Or.inl rfl) | exact Or.inr (Or.inr rfl)) (hd : (x == ("__debug__" : Str)) = false := by decide)
    (hcd : (x == ("__classdict__" : Str)) = false := by decide) (hbase : attributeBase (.Name x px) "pop" X.env (eval (.Name x px) X.env) = eval (.Name x px) X.env := by rfl) (hline : (apos.endLine == cpos.line) = true := by rfl) :
    DE X G W (.Call (.Attribute (.Name x px) "pop" apos) [] [] cpos) (M.pop i) := by
  refine imp (pe_bm0 PySem.F.plainAttrs_list PySem.F.slot_list_pop PySem.F.type_list_pop mt_pop (pv i hN hv hd hcd) hbase hline) ?_
  rintro σ H Q ⟨ρ, f, r, R, hm, hp⟩
  unfold M.pop at hm
  cases e0 : mutL ρ i with
  | none => rw [e0] at hm; cases hm
  | some bd =>
    obtain ⟨b0, ds⟩ := bd
    rw [e0] at hm
    dsimp only at hm
    cases el : ds.getLast? with
    | none => rw [el] at hm; cases hm
    | some d =>
      rw [el] at hm
      cases hm
      obtain ⟨e1, vs, h0, hh⟩ := R.mutLst e0
      rw [List.getLast?_eq_getElem?] at el
      obtain ⟨v, ev, hv⟩ := hh.get el
      obtain ⟨R2, x2⟩ := R.lstUpd e0 hh.dropLast
      exact ⟨_, e1, .inl ⟨rfl, vs, SqL.of h0⟩, f i, vs, v, rfl, rfl, h0, by rw [hh.length]; exact ev, hp _ _ R2 x2 (hv.ext x2)⟩
theorem de_popAt {x : Str} {px : Pos} (i : Nat) (he : DE X G W e m) (hN : X.N[i]? = some x := by rfl) (hv : Vis X.env.scope x := by first | exact Or.inl rfl | exact Or.inr (Or.inl rfl) | exact Or.inr (Or.inr rfl)) (hd : (x == ("__debug__" : Str)) = false := by decide)
    (hcd : (x == ("__classdict__" : Str)) = false := by decide) (hbase : attributeBase (.Name x px) "pop" X.env (eval (.Name x px) X.env) = eval (.Name x px) X.env := by rfl)
    (hfew : ((backTo cpos (starEach [e] X.env)).all (fun x => !x.1) && (backToKw cpos (keywordEach [] X.env)).all (fun x => x.1.isSome)
      && decide ([e].length + ([] : List Keyword).length + (if ([] : List Keyword).isEmpty then 0 else 1) < 30)) = true := by rfl)
    (hline : (apos.endLine == cpos.line) = true := by rfl) (hs : starEach [e] X.env = (false, eval e X.env) :: starEach [] X.env := by rfl) :
    DE X G W (.Call (.Attribute (.Name x px) "pop" apos) [e] [] cpos) (M.popAt i m) := by
  refine imp (pe_bm PySem.F.plainAttrs_list PySem.F.slot_list_pop PySem.F.type_list_pop mt_popAt (pv i hN hv hd hcd) (pa_cons he pa_nil hs) hbase hfew hline hs rfl) ?_
  rintro σ H Q ⟨ρ, f, r, R, hm, hp⟩
  unfold M.popAt at hm
  cases e0 : mutL ρ i with
  | none => rw [e0] at hm; cases hm
  | some bd =>
    obtain ⟨b0, ds0⟩ := bd
    rw [e0] at hm
    dsimp only at hm
    obtain ⟨e1, vs0, h0, _⟩ := R.mutLst e0
    refine ⟨_, e1, .inl ⟨rfl, vs0, SqL.of h0⟩, ?_⟩
    refine tD_bind R hm (xok hp) fun d ρ1 v H1 hk1 R1 x1 hv => ?_
    split at hk1
    · rename_i j b1 ds e2
      split at hk1
      · rename_i hj
        cases en : seqIndex? j ds.length with
        | none => rw [en] at hk1; cases hk1
        | some n =>
          rw [en] at hk1
          dsimp only at hk1
          cases ed : ds[n]? with
          | none => rw [ed] at hk1; cases hk1
          | some d =>
            rw [ed] at hk1
            cases hk1
            obtain ⟨_, vs, h1, hh⟩ := R1.mutLst e2
            obtain ⟨y, ey, hy⟩ := hh.get ed
            obtain ⟨R2, x2⟩ := R1.lstUpd e2 (hh.eraseIdx n)
            exact ⟨f i, vs, j, n, y, rfl, by rw [hv.int_inv], h1, by omega, by omega, by rw [hh.length]; exact en, ey, hp _ _ R2 (x1.trans x2) (hy.ext x2)⟩
      · cases hk1
    · cases hk1
theorem ds_setIx {x : Str} {px tpos : Pos} (i : Nat) (hv' : DE X G W e me) (hi' : DE X G W ei mk) (hN : X.N[i]? = some x := by rfl) (hv : Vis X.env.scope x := by first | exact Or.inl rfl | exact Or.inr (Or.inl rfl) | exact Or.inr (Or.inr rfl)) (hd : (x == ("__debug__" : Str)) = false := by decide)
    (hcd : (x == ("__classdict__" : Str)) = false := by decide) (ha : ∀ v, assign (.Subscript (.Name x px) ei tpos) X.env v = (do
      let ov ← holding [v] (eval (.Name x px) X.env)
      let iv ← holding [v, ov] (eval ei X.env)
      standAt tpos
      holding [v, ov, iv] (setItem ov iv v)
      release [v, ov, iv] []) := by intro _; rfl) (hs : swapsWithSole [.Subscript (.Name x px) ei tpos] e pos.line X.env = pure false := by rfl) (hw : swappedStores [.Subscript (.Name x px) ei tpos] e X.env = pure none := by rfl)
    (h1 : (assignEach [.Subscript (.Name x px) ei tpos] X.env).map (·.2) = [assign (.Subscript (.Name x px) ei tpos) X.env] := by rfl) :
    DS X G W (.Assign [.Subscript (.Name x px) ei tpos] e pos) (S.setIx i mk me) := by
  refine impS (ps_asg hv' (pg_sub (pv i hN hv hd hcd) hi' set_list ha) hs hw h1) ?_
  rintro E σ H ⟨ρ, f, r, R, hm, hp⟩
  refine tD_of (α := D) R hm hp fun d ρ1 v H1 hk R1 x1 hv => ?_
  cases e0 : mutL ρ1 i with
  | none => rw [e0] at hk; cases hk
  | some bd =>
    rw [e0] at hk
    dsimp only at hk
    obtain ⟨b0, ds0⟩ := bd
    obtain ⟨e1, _⟩ := R1.mutLst e0
    refine ⟨_, e1, ?_⟩
    refine tD_of (α := D) R1 hk (hp.mono x1) fun kd ρ2 kv H2 hk2 R2 x2 hkv => ?_
    split at hk2
    · rename_i j b1 ds e2
      cases en : ixN ds.length j with
      | none => rw [en] at hk2; cases hk2
      | some n =>
        rw [en] at hk2
        cases hk2
        obtain ⟨_, vs, h1, hh⟩ := R2.mutLst e2
        obtain ⟨R3, x3⟩ := R2.lstUpd e2 (hh.set n (hv.ext x2))
        exact ⟨f i, vs, j, n, rfl, by rw [hkv.int_inv], h1, by rw [hh.length]; exact en, hp σ _ f R3 ((x1.trans x2).trans x3)⟩
    · cases hk2
end
end DL
namespace DL
open PySem PySem.Spec PyProof.Rows L2 PpSet

/-! ### {e for x in xs if t}: ints (after the library's rule for truth values) -/
section
variable {X : Cx}
def tSi (w : World) (wi : TI) (g : TG) (tt : TT) (te : TE) (vs : List Nat) : TE := fun σ H Q => wi σ H fun J H1 => ∀ D, H1 D = none → ∃ W : Nat → Nat → Hp → Prop, (∃ m, W 0 m (upd H1 D (SetO w D (fun _ : Int => false) 0))) ∧ ∀ i m H, W i m H →
  (J.stop i H ∧ Q (.ref D) H) ∨ (J.go i H ∧ ∃ Nx : Hp → Prop, (∀ H', Nx H' → ∃ m', m' < m ∧ W (i + 1) m' H') ∧ ∀ x H', J.yld i H x H' → g x (wipe σ vs) H' fun σ2 H2 => wipe σ2 vs = wipe σ vs ∧ tt σ2 H2 fun b H3 =>
    if b = true then te σ2 H3 fun y H4 => ∃ (c : Int) (S : Int → Bool) (n : Nat), y = .int c ∧ H4 D = some (SetO w D S n) ∧ n + 1 < scanBound ∧ Nx (upd H4 D (SetO w D (fun j => S j || decide (j = c)) (if S c = true then n else n + 1))) else Nx H3)
theorem si_core {pins : List (Addr × Obj)} {s : Shared} {σ : L2.St} {H : Hp} {Q : VK} {elt tg iter : Expr} {ifs : List Expr} {scope : Scope} {own : List (PySem.Str × Nat)} {pos pos' : Pos} {wi : TI} {g : TG} {tt : TT} {te : TE} {use : Option (Value → Sem Unit)} {Qf : Value → Shared → Prop}
    (hc : X.calm = true) (hN : X.N.Nodup) (I : Inv X pins σ H s) (hi : PI X tg iter wi) (ok : BlkOk X.N X.env.scope scope own)
    (hg : ∀ (s : Shared) (H : Hp) (C : Addr) (cl : List (PySem.Str × Addr)) (fp : List Addr), PG (X.blk s H scope (compEnvC scope cl C X.env) fp) tg g) (ht : ∀ (s : Shared) (H : Hp) (C : Addr) (cl : List (PySem.Str × Addr)) (fp : List Addr), PTs (X.blk s H scope (compEnvC scope cl C X.env) fp) ifs tt)
    (he : ∀ (s : Shared) (H : Hp) (C : Addr) (cl : List (PySem.Str × Addr)) (fp : List Addr), PE (X.blk s H scope (compEnvC scope cl C X.env) fp) elt te) (hs : ∀ x, foldedSetIterable iter X.env x = pure x)
    (h : tSi X.w wi g tt te (own.map (·.2)) σ H Q)
    (hRR : ∀ D C s' m H', Inv X pins σ H' s' → Q (.ref D) H' → s'.heap.Ns C m → FpOk X pins H' C → compPost (model X.prog X.w) X.A X.xe use Qf (.ref D) C (.ok .next) s') :
    wpAny (model X.prog X.w) X.A (comprehension (.SetComp elt [⟨tg, iter, ifs, 0⟩] scope pos) scope X.env pos' (newSet (.type "set")) false (eval iter X.env) use) Qf X.xe s := by
  have hfree : ∀ y ∈ scope.names, y.2 = .free → ∃ c, X.env.cells.lookup y.1 = some c := fun y hy e => by
    rcases ok.free y hy e with k | k
    · exact I.ok.has _ (.inl k)
    · exact I.ok.has _ (.inr k)
  refine wpAny_comprehension_free (use := use) rfl hs (closure_ok hfree) ok.kind (fun y hy e => by rw [ok.uniq y hy, e])
    (thn (hi.run pins s σ H _ I h) fun xv s1 hx => thn hx fun itv s2 h2 => ?_)
  obtain ⟨it, fp, tn, J, H2, e, I2, T, st2, f2, q⟩ := h2
  subst e
  refine newSet_ok (newEnv_comp ?_)
  generalize hD : s2.heap.objs.size = D
  have hDn : H2 D = none := I2.hok.fresh (Nat.le_of_eq hD)
  obtain ⟨W, ⟨m0, w0⟩, turn⟩ := q D hDn
  generalize hs3 : ({ s2 with heap := s2.heap.push { cls := .type "set", dict := none, data := .set #[] 0 (.fresh 0 0 (!X.w.params.followText "set-order")) } } : Shared) = s3
  have I3 : Inv X pins σ (upd H2 D (SetO X.w D (fun _ : Int => false) 0)) s3 := by
    rw [← hs3]
    refine I2.laid (t' := s2.toks) (fun b o e => Heap.get?_push_of_some _ e) (Nat.le_of_eq hD) ?_
    rw [← hD]
    exact setO_new (setR_fresh X.w)
  have h3 : s3.heap = s2.heap.push { cls := .type "set", dict := none, data := .set #[] 0 (.fresh 0 0 (!X.w.params.followText "set-order")) } := by rw [← hs3]
  have sz : ∀ b ∈ fp, b < s2.heap.objs.size := fun b hb => by
    obtain ⟨o, e, _⟩ := T.obj _ _ st2 b hb
    exact Heap.lt_size e
  have f3 : ∀ b ∈ fp, FpOk X pins (upd H2 D (SetO X.w D (fun _ : Int => false) 0)) b ∧ b < s3.heap.objs.size := fun b hb => by
    have hlt := sz b hb
    refine ⟨⟨?_, (f2 b hb).2⟩, by rw [h3, Heap.size_push]; exact Nat.lt_succ_of_lt hlt⟩
    rw [upd_ne (by rw [← hD]; exact Nat.ne_of_lt hlt)]
    exact (f2 b hb).1
  have st3 : tn 0 s3.heap := T.keep _ _ _ st2 fun b _ o e => by rw [h3]; exact Heap.get?_push_of_some _ e
  have I4 := block_start I3 ok hN f3
  have pg := hg s3 (upd H2 D (SetO X.w D (fun _ : Int => false) 0)) s3.heap.objs.size (cellsFrom (s3.heap.objs.size + 1) scope.names (cloFrom X.env.cells scope.names [])) fp
  have pt := ht s3 (upd H2 D (SetO X.w D (fun _ : Int => false) 0)) s3.heap.objs.size (cellsFrom (s3.heap.objs.size + 1) scope.names (cloFrom X.env.cells scope.names [])) fp
  have pe := he s3 (upd H2 D (SetO X.w D (fun _ : Int => false) 0)) s3.heap.objs.size (cellsFrom (s3.heap.objs.size + 1) scope.names (cloFrom X.env.cells scope.names [])) fp
  show codeAny _ _ (.compStart (.SetComp elt [⟨tg, iter, ifs, 0⟩] scope pos) 0 (.ref it) (.ref D) (compEnvC scope (cellsFrom (s3.heap.objs.size + 1) scope.names (cloFrom X.env.cells scope.names [])) s3.heap.objs.size X.env)) (compPost (model X.prog X.w) X.A X.xe use Qf (.ref D) s3.heap.objs.size) { s3 with heap := pushCells (s3.heap.push { cls := .type "dict", data := .dict #[] }) scope.names }
  have nfp : ∀ b ∈ fp, (upd H2 D (SetO X.w D (fun _ : Int => false) 0)) b = none := fun b hb => (f3 b hb).1.1
  generalize hce : compEnvC scope (cellsFrom (s3.heap.objs.size + 1) scope.names (cloFrom X.env.cells scope.names [])) s3.heap.objs.size X.env = ce at I4 pg pt pe ⊢
  have cL : ce.locals = s3.heap.objs.size := by subst hce; rfl
  generalize hH3 : upd H2 D (SetO X.w D (fun _ : Int => false) 0) = H3 at I3 I4 pg pt pe w0 nfp f3
  generalize hs4 : ({ s3 with heap := pushCells (s3.heap.push { cls := .type "dict", data := .dict #[] }) scope.names } : Shared) = s4 at I4 ⊢
  have st4 : tn 0 s4.heap := T.keep _ _ _ st3 fun b _ o e => by rw [← hs4]; exact pushCells_keeps _ _ _ _ (Heap.get?_push_of_some _ e)
  have stat : ∀ {σ' : L2.St} {H' : Hp} {s' : Shared}, Inv (X.blk s3 H3 scope ce fp) [] σ' H' s' → (∀ b ∈ fp, H' b = none) → ∀ b ∈ fp, FpOk (X.blk s3 H3 scope ce fp) [] H' b := fun {σ' H' s'} I' hn b hb =>
    ⟨hn b hb, (I'.ok.exf b hb).1, I'.ok.exfs b hb, .inl hb, fun x c e => (I'.ok.exf b hb).2 x c e, fun p hp => absurd (show p ∈ ([] : List (Addr × Obj)) ++ [] from hp) (by simp)⟩
  have loop : codeAny (model X.prog X.w) X.A (.compLoop (.SetComp elt [⟨tg, iter, ifs, 0⟩] scope pos) 0 (.ref it) (.ref D) ce) (compPost (model X.prog X.w) X.A X.xe use Qf (.ref D) s3.heap.objs.size) s4 := by
    refine compLoopS_any (fun n s' => ∃ i H', Inv (X.blk s3 H3 scope ce fp) [] (wipe σ (own.map (·.2))) H' s' ∧ tn i s'.heap ∧ (∀ b ∈ fp, H' b = none) ∧ W i n H') ?_ m0 ⟨0, H3, I4, st4, nfp, w0⟩
    rintro n s5 ⟨i, H5, I5, st5, n5, w5⟩
    rcases turn i n H5 w5 with ⟨stop, qq⟩ | ⟨go, Nx, hNx, step⟩
    · have td := T.done (X.blk s3 H3 scope ce fp) rfl rfl rfl hc i [] s5 _ H5 (fun _ _ => False) I5 (stat I5 n5) st5 stop
      refine thnF td fun r s6 ⟨hr, I6⟩ => ?_
      subst hr
      have I7 : Inv X pins σ H5 s6 := I3.call' (ch := fp) I6.os I6.base I6.hok I6.bare fun b hb => ⟨(f3 b hb).1.2.2.2.1, (f3 b hb).1.2.1, (f3 b hb).1.2.2.2.2.1, (f3 b hb).1.2.2.2.2.2⟩
      have nC : H5 s3.heap.objs.size = none := by
        have z : H5 ce.locals = none := I6.free
        rw [cL] at z
        exact z
      obtain ⟨m, hn, _⟩ := I6.loc
      have hn : s6.heap.Ns ce.locals m := hn
      rw [cL] at hn
      exact hRR D s3.heap.objs.size s6 m H5 I7 qq hn (I3.fpOk (Nat.le_refl _) nC)
    · have ti := T.item (X.blk s3 H3 scope ce fp) rfl rfl rfl hc i [] s5 _ H5 (fun _ _ => False) I5 (stat I5 n5) st5 go
      refine thnF ti fun r s6 ⟨u, hr, h6⟩ => ?_
      subst hr
      refine thnF h6 fun _ s7 ⟨x, H7, I7, r7, y7, st7, n7⟩ => ?_
      have I7' := I7.pinned (stat I7 n7) (T.obj _ _ st7)
      refine thnF (pg.run _ s7 _ H7 x u _ I7' r7 (step x H7 y7)) fun _ s8 ⟨σ8, H8, I8, hw8, q8⟩ => ?_
      refine thnF (pt.run _ s8 σ8 H8 _ I8 q8) fun b s9 ⟨H9, I9, q9⟩ => ?_
      have fin : ∀ {s' : Shared} {H' : Hp}, Inv (X.blk s3 H3 scope ce fp) ([] ++ pinsAt fp s7.heap) σ8 H' s' → Nx H' → ∃ m, m < n ∧ ∃ i H', Inv (X.blk s3 H3 scope ce fp) [] (wipe σ (own.map (·.2))) H' s' ∧ tn i s'.heap ∧ (∀ b ∈ fp, H' b = none) ∧ W i m H' := fun {s' H'} I' nx => by
        obtain ⟨m', hm, w'⟩ := hNx H' nx
        have pin' : ∀ b ∈ fp, ∀ o, s7.heap.get? b = some o → s'.heap.get? b = some o ∧ H' b = none := fun b hb o e =>
          let z := I'.pin (b, o) (List.mem_append_right _ (List.mem_append_right _ (mem_pinsAt hb e)))
          ⟨z.1, z.2.1⟩
        have hl : (wipe σ (own.map (·.2))).length = σ8.length := by rw [← hw8, wipe_length]
        refine ⟨m', hm, i + 1, H', (I'.unpinned (pins := [])).weak hl (fun j v e => ?_), T.keep _ _ _ st7 fun b hb o e => (pin' b hb o e).1, fun b hb => ?_, w'⟩
        · rw [← hw8] at e
          exact (wipe_some e).1
        · obtain ⟨o, e, _⟩ := T.obj _ _ st7 b hb
          exact (pin' b hb o e).2
      cases b with
      | false =>
        simp only [Bool.false_eq_true, if_false] at q9 ⊢
        exact fin I9 q9
      | true =>
        simp only [if_true] at q9 ⊢
        refine thnF (pe.run _ s9 σ8 H9 _ I9 q9) fun z s10 ⟨yv, H10, I10, r10, cb, S0, n0, ey, hD10, hz10, nx⟩ => ?_
        refine thnF (mt_sadd (X := X.blk s3 H3 scope ce fp) _ s10 σ8 H10 (.ref D) [yv] (.ref D) [z] (fun _ H => Nx H) I10 rfl (.cons r10 .nil) ⟨D, cb, S0, n0, rfl, by rw [ey], hD10, hz10, nx⟩) fun _ s11 ⟨_, H11, I11, _, q11⟩ => fin I11 q11
  exact codeAny_compStart_set loop (T.self X.A 0 _ _ _ st4 loop)
theorem pe_si {elt tg iter : Expr} {ifs : List Expr} {scope : Scope} {own : List (PySem.Str × Nat)} {pos : Pos} {wi : TI} {g : TG} {tt : TT} {te : TE} (hc : X.calm = true) (hN : X.N.Nodup) (hi : PI X tg iter wi) (ok : BlkOk X.N X.env.scope scope own)
    (hg : ∀ (s : Shared) (H : Hp) (C : Addr) (cl : List (PySem.Str × Addr)) (fp : List Addr), PG (X.blk s H scope (compEnvC scope cl C X.env) fp) tg g) (ht : ∀ (s : Shared) (H : Hp) (C : Addr) (cl : List (PySem.Str × Addr)) (fp : List Addr), PTs (X.blk s H scope (compEnvC scope cl C X.env) fp) ifs tt)
    (he : ∀ (s : Shared) (H : Hp) (C : Addr) (cl : List (PySem.Str × Addr)) (fp : List Addr), PE (X.blk s H scope (compEnvC scope cl C X.env) fp) elt te) (hs : ∀ x, foldedSetIterable iter X.env x = pure x := by intro _; rfl) :
    PE X (.SetComp elt [⟨tg, iter, ifs, 0⟩] scope pos) (tSi X.w wi g tt te (own.map (·.2))) := by
  refine ⟨fun pins s σ H Q I h => ?_⟩
  rw [eval_SetComp]
  refine si_core hc hN I hi ok hg ht he hs h fun D C s' m H' I' q hn f => ⟨m, hn, fun h'' sb => ?_⟩
  obtain ⟨f0, f1, f2, f3, f4, f5⟩ := f
  exact ⟨.ref D, H', I'.turned (t' := s'.toks) (fun b o hb e => (sb.2 b hb).trans e) f0 f1 f3 f4 f5, rfl, q⟩
end

/-! ### sorted({e for x in xs if t}) as data: the members in order -/
def insI (x : Int) : List Int → List Int
  | [] => [x]
  | y :: r => if x < y then x :: y :: r else if x = y then y :: r else y :: insI x r
theorem mem_insI {x j : Int} : ∀ {l : List Int}, j ∈ insI x l ↔ j ∈ l ∨ j = x
  | [] => by simp [insI]
  | y :: r => by
    unfold insI
    split
    · simp only [List.mem_cons]
      exact ⟨fun h => by rcases h with h | h | h <;> simp [h], fun h => by rcases h with (h | h) | h <;> simp [h]⟩
    · split
      · rename_i h1 h2
        subst h2
        simp only [List.mem_cons]
        exact ⟨fun h => .inl h, fun h => by rcases h with h | h; exact h; exact .inl h⟩
      · simp only [List.mem_cons, mem_insI (l := r)]
        exact ⟨fun h => by rcases h with h | h | h <;> simp [h], fun h => by rcases h with (h | h) | h <;> simp [h]⟩
theorem sorted_insI {x : Int} : ∀ {l : List Int}, l.Pairwise (· < ·) → (insI x l).Pairwise (· < ·)
  | [], _ => by simp [insI]
  | y :: r, h => by
    obtain ⟨h1, h2⟩ := List.pairwise_cons.mp h
    unfold insI
    split
    · rename_i hx
      refine List.pairwise_cons.mpr ⟨fun z hz => ?_, h⟩
      rcases List.mem_cons.mp hz with e | hz
      · rw [e]; exact hx
      · exact Int.lt_trans hx (h1 z hz)
    · split
      · exact h
      · rename_i hx hy
        refine List.pairwise_cons.mpr ⟨fun z hz => ?_, sorted_insI h2⟩
        rcases mem_insI.mp hz with hz | e
        · exact h1 z hz
        · omega
theorem len_insI {x : Int} : ∀ {l : List Int}, l.Pairwise (· < ·) → (insI x l).length = if x ∈ l then l.length else l.length + 1
  | [], _ => by simp [insI]
  | y :: r, h => by
    obtain ⟨h1, h2⟩ := List.pairwise_cons.mp h
    unfold insI
    split
    · rename_i hx
      have : x ∉ y :: r := fun hm => by
        rcases List.mem_cons.mp hm with e | hm
        · omega
        · have := h1 x hm; omega
      rw [if_neg this]; rfl
    · split
      · rename_i hx hy
        rw [if_pos (by simp [hy])]
      · rename_i hx hy
        rw [List.length_cons, len_insI h2]
        have e : (x ∈ y :: r) ↔ x ∈ r := by simp [hy]
        by_cases hm : x ∈ r
        · rw [if_pos hm, if_pos (e.mpr hm)]; rfl
        · rw [if_neg hm, if_neg (fun z => hm (e.mp z))]; rfl
theorem sorted_eq : ∀ {l m : List Int}, l.Pairwise (· < ·) → m.Pairwise (· < ·) → (∀ k, k ∈ l ↔ k ∈ m) → l = m
  | [], [], _, _, _ => rfl
  | [], y :: m, _, _, h => absurd ((h y).mpr (by simp)) (by simp)
  | x :: l, [], _, _, h => absurd ((h x).mp (by simp)) (by simp)
  | x :: l, y :: m, hl, hm, h => by
    obtain ⟨h1, h2⟩ := List.pairwise_cons.mp hl
    obtain ⟨h3, h4⟩ := List.pairwise_cons.mp hm
    have e : x = y := by
      have a := (h x).mp (by simp)
      have b := (h y).mpr (by simp)
      rcases List.mem_cons.mp a with a | a
      · exact a
      · rcases List.mem_cons.mp b with b | b
        · exact b.symm
        · have := h3 x a; have := h1 y b; omega
    subst e
    rw [sorted_eq h2 h4 fun k => ⟨fun hk => ?_, fun hk => ?_⟩]
    · have := (h k).mp (by simp [hk])
      rcases List.mem_cons.mp this with e | z
      · have := h1 k hk; omega
      · exact z
    · have := (h k).mpr (by simp [hk])
      rcases List.mem_cons.mp this with e | z
      · have := h3 k hk; omega
      · exact z
def siLoop (g : TgM) (mt : M Bool) (me : M D) (vs : List Nat) : List D → List Int → Rho → Option (List Int × Rho)
  | [], acc, ρ => some (acc, ρ)
  | d :: r, acc, ρ => match g d ρ with
    | none => none
    | some ρ2 => match mt ρ2 with
      | some (.val true ρ3) => match me ρ3 with
        | some (.val (.int y) ρ4) => if acc.length < 1000 ∧ noInn ρ4 vs = true then siLoop g mt me vs r (insI y acc) (wipeR ρ4 vs) else none
        | _ => none
      | some (.val false ρ3) => if noInn ρ3 vs = true then siLoop g mt me vs r acc (wipeR ρ3 vs) else none
      | _ => none
def M.sset (ms : M (List D)) (g : TgM) (mt : M Bool) (me : M D) (vs : List Nat) : M Cell := ms.bind fun ds ρ => if noInn ρ vs = true then match siLoop g mt me vs ds [] (wipeR ρ vs) with
  | some (acc, ρ') => if noInn ρ' vs = true ∧ acc.length < 64 then some (.val (.lst (acc.map PyData.int)) (wipeR ρ' vs)) else none
  | none => none else none
section
variable {X : Cx} {G : Gc} {W : WX} {e tg elt iter : Expr} {es ifs : List Expr} {m me : M D} {mt : M Bool} {pos p spos : Pos} {gm : TgM} {vs : List Nat}
def oSet (w : World) (D : Addr) (acc : List Int) : HO := SetO w D (fun k => decide (k ∈ acc)) acc.length
theorem oSet_add {w : World} {D : Addr} {acc : List Int} {y : Int} (h : acc.Pairwise (· < ·)) : SetO w D (fun j => (fun k => decide (k ∈ acc)) j || decide (j = y)) (if (fun k => decide (k ∈ acc)) y = true then acc.length else acc.length + 1) = oSet w D (insI y acc) := by
  unfold oSet
  rw [len_insI h]
  have e1 : (fun j => (fun k => decide (k ∈ acc)) j || decide (j = y)) = fun k => decide (k ∈ insI y acc) := by
    funext j
    rw [Bool.eq_iff_iff]
    simp [mem_insI]
  rw [e1]
  congr 1
  by_cases hm : y ∈ acc <;> simp [hm]
theorem scan_ok : 1000 + 1 ≤ scanBound := by decide
theorem sset_imp {ms : M (List D)} {g : TgM} : ∀ σ H Q, tF G W (M.sset ms g mt me vs) σ H Q → tCB (rSortedSet X.w) (tCons (tSi X.w (tI G W ms) (tPinG G vs g) (tPinT G mt) (tPinD G me) vs) tNil) σ H Q := by
  rintro σ H Q ⟨ρ, f, r, R, hm, hp⟩
  show tI G W ms σ H _
  refine tI_bind R hm (xok hp) fun ds ρ1 J n Gh Y H1 hk R1 x1 wk => ?_
  intro D hD
  split at hk
  · rename_i hn1
    cases el : siLoop g mt me vs ds [] (wipeR ρ1 vs) with
    | none => rw [el] at hk; cases hk
    | some res =>
      rw [el] at hk
      obtain ⟨out, ρ'⟩ := res
      dsimp only at hk
      split at hk
      · rename_i hn2
        cases hk
        have ap := R1.apt hD
        obtain ⟨Rw, xw⟩ := R1.wipe vs hn1
        have e0 : SetO X.w D (fun _ : Int => false) 0 = oSet X.w D [] := by unfold oSet; congr 1
        rw [e0]
        have R2 : Rel (G.pin D (oSet X.w D [])) (L2.wipe σ vs) (L2.upd H1 D (oSet X.w D [])) (wipeR ρ1 vs) f := Rw.toPin hD
        have x2 : Ext (Bad G ρ1 f) H1 (Bad (G.pin D (oSet X.w D [])) (wipeR ρ1 vs) f) (L2.upd H1 D (oSet X.w D [])) := fun a ob hb e => by
          obtain ⟨h1, h2⟩ := xw a ob hb e
          exact ⟨fun z => (bad_pin.mp z).elim h1 (ne_of_none e hD), same_upd hD _ _ e⟩
        refine ⟨fun i m H2 => m = n - i ∧ i ≤ n ∧ ∃ (ρ2 : Rho) (acc : List Int), acc.Pairwise (· < ·) ∧ Rel (G.pin D (oSet X.w D acc)) (L2.wipe σ vs) H2 ρ2 f ∧ siLoop g mt me vs (ds.drop i) acc ρ2 = some (out, ρ') ∧ Ext (Bad G ρ1 f) H1 (Bad (G.pin D (oSet X.w D acc)) ρ2 f) H2,
          ⟨n, by simp, Nat.zero_le _, _, [], .nil, R2, by simpa using el, x2⟩, ?_⟩
        rintro i m H2 ⟨rfl, hi, ρ2, acc, so, R3, hl, x3⟩
        have hG := wk.keep _ _ x3
        by_cases hlt0 : i < n
        · refine .inr ⟨wk.walk.goes i H2 hlt0 hG, fun H2 => i + 1 ≤ n ∧ ∃ (ρ2 : Rho) (acc : List Int), acc.Pairwise (· < ·) ∧ Rel (G.pin D (oSet X.w D acc)) (L2.wipe σ vs) H2 ρ2 f ∧ siLoop g mt me vs (ds.drop (i + 1)) acc ρ2 = some (out, ρ') ∧ Ext (Bad G ρ1 f) H1 (Bad (G.pin D (oSet X.w D acc)) ρ2 f) H2,
            fun H' p' => ⟨n - (i + 1), by omega, rfl, p'.1, p'.2⟩, fun x H3 y => ?_⟩
          have y := wk.walk.yields i H2 x H3 hlt0 hG y
          have hlt : i < ds.length := by rw [wk.len]; exact hlt0
          rw [List.drop_eq_getElem_cons hlt] at hl
          obtain ⟨s3, hx⟩ := wk.item i ds[i] (Bad (G.pin D (oSet X.w D acc)) ρ2 f) H2 x H3 (List.getElem?_eq_getElem hlt) x3 (fun p h => R3.free h) y
          have R4 := R3.same s3
          simp only [siLoop] at hl
          cases eg : g ds[i] ρ2 with
          | none => rw [eg] at hl; cases hl
          | some ρ3 =>
            rw [eg] at hl
            dsimp only at hl
            refine ⟨D, oSet X.w D acc, ρ2, f, ds[i], ρ3, R4, hx, eg, fun σ5 w5 R5 x5 => ⟨by rw [w5]; exact wipe_wipe, ?_⟩⟩
            have w5' : L2.wipe σ5 vs = L2.wipe σ vs := w5.trans wipe_wipe
            cases et : mt ρ3 with
            | none => rw [et] at hl; cases hl
            | some rt =>
              rw [et] at hl
              cases rt with
              | exc c ρ4 => cases hl
              | val b ρ4 =>
                refine ⟨D, oSet X.w D acc, ρ3, f, _, R5, et, fun H6 R6 x6 => ?_⟩
                have xx6 := ((x3.trans (Ext.same s3)).trans x5).trans x6
                cases b with
                | false =>
                  show if false = true then _ else _
                  rw [if_neg Bool.false_ne_true]
                  dsimp only at hl
                  split at hl
                  · rename_i hn
                    obtain ⟨R7, x7⟩ := wipe_rel R6 hn w5'
                    exact ⟨hlt0, _, acc, so, R7, hl, xx6.trans x7⟩
                  · cases hl
                | true =>
                  show if true = true then _ else _
                  rw [if_pos rfl]
                  dsimp only at hl
                  cases ev : me ρ4 with
                  | none => rw [ev] at hl; cases hl
                  | some rv =>
                    rw [ev] at hl
                    cases rv with
                    | exc c ρ5 => cases hl
                    | val yd ρ5 =>
                      cases yd <;> try (cases hl)
                      rename_i yi
                      dsimp only at hl
                      split at hl
                      · rename_i hn
                        refine ⟨D, oSet X.w D acc, ρ4, f, _, R6, ev, fun yv H7 R7 x7 hy => ?_⟩
                        refine ⟨yi, _, _, hy.int_inv, R7.at ap, Nat.lt_of_lt_of_le (Nat.succ_lt_succ hn.1) scan_ok, ?_⟩
                        rw [oSet_add so]
                        obtain ⟨R8, x8⟩ := wipe_rel R7 hn.2 w5'
                        have R9 := R8.repin (o' := oSet X.w D (insI yi acc)) ap
                        have x9 : Ext (Bad (G.pin D (oSet X.w D acc)) (wipeR ρ5 vs) f) H7 (Bad (G.pin D (oSet X.w D (insI yi acc))) (wipeR ρ5 vs) f) (L2.upd H7 D (oSet X.w D (insI yi acc))) := fun a ob hb e => by
                          have hne : a ≠ D := fun z => hb (bad_pin.mpr (.inr z))
                          exact ⟨fun z => hb (bad_pin.mpr (bad_pin.mp z)), by rw [upd_ne hne]; exact e⟩
                        exact ⟨hlt0, _, _, sorted_insI so, R9, hl, ((xx6.trans x7).trans x8).trans x9⟩
                      · cases hl
        · have e : i = n := by omega
          subst e
          rw [← wk.len, List.drop_length] at hl
          cases hl
          refine .inl ⟨wk.walk.stops H2 hG, ?_⟩
          obtain ⟨R4, x4⟩ := slots_back R3 hn2.1
          have RP := R4.unpin ap
          have R5 : Rel G σ H2 (wipeR ρ' vs) f := RP.minus ⟨ap.a, ap.h0, fun i b c e => R4.nf ap e⟩ (fun i c e => ap.inn _ (RP.inn i c e).1) ap.t
          refine ⟨D, _, _, rfl, R3.at ap, hn2.2, fun ns q hs hmem hlen hq => ?_⟩
          have ens : ns = out := sorted_eq hs so fun k => (hmem k).trans decide_eq_true_iff
          subst ens
          refine hp q _ (.mk' R5 hq (same_upd hq) ⟨ns.map V.int, upd_same, HasL.ints ns⟩) fun a ob hb e => ?_
          obtain ⟨h1, h2⟩ := ((x1.trans x3).trans x4) a ob hb e
          exact ⟨fun z => z.elim (fun z => h1 (bad_pin.mpr (.inl z))) (ne_of_none h2 hq), same_upd hq _ _ h2⟩
      · cases hk
  · cases hk
theorem df_sset {ms : M (List D)} {g : TgM} {scope : Scope} {p2 : Pos} (own : List (Str × Nat)) (hc : X.calm = true) (hN : X.N.Nodup) (ok : BlkOk X.N X.env.scope scope own) (hm : X.mg "sorted" = none) (hi : DI X G W tg iter ms)
    (hg : ∀ (s : Shared) (H : Hp) (C : Addr) (cl : List (Str × Addr)) (fp : List Addr) (p : Addr) (o : HO), DGv (X.blk s H scope (compEnvC scope cl C X.env) fp) (G.pin p o) (own.map (·.2)) tg g)
    (ht : ∀ (s : Shared) (H : Hp) (C : Addr) (cl : List (Str × Addr)) (fp : List Addr) (p : Addr) (o : HO), DTs (X.blk s H scope (compEnvC scope cl C X.env) fp) (G.pin p o) F0 ifs mt)
    (he : ∀ (s : Shared) (H : Hp) (C : Addr) (cl : List (Str × Addr)) (fp : List Addr) (p : Addr) (o : HO), DE (X.blk s H scope (compEnvC scope cl C X.env) fp) (G.pin p o) F0 elt me)
    (hs : ∀ x, foldedSetIterable iter X.env x = pure x := by intro _; rfl) (hgl : Gl X "sorted" := by rfl)
    (hst : starEach [.SetComp elt [⟨tg, iter, ifs, 0⟩] scope pos] X.env = (false, eval (.SetComp elt [⟨tg, iter, ifs, 0⟩] scope pos) X.env) :: starEach [] X.env := by rfl) :
    DF X G W (.Call (.Name "sorted" p) [.SetComp elt [⟨tg, iter, ifs, 0⟩] scope pos] [] p2) (M.sset ms g mt me (own.map (·.2))) :=
  imp (pe_callB (cr_sortedSet hc) hgl hm (by rfl) (pa_cons (pe_si hc hN hi ok (fun s H C cl fp => pin_g (hg s H C cl fp)) (fun s H C cl fp => pin_t (ht s H C cl fp)) (fun s H C cl fp => pin_d (he s H C cl fp)) hs) pa_nil hst) (by decide) (by decide) hst (by rfl)) sset_imp
end
end DL
namespace DL
open PySem PySem.Spec PyProof.Rows L2

/-! ### dicts -/
/-- in its place, or at the end -/
def putD {κ : Type} [DecidableEq κ] (kvs : List (κ × D)) (k : κ) (v : D) : List (κ × D) :=
  if (kvs.any fun kv => decide (kv.1 = k)) = true then kvs.map (fun kv => if kv.1 = k then (kv.1, v) else kv) else kvs ++ [(k, v)]
def mergeD (kvs : List (Key × D)) (more : List (Key × D)) : List (Key × D) := more.foldl (fun acc kv => putD acc kv.1 kv.2) kvs
/-- data as a key -/
def keyOf : D → Option Key
  | .int i => some (.inl i)
  | .str x => some (.inr x)
  | _ => none
theorem keyOf_inv {d : D} {k : Key} (h : keyOf d = some k) : d = keyD k := by
  cases d <;> cases h <;> rfl
def pairsOf : List D → Option (List (Key × D))
  | [] => some []
  | .tuple [k, v] :: r => match keyOf k, pairsOf r with
    | some k, some ps => some ((k, v) :: ps)
    | _, _ => none
  | _ => none
def dictOf : D → Option Cell
  | .list ps => match pairsOf ps with
    | some kvs => some (.dK (mergeD [] kvs))
    | none => none
  | _ => none
section
variable {K : PySem.W.Frag} {B : Addr → Prop} {H : Hp}
theorem Has.key {v : V} {k : Key} (h : Has K B H v (keyD k)) : v = kV k := by
  cases k with
  | inl i => exact h.int_inv
  | inr x => exact h.str_inv
theorem has_key (k : Key) : Has K B H (kV k) (keyD k) := by
  cases k with
  | inl i => exact .int i
  | inr x => exact .str x
/-- pairs and their data -/
def HasKV {κ : Type} (K : PySem.W.Frag) (B : Addr → Prop) (H : Hp) (kv' : List (κ × V)) (kvs : List (κ × D)) : Prop := kv'.map (·.1) = kvs.map (·.1) ∧ HasL K B H (kv'.map (·.2)) (kvs.map (·.2))
theorem HasKV.nil {κ : Type} : HasKV (κ := κ) K B H [] [] := ⟨rfl, .nil⟩
theorem HasKV.cons {κ : Type} {k : κ} {v : V} {d : D} {a : List (κ × V)} {b : List (κ × D)} (h : Has K B H v d) (t : HasKV K B H a b) : HasKV K B H ((k, v) :: a) ((k, d) :: b) := ⟨by simp [t.1], .cons h t.2⟩
theorem HasKV.ind {κ : Type} {motive : List (κ × V) → List (κ × D) → Prop} (h0 : motive [] []) (h1 : ∀ k v d a b, Has K B H v d → HasKV K B H a b → motive a b → motive ((k, v) :: a) ((k, d) :: b)) : ∀ {a : List (κ × V)} {b : List (κ × D)}, HasKV K B H a b → motive a b
  | [], [], _ => h0
  | [], _ :: _, h => by cases h.1
  | _ :: _, [], h => by cases h.1
  | (k, v) :: a, (k', d) :: b, h => by
    obtain ⟨e, hh⟩ := h
    simp only [List.map_cons, List.cons.injEq] at e
    obtain ⟨e1, e2⟩ := e
    subst e1
    cases hh with
    | cons p q => exact h1 _ _ _ _ _ p ⟨e2, q⟩ (HasKV.ind h0 h1 ⟨e2, q⟩)
theorem HasKV.append {κ : Type} {a a' : List (κ × V)} {b b' : List (κ × D)} (h : HasKV K B H a b) (h' : HasKV K B H a' b') : HasKV K B H (a ++ a') (b ++ b') :=
  ⟨by rw [List.map_append, List.map_append, h.1, h'.1], by rw [List.map_append, List.map_append]; exact h.2.append h'.2⟩
theorem HasKV.put {κ : Type} [DecidableEq κ] {a : List (κ × V)} {b : List (κ × D)} {k : κ} {v : V} {d : D} (h : HasKV K B H a b) (hv : Has K B H v d) : HasKV K B H (putK a k v) (putD b k d) := by
  have any : (a.any fun kv => decide (kv.1 = k)) = b.any fun kv => decide (kv.1 = k) :=
    HasKV.ind (motive := fun a b => (a.any fun kv => decide (kv.1 = k)) = b.any fun kv => decide (kv.1 = k)) rfl (fun k v d a b _ _ e => by simp only [List.any_cons, e]) h
  unfold putK putD
  rw [any]
  split
  · exact HasKV.ind (motive := fun a b => HasKV K B H (a.map fun kv => if kv.1 = k then (kv.1, v) else kv) (b.map fun kv => if kv.1 = k then (kv.1, d) else kv)) .nil (fun k' v' d' a b h1 _ e => by
      simp only [List.map_cons]
      by_cases hk : k' = k
      · rw [if_pos hk, if_pos hk]; exact .cons hv e
      · rw [if_neg hk, if_neg hk]; exact .cons h1 e) h
  · exact h.append (.cons hv .nil)
theorem HasKV.merge {a : List (Key × V)} {b : List (Key × D)} {m : List (Key × V)} {n : List (Key × D)} (h' : HasKV K B H m n) : HasKV K B H a b → HasKV K B H (mergeK a m) (mergeD b n) := by
  revert a b
  exact HasKV.ind (motive := fun m n => ∀ {a : List (Key × V)} {b : List (Key × D)}, HasKV K B H a b → HasKV K B H (mergeK a m) (mergeD b n)) (fun h => h) (fun k v d a b h1 _ ih {a' b'} h => by
    show HasKV K B H (mergeK (putK a' k v) a) (mergeD (putD b' k d) b)
    exact ih (h.put h1)) h'
theorem HasKV.ext {κ : Type} {B' : Addr → Prop} {H' : Hp} {a : List (κ × V)} {b : List (κ × D)} (x : Ext B H B' H') (h : HasKV K B H a b) : HasKV K B' H' a b := ⟨h.1, h.2.ext x⟩
theorem sqT_of {a : Addr} {xs : List V} (h : (¬ B a ∧ Rd H a (.tup xs)) ∨ KT K a xs) : SqT K H a xs := h.elim (fun h => .inl h.2) .inr
theorem pairs_ok : ∀ {vs : List V} {ds : List D} {kvs : List (Key × D)}, HasL K B H vs ds → pairsOf ds = some kvs → ∃ (ps : List Addr) (kv' : List (Key × V)), vs = ps.map V.ref ∧ Paired (fun p kv => SqT K H p [kV kv.1, kv.2]) ps kv' ∧ HasKV K B H kv' kvs
  | _, _, _, .nil, e => by cases e; exact ⟨[], [], rfl, .nil, .nil⟩
  | _, d :: r, kvs, .cons h t, e => by
    cases d <;> try (cases e)
    rename_i xs
    match xs, e with
    | [k, v], e =>
      simp only [pairsOf] at e
      cases ek : keyOf k with
      | none => rw [ek] at e; cases e
      | some kk =>
        cases ep : pairsOf r with
        | none => rw [ek, ep] at e; cases e
        | some ps0 =>
          rw [ek, ep] at e
          cases e
          obtain ⟨ps, kv', e1, e2, e3⟩ := pairs_ok t ep
          obtain ⟨a, ws, rfl, r1, s1, h1⟩ := h.tup_inv
          cases keyOf_inv ek
          cases h1 with
          | cons p1 q1 =>
            cases q1 with
            | cons p2 q2 =>
              cases q2
              cases p1.key
              exact ⟨a :: ps, (kk, _) :: kv', by rw [e1]; rfl, .cons s1 e2, .cons p2 e3⟩
end
section
variable {X : Cx} {G : Gc} {W : WX} {e tg : Expr} {m : M D} {mc : M Cell} {pos p : Pos}
theorem cb_dict (hc : X.calm = true) : CallR X (.type "dict") (rB1F X.K dictOf) := by
  rintro pins s σ H xs us Q I r ⟨B, x, d, z, hf, rfl, hx, hg, q⟩
  cases d <;> try (cases hg)
  rename_i ds
  simp only [dictOf] at hg
  cases ep : pairsOf ds with
  | none => rw [ep] at hg; cases hg
  | some kvs =>
    rw [ep] at hg
    cases hg
    obtain ⟨a, vs, rfl, _, hq, h3⟩ := hx.lst
    obtain ⟨ps, kv', rfl, e2, e3⟩ := pairs_ok h3 ep
    refine call_dictP hc pins s σ H _ us Q I r ⟨a, ps, kv', rfl, hq, e2, fun l hl => q l _ (same_upd hl) hl ?_⟩
    have x1 : Ext B H (fun a => B a ∨ a = l) (L2.upd H l (.dK (mergeK [] kv'))) := Ext.fresh hl (same_upd hl)
    exact ⟨_, upd_same, HasKV.merge (e3.ext x1) .nil⟩

/-! ### a new dict that is walked -/
theorem NewAt.pin {σ : L2.St} {H : Hp} {ρ : Rho} {f : Nat → Addr} {q : Addr} {c : Cell} {o : HO} (N : NewAt G σ H ρ f q c) (e : H q = some o) : Rel (G.pin q o) σ H ρ f ∧ Apt G q := by
  have ap : Apt G q := ⟨N.fr.a, N.fr.h0, fun z => (N.rel.dom.2 q z).2.not N.ok, fun w hw => by
    obtain ⟨c, e1, e2⟩ := N.rel.innB w hw
    rw [← e2]
    exact (N.rel.inn _ _ e1).2⟩
  have R := N.relP
  refine ⟨⟨R.len, fun a o' e' hn ht => ?_, R.dom, fun i c e => ⟨(R.own i c e).1, ?_⟩, R.inj, R.inn, R.innB, fun i s e => ?_⟩, ap⟩
  · by_cases ha : a = q
    · subst ha
      rw [show (G.pin a o).H0 a = some o from upd_same] at e'
      cases e'
      exact e
    · rw [show (G.pin q o).H0 a = G.H0 a from upd_ne ha] at e'
      exact R.keep a o' e' hn ht
  · rw [show (G.pin q o).H0 (f i) = G.H0 (f i) from upd_ne fun z => (R.own i c e).1 (.inr z)]
    exact (R.own i c e).2
  · obtain ⟨v, e1, h⟩ := R.sl i s e
    exact ⟨v, e1, SlOk.pin (SlOk.minus h)⟩
def tFrz (t : TE) : TE := fun σ H Q => t σ H fun x H1 => ∃ d u, x = .ref d ∧ H1 d = some u ∧ Mut (some u) ∧ ∀ od, Q x (L2.upd H1 d (.frz od u))
theorem pe_frz {t : TE} (h : PE X e t) : PE X e (tFrz t) := ⟨fun pins s σ H Q I hq => thn (h.run pins s σ H _ I hq) fun v s1 ⟨x, H1, I1, r1, d, u, e1, e2, mu, q⟩ => by
  obtain ⟨od, I2⟩ := I1.lock e2 mu
  exact ⟨x, _, I2, r1, q od⟩⟩
def keysC : Cell → Option (List D)
  | .dK kvs => some (kvs.map fun kv => keyD kv.1)
  | _ => none
def M.keysF (m : M Cell) : M (List D) := m.bind fun c => .lift (keysC c)
theorem tF_bind {α : Type} {m : M Cell} {k : Cell → M α} {σ : L2.St} {H : Hp} {ρ : Rho} {f : Nat → Addr} {r : R α} {Q : VK} (Rl : Rel G σ H ρ f) (h : M.bind m k ρ = some r) (hx : ∀ c ρ', r = .exc c ρ' → XP G W σ c ρ' f)
    (hk : ∀ d ρ' p H', k d ρ' = some r → NewAt G σ H' ρ' f p d → Ext (Bad G ρ f) H (fun a => Bad G ρ' f a ∨ a = p) H' → Q (.ref p) H') : tF G W m σ H Q := by
  rcases bind_inv h with ⟨c, ρ', e1, e2⟩ | ⟨d, ρ', e1, e2⟩
  · exact ⟨ρ, f, _, Rl, e1, hx c ρ' e2⟩
  · exact ⟨ρ, f, _, Rl, e1, fun v H' N x => hk d ρ' v H' e2 N x⟩
theorem di_keysF (h : DF X G W e mc) : DI X G W tg e (M.keysF mc) := by
  refine impI (pi_keys (pe_frz h)) ?_
  rintro σ H Rr ⟨ρ, f, r, R, hm, hp⟩
  unfold iKeys tFrz
  refine tF_bind R hm (xok hp) fun c ρ1 q H1 hk1 N x1 => ?_
  obtain ⟨ds, e, er⟩ := lift_inv hk1
  subst er
  cases c <;> try (cases e)
  rename_i kvs
  obtain ⟨kv', h1, h2, h3⟩ := N.ok
  refine ⟨q, _, rfl, h1, trivial, fun od => ⟨q, od, rfl, .inl ⟨kv', upd_same, ?_⟩⟩⟩
  obtain ⟨RP, ap⟩ := N.pin h1
  have R1 := RP.repin (o' := .frz od (.dK kv')) ap
  have RU := R1.unpin ap
  have R2 : Rel G σ (L2.upd H1 q (.frz od (.dK kv'))) ρ1 f := RU.minus ⟨ap.a, ap.h0, fun i b c e => R1.nf ap e⟩ (fun i c e => ap.inn _ (RU.inn i c e).1) ap.t
  have x2 : Ext (Bad G ρ f) H (Bad G ρ1 f) (L2.upd H1 q (.frz od (.dK kv'))) := fun a ob hb e => by
    obtain ⟨g1, g2⟩ := x1 a ob hb e
    exact ⟨fun z => g1 (.inl z), by rw [upd_ne fun z => g1 (.inr z)]; exact g2⟩
  have hl : kv'.length = kvs.length := by simpa using congrArg List.length h2
  refine hp _ _ _ _ _ R2 x2 ⟨by rw [List.length_map, hl], walk_keys, fun B' H' x => (x q _ N.fr.bad upd_same).2, fun i d B' H2 x H3 e x2 hf y => ?_⟩
  obtain ⟨rfl, k, v, e1, rfl⟩ := y
  refine ⟨Same.refl _, ?_⟩
  rw [List.getElem?_map] at e
  have e3 : kvs[i]?.map (·.1) = some k := by
    have : (kvs.map (·.1))[i]? = some k := by rw [← h2, List.getElem?_map, e1]; rfl
    rwa [List.getElem?_map] at this
  cases ek : kvs[i]? with
  | none => rw [ek] at e3; cases e3
  | some kv =>
    rw [ek] at e3 e
    cases e3
    cases e
    exact has_key _
end
end DL
namespace DL
open PySem PySem.Spec PyProof.Rows L2

def okMulA (i j : Int) : Bool := okMul i j || ((decide (-(2 ^ 64) < i) && decide (i < 2 ^ 64)) || (decide (-(2 ^ 64) < j) && decide (j < 2 ^ 64)))
def mulID := intD okMulA fun i j => i * j
theorem op_mulA {X : Cx} : OpR X (binaryOp .Mult) (rI (fun i j => CMulW i j ∨ CMul i j) fun i j => .int (i * j)) := fun pins s σ H x y v u Q I rx ry ⟨i, j, hx, hy, hc, q⟩ => by
  rcases hc with h | h
  · exact op_mulW pins s σ H x y v u Q I rx ry ⟨i, j, hx, hy, h, q⟩
  · exact op_mul pins s σ H x y v u Q I rx ry ⟨i, j, hx, hy, h, q⟩
section
variable {X : Cx} {G : Gc} {W : WX} {a b e : Expr} {es : List Expr} {m ma mb : M D} {mc : M Cell} {pos : Pos}
theorem de_mul (ha : DE X G W a ma) (hb : DK X G W b mb) (hk : X.K = G.K := by rfl) : DE X G W (.BinOp a .Mult b pos) (M.bin mulID ma mb) :=
  de_op op_mulA (od_int fun i j h => by
    simp only [okMulA, okMul, Bool.or_eq_true, Bool.and_eq_true, decide_eq_true_eq] at h
    rcases h with h | h
    · exact .inl h
    · exact .inr h) ha hb hk

/-! ### a, b = x, y -/
theorem NewAt.putD {σ : L2.St} {H : Hp} {ρ : Rho} {f : Nat → Addr} {p : Addr} {c : Cell} {i : Nat} {v : V} {d : D} (N : NewAt G σ H ρ f p c) (hi : isInn ρ i = false) (h : Has G.K (fun a => Bad G ρ f a ∨ a = p) H v d) :
    NewAt G (σ.set i (some v)) H (ρ.set i (some (.dat d))) f p c ∧ Ext (fun a => Bad G ρ f a ∨ a = p) H (fun a => Bad G (ρ.set i (some (.dat d))) f a ∨ a = p) H := by
  obtain ⟨R1, x1⟩ := N.rel.putD (i := i) hi (h.ext fun a o hb e => ⟨fun z => hb (.inl z), e⟩)
  obtain ⟨R2, x2⟩ := N.relP.putD (i := i) hi (h.ext fun a o hb e => ⟨fun z => hb (bad_plus.mp z), e⟩)
  have x : Ext (fun a => Bad G ρ f a ∨ a = p) H (fun a => Bad G (ρ.set i (some (.dat d))) f a ∨ a = p) H := fun a o hb e => ⟨fun z => z.elim (x1 a o (fun z => hb (.inl z)) e).1 fun z => hb (.inr z), e⟩
  refine ⟨⟨R1, R2, ⟨N.fr.a, N.fr.h0, fun j b c' e => ?_⟩, N.ok.ext x rfl⟩, x⟩
  rcases get_set e with ⟨_, e2, _⟩ | ⟨_, e2⟩
  · cases e2
  · exact N.fr.m j b c' e2
/-- both data -/
def S.par (i j : Nat) (ma mb : M D) : SS := S.of ma fun x => S.of mb fun y ρ => if isInn ρ i = true ∨ isInn ρ j = true ∨ i = j then none else some (.nx ((ρ.set i (some (.dat x))).set j (some (.dat y))))
/-- the second a new object -/
def S.parDF (i j : Nat) (ma : M D) (mc : M Cell) : SS := S.of ma fun x => S.of mc fun y ρ => if isInn ρ i = true ∨ isInn ρ j = true ∨ i = j then none else some (.nx ((ρ.set i (some (.dat x))).set j (some (.mut true y))))
theorem isInn_set {ρ : Rho} {i j : Nat} {d : D} (h : isInn ρ j = false) : isInn (ρ.set i (some (.dat d))) j = false := by
  unfold isInn at h ⊢
  cases e : (ρ.set i (some (.dat d)))[j]? with
  | none => rfl
  | some s =>
    cases s with
    | none => rfl
    | some s =>
      rcases get_set e with ⟨_, e2, _⟩ | ⟨_, e2⟩
      · cases e2; rfl
      · rw [e2] at h; exact h
variable {x y : Str} {px py pt pt2 : Pos} {kt k2 : Nat}
theorem ds_par (i j : Nat) (hc : X.calm = true) (hN : X.N.Nodup) (ha : DE X G W a ma) (hb : DE X G W b mb) (hi : X.N[i]? = some x := by rfl) (hj : X.N[j]? = some y := by rfl) (hij : i ≠ j := by decide)
    (hx : X.env.scope.names.lookup x = some .local := by rfl) (hy : X.env.scope.names.lookup y = some .local := by rfl) (hs1 : starEach [a, b] X.env = (false, eval a X.env) :: starEach [b] X.env := by rfl) (hs2 : starEach [b] X.env = (false, eval b X.env) :: starEach [] X.env := by rfl)
    (hw : swappedStores [.Tuple [.Name x px, .Name y py] kt pt] (.Tuple [a, b] k2 pt2) X.env = pure (some [x, y]) := by rfl)
    (hs : swapsWithSole [.Tuple [.Name x px, .Name y py] kt pt] (.Tuple [a, b] k2 pt2) pos.line X.env = pure false := by rfl) :
    DS X G W (.Assign [.Tuple [.Name x px, .Name y py] kt pt] (.Tuple [a, b] k2 pt2) pos) (S.par i j ma mb) := by
  refine impS (ps_par hc hN hi hj hij hx hy (pa_cons ha (pa_cons hb pa_nil hs2) hs1) hw hs) ?_
  rintro E σ H ⟨ρ, f, r, R, hm, hp⟩
  show tD G W ma σ H _
  refine tD_of (α := D) R hm hp fun d ρ1 v H1 hk R1 x1 hv => ?_
  refine tD_of (α := D) R1 hk (hp.mono x1) fun d2 ρ2 w H2 hk2 R2 x2 hw => ?_
  split at hk2
  · cases hk2
  · rename_i hn
    cases hk2
    simp only [not_or, Bool.not_eq_true] at hn
    obtain ⟨R3, x3⟩ := R2.putD (i := i) hn.1 (hv.ext x2)
    obtain ⟨R4, x4⟩ := R3.putD (i := j) (isInn_set hn.2.1) (hw.ext x3)
    exact ⟨v, w, rfl, hp _ _ _ R4 (((x1.trans x2).trans x3).trans x4)⟩
theorem ds_parDF (i j : Nat) (hc : X.calm = true) (hN : X.N.Nodup) (ha : DE X G W a ma) (hb : DF X G W b mc) (hi : X.N[i]? = some x := by rfl) (hj : X.N[j]? = some y := by rfl) (hij : i ≠ j := by decide)
    (hx : X.env.scope.names.lookup x = some .local := by rfl) (hy : X.env.scope.names.lookup y = some .local := by rfl) (hs1 : starEach [a, b] X.env = (false, eval a X.env) :: starEach [b] X.env := by rfl) (hs2 : starEach [b] X.env = (false, eval b X.env) :: starEach [] X.env := by rfl)
    (hw : swappedStores [.Tuple [.Name x px, .Name y py] kt pt] (.Tuple [a, b] k2 pt2) X.env = pure (some [x, y]) := by rfl)
    (hs : swapsWithSole [.Tuple [.Name x px, .Name y py] kt pt] (.Tuple [a, b] k2 pt2) pos.line X.env = pure false := by rfl) :
    DS X G W (.Assign [.Tuple [.Name x px, .Name y py] kt pt] (.Tuple [a, b] k2 pt2) pos) (S.parDF i j ma mc) := by
  refine impS (ps_par hc hN hi hj hij hx hy (pa_cons ha (pa_cons hb pa_nil hs2) hs1) hw hs) ?_
  rintro E σ H ⟨ρ, f, r, R, hm, hp⟩
  show tD G W ma σ H _
  refine tD_of (α := D) R hm hp fun d ρ1 v H1 hk R1 x1 hv => ?_
  refine tF_of R1 hk (hp.mono x1) fun c ρ2 p H2 hk2 N x2 => ?_
  split at hk2
  · cases hk2
  · rename_i hn
    cases hk2
    simp only [not_or, Bool.not_eq_true] at hn
    obtain ⟨N3, x3⟩ := N.putD (i := i) hn.1 (hv.ext x2)
    obtain ⟨f', R4, sub⟩ := N3.put (i := j) (isInn_set hn.2.1)
    refine ⟨v, .ref p, rfl, hp _ _ f' R4 fun a o hb e => ?_⟩
    obtain ⟨g1, g2⟩ := x1 a o hb e
    obtain ⟨g3, g4⟩ := x2 a o g1 g2
    exact ⟨fun z => (x3 a o g3 g4).1 (sub a z), g4⟩

theorem NewAt.same {σ : L2.St} {H H' : Hp} {ρ : Rho} {f : Nat → Addr} {p : Addr} {c : Cell} (N : NewAt G σ H ρ f p c) (s : Same H H') : NewAt G σ H' ρ f p c :=
  ⟨N.rel.same s, N.relP.same s, N.fr, N.ok.ext (Ext.same s) (by
    obtain ⟨o, e⟩ := N.ok.at
    rw [e]
    exact s _ _ e)⟩
/-- .. where a name is a cell: by way of the tuple -/
theorem ds_parDFc (i j : Nat) (hc : X.calm = true) (hN : X.N.Nodup) (ha : DE X G W a ma) (hb : DF X G W b mc) (hi : X.N[i]? = some x := by rfl) (hj : X.N[j]? = some y := by rfl)
    (hx : Loc X.env.scope x := by first | exact Or.inl rfl | exact Or.inr rfl) (hy : Loc X.env.scope y := by first | exact Or.inl rfl | exact Or.inr rfl)
    (hfx : X.fn x = true ∨ X.env.scope.names.lookup x = some .local := by first | exact .inl rfl | exact .inr rfl) (hfy : X.fn y = true ∨ X.env.scope.names.lookup y = some .local := by first | exact .inl rfl | exact .inr rfl)
    (hs1 : starEach [a, b] X.env = (false, eval a X.env) :: starEach [b] X.env := by rfl) (hs2 : starEach [b] X.env = (false, eval b X.env) :: starEach [] X.env := by rfl)
    (hs : swapsWithSole [.Tuple [.Name x px, .Name y py] kt pt] (.Tuple [a, b] k2 pt2) pos.line X.env = pure false := by rfl) (hw : swappedStores [.Tuple [.Name x px, .Name y py] kt pt] (.Tuple [a, b] k2 pt2) X.env = pure none := by rfl)
    (h1 : (assignEach [.Tuple [.Name x px, .Name y py] kt pt] X.env).map (·.2) = [assign (.Tuple [.Name x px, .Name y py] kt pt) X.env] := by rfl)
    (g1 : (assignEach [.Name x px, .Name y py] X.env).map (·.2) = assign (.Name x px) X.env :: (assignEach [.Name y py] X.env).map (·.2) := by rfl) (g2 : (assignEach [.Name y py] X.env).map (·.2) = assign (.Name y py) X.env :: (assignEach [] X.env).map (·.2) := by rfl)
    (hn : (assignEach [.Name x px, .Name y py] X.env).length = 2 := by rfl) (hst : (assignEach [.Name x px, .Name y py] X.env).findIdx? (·.1) = none := by rfl) :
    DS X G W (.Assign [.Tuple [.Name x px, .Name y py] kt pt] (.Tuple [a, b] k2 pt2) pos) (S.parDF i j ma mc) := by
  refine impS (ps_asg (pe_tup (pa_cons ha (pa_cons hb pa_nil hs2) hs1)) (pg_tup hc (pgs_cons (pg_name hN hi hx hfx) (pgs_cons (pg_name hN hj hy hfy) pgs_nil g2) g1) hn hst) hs hw h1) ?_
  rintro E σ H ⟨ρ, f, r, R, hm, hp⟩
  show tD G W ma σ H _
  refine tD_of (α := D) R hm hp fun d ρ1 v H1 hk R1 x1 hv => ?_
  refine tF_of R1 hk (hp.mono x1) fun c ρ2 p H2 hk2 N x2 => ?_
  split at hk2
  · cases hk2
  · rename_i hn
    cases hk2
    simp only [not_or, Bool.not_eq_true] at hn
    refine ⟨by show 2 ≤ sizeLine; decide, fun q hq => ?_⟩
    have s3 : Same H2 (L2.upd H2 q (.tup [v, .ref p])) := same_upd hq
    have N2 := N.same s3
    obtain ⟨N3, x3⟩ := N2.putD (i := i) hn.1 ((hv.ext x2).same s3)
    obtain ⟨f', R4, sub⟩ := N3.put (i := j) (isInn_set hn.2.1)
    refine ⟨q, [v, .ref p], rfl, .inl (.inl upd_same), rfl, v, [.ref p], rfl, .ref p, [], rfl, rfl, hp _ _ f' R4 fun a o hb e => ?_⟩
    obtain ⟨g1, g2⟩ := x1 a o hb e
    obtain ⟨g3, g4⟩ := x2 a o g1 g2
    exact ⟨fun z => (x3 a o g3 (s3 _ _ g4)).1 (sub a z), s3 _ _ g4⟩

/-! ### x op= e, ints -/
def S.aug (g : D → D → Option D) (i : Nat) (m : M D) : SS := fun ρ => match ρ[i]? with
  | some (some (.dat d)) => S.of m (fun e ρ' => if isInn ρ' i = true then none else match g d e with
    | some z => some (.nx (ρ'.set i (some (.dat z))))
    | none => none) ρ
  | _ => none
theorem ds_aug {op : Operator} {r : R2} {g : D → D → Option D} {pos' : Pos} (i : Nat) (hN : X.N.Nodup) (ho : OpR X (inplaceOp op) r) (hg : OpD X.K r g) (he : DE X G W e m) (hi : X.N[i]? = some x := by rfl) (hx : Loc X.env.scope x := by first | exact Or.inl rfl | exact Or.inr rfl)
    (hf : X.fn x = true ∨ X.env.scope.names.lookup x = some .local := by first | exact .inl rfl | exact .inr rfl | assumption) (hk : X.K = G.K := by rfl) : DS X G W (.AugAssign (.Name x pos') op e pos) (S.aug g i m) := by
  refine impS (ps_aug (ti := r) hN hi hx he (fun pins s σ H x y v u Q I rx ry q => ho pins s σ H x y v u Q I rx ry q) hf) ?_
  rintro E σ H ⟨ρ, f, s, R, hm, hp⟩
  unfold S.aug at hm
  split at hm
  · rename_i d ed
    obtain ⟨v, ev, hv⟩ := R.sl i _ ed
    refine ⟨v, ev, tD_of (α := D) R hm hp fun d2 ρ1 w H1 hk1 R1 x1 hw => ?_⟩
    split at hk1
    · cases hk1
    · rename_i hn
      split at hk1
      · rename_i z ez
        cases hk1
        rw [hk] at hg
        refine hg (Bad G ρ1 f) H1 v w d d2 z _ (fun p h => R1.free h) (.inl (Has.ext x1 hv)) (.inl hw) ez fun u H2 s2 hu => ?_
        obtain ⟨R3, x3⟩ := (R1.same s2).putD (i := i) (by simpa using hn) hu
        exact hp _ _ f R3 ((x1.trans (Ext.same s2)).trans x3)
      · cases hk1
  · cases hm
/-! ### x[e], x a list that is changed -/
def M.ixV (i : Nat) (m : M D) : M D := fun ρ => match mutL ρ i with
  | none => none
  | some _ => M.bind m (fun k ρ' => match mutL ρ' i with
    | some (_, ds) => M.lift (ixD (.list ds) k) ρ'
    | none => none) ρ
theorem de_ixV {x : Str} {px : Pos} (i : Nat) (hb : DE X G W b mb) (hN : X.N[i]? = some x := by rfl) (hv : Vis X.env.scope x := by first | exact Or.inl rfl | exact Or.inr (Or.inl rfl) | exact Or.inr (Or.inr rfl)) (hd : (x == ("__debug__" : Str)) = false := by decide)
    (hcd : (x == ("__classdict__" : Str)) = false := by decide) (hs : PlainIx b := by exact fun _ _ => rfl) (hk : X.K = G.K := by rfl) : DE X G W (.Subscript (.Name x px) b pos) (M.ixV i mb) := by
  refine imp (pe_ix ix_seq (pv i hN hv hd hcd) hb hs) ?_
  rintro σ H Q ⟨ρ, f, r, R, hm, hp⟩
  unfold M.ixV at hm
  cases e0 : mutL ρ i with
  | none => rw [e0] at hm; cases hm
  | some bd =>
    rw [e0] at hm
    dsimp only at hm
    obtain ⟨b0, ds0⟩ := bd
    obtain ⟨e1, _⟩ := R.mutLst e0
    refine ⟨_, e1, tD_bind R hm (xok hp) fun d ρ1 v H1 hk1 R1 x1 hv => ?_⟩
    cases e2 : mutL ρ1 i with
    | none => rw [e2] at hk1; cases hk1
    | some bd =>
      obtain ⟨b1, ds⟩ := bd
      rw [e2] at hk1
      obtain ⟨z, ez, er⟩ := lift_inv hk1
      subst er
      have e3 := mutL_inv e2
      rw [hk]
      exact od_ix (Bad G ρ1 f) H1 (.ref (f i)) v (.list ds) d z Q (fun p h => R1.free h) (.inr ⟨f i, .lst ds, rfl, (R1.mutAt e3).2, rfl⟩) (.inl hv) ez fun w H2 s2 hw => hp w H2 (R1.same s2) (x1.trans (Ext.same s2)) hw
/-! ### an object is data from now on -/
def frzR (ρ : Rho) (i : Nat) : Rho := match ρ[i]? with
  | some (some (.mut true c)) => ρ.set i (some (.dat (cellD c)))
  | _ => ρ
def S.frz (i : Nat) : SS := fun ρ => some (.nx (frzR ρ i))
theorem Rel.frz {σ : L2.St} {H : Hp} {ρ : Rho} {f : Nat → Addr} (R : Rel G σ H ρ f) (i : Nat) : Rel G σ H (frzR ρ i) f ∧ Ext (Bad G ρ f) H (Bad G (frzR ρ i) f) H := by
  unfold frzR
  split
  · rename_i c e
    obtain ⟨R', x, _⟩ := R.freeze e
    exact ⟨R', x⟩
  · exact ⟨R, Ext.refl _ _⟩
theorem ds_frz {st : Stmt} {n : SS} (i : Nat) (h : DS X G W st n) : DS X G W st (S.seq n (S.frz i)) := impS h fun E σ H ⟨ρ, f, r, R, hm, hp⟩ => by
  unfold S.seq at hm
  cases e : n ρ with
  | none => rw [e] at hm; cases hm
  | some q =>
    rw [e] at hm
    refine ⟨ρ, f, q, R, e, ?_⟩
    cases q with
    | nx ρ1 =>
      cases hm
      intro σ' H' f' R' x'
      obtain ⟨R2, x2⟩ := R'.frz i
      exact hp σ' H' f' R2 (x'.trans x2)
    | ret d ρ1 => cases hm; exact hp
    | retF d ρ1 => cases hm; exact hp
    | brk ρ1 => cases hm; exact hp
    | ct ρ1 => cases hm; exact hp
    | exc c ρ1 => cases hm; exact hp
end
end DL
namespace DL
open PySem PySem.Spec PyProof.Rows L2
/-! ### a, b, .. = xs, xs a list that is changed -/
def S.unpL (i n : Nat) (g : List D → Rho → Option Rho) : SS := fun ρ => match mutL ρ i with
  | some (_, ds) => if ds.length = n then match g ds ρ with
    | some ρ' => some (.nx ρ')
    | none => none else none
  | none => none
section
variable {X : Cx} {G : Gc} {W : WX} {es : List Expr} {pos pt px : Pos} {gr : List D → Rho → Option Rho} {kk l : Nat} {x : Str}
theorem ds_unpL (i : Nat) (hc : X.calm = true) (h : DGs X G es gr) (hN : X.N[i]? = some x := by rfl) (hv : Vis X.env.scope x := by first | exact Or.inl rfl | exact Or.inr (Or.inl rfl) | exact Or.inr (Or.inr rfl)) (hd : (x == ("__debug__" : Str)) = false := by decide)
    (hcd : (x == ("__classdict__" : Str)) = false := by decide) (hn : (assignEach es X.env).length = l := by rfl) (hst : (assignEach es X.env).findIdx? (·.1) = none := by rfl) (hk : X.K = G.K := by rfl)
    (hs : swapsWithSole [.Tuple es kk pt] (.Name x px) pos.line X.env = pure false := by rfl) (hw : swappedStores [.Tuple es kk pt] (.Name x px) X.env = pure none := by rfl)
    (h1 : (assignEach [.Tuple es kk pt] X.env).map (·.2) = [assign (.Tuple es kk pt) X.env] := by rfl) : DS X G W (.Assign [.Tuple es kk pt] (.Name x px) pos) (S.unpL i l gr) := by
  refine impS (ps_asg (pv i hN hv hd hcd) (pg_unl hc h hn hst) hs hw h1) ?_
  rintro E σ H ⟨ρ, f, r, R, hm, hp⟩
  unfold S.unpL at hm
  cases e0 : mutL ρ i with
  | none => rw [e0] at hm; cases hm
  | some bd =>
    obtain ⟨b, ds⟩ := bd
    rw [e0] at hm
    dsimp only at hm
    obtain ⟨e1, vs, e2, hv2⟩ := R.mutLst e0
    split at hm
    · rename_i hl
      cases e : gr ds ρ with
      | none => rw [e] at hm; cases hm
      | some ρ2 =>
        rw [e] at hm
        cases hm
        refine ⟨_, e1, f i, vs, rfl, .inl (.inl e2), by rw [hv2.length]; exact hl, ρ, f, ds, ρ2, R, hv2, e, fun σ' f' R' x' => hp σ' H f' R' x'⟩
    · cases hm
end
end DL
namespace DL
open PySem PySem.Spec PyProof.Rows L2
/-! ### raise X('..') -/
theorem takes00 {X : Cx} : L2N.Takes X (fun _ _ _ _ => False) := fun u s' ⟨_, _, _, _, _, _, _, _, _, _, _, _, _, _, _, _, w⟩ => False.elim w
def S.raise (c : Str) : SS := fun ρ => some (.exc c ρ)
section
variable {X : Cx} {G : Gc} {W : WX} {x m : Str} {C : Addr} {bmB : List Value} {B newId initId : String} {j : Nat} {p p2 pos pos' : Pos}
theorem ds_raise (hc : X.calm = true) (tk : L2N.Takes X W) (F : ExcBaseFacts B newId initId bmB) (q : PySem.W.excIn X.K C bmB newId = true) (gC : X.mg x = some (.ref C)) (kC : PySem.W.keepIn X.K (.ref C) = true)
    (b : PySem.W.subIn X.K (.ref C) (.type "BaseException") = some true) (t : PySem.W.typeIn X.K (.ref C) = some (.type "type")) (hg : Gl X x := by rfl) (hdb : (x == ("__debug__" : Str)) = false := by decide) (hm : X.mg = G.mg := by rfl) :
    DS X G W (.Raise (some (.Call (.Name x p) [.Constant (.str m) j p2] [] pos)) none pos') (S.raise x) := by
  refine impS (L2N.ps_raise hc tk (L2N.pmk_own F q gC kC (raises_own b t) hg hdb)) ?_
  rintro E σ H ⟨ρ, f, r, R, hm', hp⟩
  cases hm'
  exact hp (.ref C) σ H f (hm ▸ gC) R
/-- a class of errors of the module, over ValueError -/
def ExC (K : PySem.W.Frag) (mg : Str → Option Value) (x : Str) : Prop := ∃ C : Addr, PySem.W.excIn K C [.type "ValueError", .type "Exception", .type "BaseException", .type "object"] "ValueError.__new__" = true ∧ mg x = some (.ref C) ∧ PySem.W.keepIn K (.ref C) = true ∧
  PySem.W.subIn K (.ref C) (.type "BaseException") = some true ∧ PySem.W.typeIn K (.ref C) = some (.type "type")
theorem ds_raiseC (hc : X.calm = true) (tk : L2N.Takes X W) (e : ExC X.K X.mg x) (hg : Gl X x := by rfl) (hdb : (x == ("__debug__" : Str)) = false := by decide) (hm : X.mg = G.mg := by rfl) :
    DS X G W (.Raise (some (.Call (.Name x p) [.Constant (.str m) j p2] [] pos)) none pos') (S.raise x) := by
  obtain ⟨C, q, gC, kC, b, t⟩ := e
  exact ds_raise hc tk PySem.F.excBase_ValueError q gC kC b t hg hdb hm
end
end DL
namespace DL
open PySem PySem.Spec PyProof.Rows L2 RT
/-! ### list(reversed(xs)) -/
section
variable {prog : Program} {w : World} {A : Around} {E : Value → Shared → Prop} {s : Shared}
theorem list_init_rev {R : Result → Shared → Prop} {it l S : Addr} {items : Array Value} (hh : A.handled = none) (hit : s.heap.IsRevIter it l ((items.size : Int) - 1)) (hl : s.heap.IsList l items) (hne : l ≠ it) (hn : items.size ≤ sizeLine) (hSi : S ≠ it) (hSl : S ≠ l)
    (hS : s.heap.get? S = some { cls := .type "list", data := .seq #[] })
    (hR : ∀ (h' : Heap) (tk : Nat) (acc : Array Value) (c : Nat), (∀ b o, b ≠ S → b ≠ it → s.heap.get? b = some o → h'.get? b = some o) → h'.get? S = some { cls := .type "list", dict := none, data := .seq acc c, slots := #[] } → ItemsOf (fun i v => items[items.size - 1 - i]? = some v) acc items.size → R (.ok (.ret .none)) { s with heap := h', toks := tk }) :
    wpAny (model prog w) A.in1 (Builtin.«list.__init__» ⟨[.ref S, .ref it], []⟩)
      (fun fin s' => match fin with | .done f => R (.ok f) s' | .again c' => c'.quiet = true ∧ codeAny (model prog w) A c' R s') (fun e s' => R (.error e) s') s := by
  have W := (Walks.listRev (prog := prog) (w := w) (A := A.in1) hh it l hne items).toS
  have hSf : S ∉ [it, l] := by simp only [List.mem_cons, List.not_mem_nil, or_false, not_or]; exact ⟨hSi, hSl⟩
  show wpAny _ A.in1 (do let old ← Builtin.List.listItems (.ref S); Builtin.List.listUpdate (.ref S) (fun _ => #[]); letGo old.toList.reverse; Builtin.List.listExtendWith (.ref S) (.ref it) .none) _ _ s
  refine wpAny_bind ?_
  unfold Builtin.List.listItems
  refine wpAny_bind (wpAny_seqItems hS rfl (wpAny_pure ?_))
  show wpAny _ A.in1 (updateSeq S (fun _ => #[]) >>= fun _ => letGo (#[] : Array Value).toList.reverse >>= fun _ => Builtin.List.listExtendWith (.ref S) (.ref it) .none) _ _ s
  refine wpAny_bind (wpAny_updateSeq hS rfl ?_)
  have hS₂ := Heap.get?_update_self (Obj.mapSeq (fun _ => (#[] : Array Value))) hS rfl
  have oth : ∀ b o, b ≠ S → s.heap.get? b = some o → (s.heap.update S (Obj.mapSeq (fun _ => (#[] : Array Value)))).get? b = some o :=
    fun b o hb e => (Heap.get?_update_other _ _ (Ne.symm hb)).trans e
  refine wpAny_bind (wpAny_letGo ?_)
  generalize hh2 : s.heap.update S (Obj.mapSeq (fun _ => (#[] : Array Value))) = h2 at hS₂ oth ⊢
  have hit1 : h2.IsRevIter it l ((items.size : Int) - 1) := hit.at fun o e => oth it o (Ne.symm hSi) e
  have hl1 : h2.IsList l items := by
    obtain ⟨ol, hol, r⟩ := hl
    exact ⟨ol, oth l ol (Ne.symm hSl) hol, r⟩
  have hT : ({ s with heap := h2 } : Shared).TypeIs (.ref it) "list_reverseiterator" := Heap.IsRevIter.typeIs (s := { s with heap := h2 }) hit1
  have h1 : Builtin.List.listSameRef (.ref S) (.ref it) = false := by simp [Builtin.List.listSameRef, hSi]
  unfold Builtin.List.listExtendWith
  refine wpAny_bind (wpAny_typeOf hT ?_)
  rw [if_neg (by rw [h1]; decide)]
  refine wpAny_bind (wpAny_pyIter_revIter (s := { s with heap := h2 }) hit1 ?_)
  refine wpAny_bind (wpAny_holding ?_)
  unfold Builtin.List.listLengthHint
  refine wpAny_bind (wpAny_specialOf hT nolen_lri ?_)
  show wpAny _ A.in1 (specialOf (Value.ref it) (Str.ofString "__length_hint__") >>= _) _ _ _
  refine wpAny_bind (wpAny_specialOf hT hint_lri ?_)
  generalize hid : ("list_reverseiterator.__length_hint__" : String) = id0
  wp_delta
  rw [show splitId id0 = some ("list_reverseiterator", "__length_hint__") from by subst hid; decide +kernel]
  subst hid
  refine wpAny_bind (wpAny_isInstance (b := true) hT (by rw [isSubtype_type]; kernel_rfl) ?_)
  refine wpAny_pure ?_
  rw [if_neg (by decide)]
  have e0 : ((items.size : Nat) : Int) - 1 - ((0 : Nat) : Int) = (items.size : Int) - 1 := by omega
  refine wpAny_pure ⟨plainId_quiet F.plain_extend_loop _, codeAny_extend_loopS W hn _ hSf _ items.size 0 _ _ _ rfl (Nat.zero_le _) ⟨Nat.zero_le _, by rw [e0]; exact hit1, hl1⟩ hS₂ (ItemsOf.nil _) fun s' acc' c' hm hS' hacc => ?_⟩
  rw [Moved.eq_with hm]
  refine hR s'.heap s'.toks acc' c' (fun b o hb hb2 e => hm.heap b o (fun hmem => ?_) (oth b o hb e)) hS' hacc
  rcases List.mem_cons.mp hmem with e' | hmem
  · exact hb e'
  · exact hb2 (List.mem_singleton.mp hmem)
theorem call_list_rev {it l : Addr} {items : Array Value} {Q : Value → Shared → Prop} (hh : A.handled = none) (hit : s.heap.IsRevIter it l ((items.size : Int) - 1)) (hl : s.heap.IsList l items) (hne : l ≠ it) (hn : items.size ≤ sizeLine)
    (hQ : ∀ (h' : Heap) (tk : Nat) (acc : Array Value) (c : Nat), (∀ b o, b ≠ it → s.heap.get? b = some o → h'.get? b = some o) → h'.get? s.heap.objs.size = some { cls := .type "list", dict := none, data := .seq acc c, slots := #[] } → ItemsOf (fun i v => items[items.size - 1 - i]? = some v) acc items.size →
      Q (.ref s.heap.objs.size) { s with heap := h', toks := tk }) :
    wpAny (model prog w) A (call (.type "list") [.ref it]) Q E s := by
  obtain ⟨oi, hoi, _⟩ := id hit
  obtain ⟨ol, hol, _⟩ := id hl
  refine callType_codes (Q₁ := fun obj s₁ => obj = .ref s.heap.objs.size ∧ s₁ = { s with heap := s.heap.push { cls := .type "list", data := .seq #[] } }) F.called_list (F.typeCall_list_1 _) F.entry_list_init
    (code_list_new _ ⟨rfl, rfl⟩) fun obj s₁ h₁ => ?_
  obtain ⟨rfl, rfl⟩ := h₁
  have hS : (s.heap.push { cls := .type "list", data := .seq #[] }).get? s.heap.objs.size = some { cls := .type "list", data := .seq #[] } := Heap.get?_push_size _ rfl
  refine ⟨⟨_, hS, rfl⟩, F.args_list_init_2 _ _, list_init_rev (A := A.in1) hh (s := { s with heap := s.heap.push { cls := .type "list", data := .seq #[] } }) (hit.at fun o e => Heap.get?_push_of_some _ e) (hl.push _) hne hn (Nat.ne_of_gt (Heap.lt_size hoi)) (Nat.ne_of_gt (Heap.lt_size hol)) hS fun h' tk acc c hk hS' hacc => ?_⟩
  exact ⟨rfl, hQ h' tk acc c (fun b o hb e => hk b o (Nat.ne_of_lt (Heap.lt_size e)) hb (Heap.get?_push_of_some _ e)) hS' hacc⟩
end
def rRev (K : PySem.W.Frag) : V → Hp → VK → Prop := fun v H1 Q => ∃ (a : Addr) (xs : List V), v = .ref a ∧ SqL K H1 a xs ∧ ∀ q, H1 q = none → Q (.ref q) (upd H1 q (.lst xs.reverse))
section
variable {X : Cx} {G : Gc} {W : WX} {e : Expr} {m : M D}
theorem pe_listRev {te : TE} {p p2 pos pos2 : Pos} (hc : X.calm = true) (hg : Gl X "list") (hm : X.mg "list" = none) (hg2 : Gl X "reversed") (hm2 : X.mg "reversed" = none) (he : PE X e te)
    (hs : starEach [e] X.env = (false, eval e X.env) :: starEach [] X.env := by rfl)
    (hs2 : starEach [.Call (.Name "reversed" p2) [e] [] pos2] X.env = (false, eval (.Call (.Name "reversed" p2) [e] [] pos2) X.env) :: starEach [] X.env := by rfl) :
    PE X (.Call (.Name "list" p) [.Call (.Name "reversed" p2) [e] [] pos2] [] pos) (fun σ H Q => te σ H fun v H1 => rRev X.K v H1 Q) := by
  refine ⟨fun pins s σ H Q I h => ?_⟩
  refine Call_ (ld_blt I hg hm boot_list (PyProof.Rows.callWith_type1 (args_cons (Call_ (ld_blt I hg2 hm2 PyProof.Rows.boot_reversed (PyProof.Rows.callWith_type1 (args_cons (thn (he.run pins s σ H _ I h) fun u s1 ⟨v, H1, I1, r1, q1⟩ => args_nil ?_) hs) hs rfl))) hs2) hs2 rfl))
  obtain ⟨a, xs, ev, hq, q⟩ := q1
  subst ev
  obtain rfl : u = Value.ref a := r1
  obtain ⟨its, rv, p', hz⟩ := I1.list hq
  refine call_reversed_list p'.isList (args_nil ?_)
  have k0 : ∀ b o, s1.heap.get? b = some o → (s1.heap.push (revObj a ((its.toArray.size : Int) - 1))).get? b = some o := fun b o e => Heap.get?_push_of_some _ e
  have hl := p'.isList
  obtain ⟨ol, hol, _⟩ := id hl
  have hne : a ≠ s1.heap.objs.size := Nat.ne_of_lt (Heap.lt_size hol)
  have hn : its.toArray.size ≤ sizeLine := by rw [List.size_toArray, ← rv.length]; exact hz
  have hz2 : s1.heap.objs.size ≤ (s1.heap.push (revObj a ((its.toArray.size : Int) - 1))).objs.size := by rw [Heap.size_push]; exact Nat.le_succ _
  generalize hh2 : s1.heap.push (revObj a ((its.toArray.size : Int) - 1)) = h2 at k0 hz2
  have hit2 : h2.IsRevIter s1.heap.objs.size a ((its.toArray.size : Int) - 1) := by rw [← hh2]; exact ⟨_, Heap.get?_push_size _ rfl, rfl, rfl⟩
  have hl2 : h2.IsList a its.toArray := by rw [← hh2]; exact hl.push _
  refine call_list_rev (s := { s1 with heap := h2 }) (I1.ok.hd hc) hit2 hl2 hne hn fun h' tk acc c hk hS hi => ?_
  refine ⟨.ref h2.objs.size, upd H1 h2.objs.size (.lst xs.reverse), I1.laid (t' := tk) (fun b u e => hk b u (Nat.ne_of_lt (Heap.lt_size e)) (k0 b u e)) hz2 (show ObjOk X.prog X.w _ _ _ (.lst xs.reverse) from ⟨by rw [List.length_reverse]; exact hz, acc.toList, c, vals_rev rv hi, ?_⟩), rfl, q _ (I1.hok.fresh hz2)⟩
  rw [Array.toArray_toList]
  exact hS
def revF : D → Option Cell
  | .list xs => some (.lst xs.reverse)
  | _ => none
theorem uf_rev {K : PySem.W.Frag} : UnF K (rRev K) revF := by
  intro B H x d z Q hf hx hg hq
  cases d <;> cases hg
  obtain ⟨a, vs, rfl, h1, h2, h3⟩ := hx.lst
  exact ⟨a, vs, rfl, h2, fun p hp => hq p _ (same_upd hp) hp ⟨_, upd_same, h3.reverse.toF hp⟩⟩
theorem df_listRev {p p2 pos pos2 : Pos} (hc : X.calm = true) (hm : X.mg "list" = none) (hm2 : X.mg "reversed" = none) (he : DK X G W e m) (hg : Gl X "list" := by rfl) (hg2 : Gl X "reversed" := by rfl)
    (hs : starEach [e] X.env = (false, eval e X.env) :: starEach [] X.env := by rfl)
    (hs2 : starEach [.Call (.Name "reversed" p2) [e] [] pos2] X.env = (false, eval (.Call (.Name "reversed" p2) [e] [] pos2) X.env) :: starEach [] X.env := by rfl) (hk : X.K = G.K := by rfl) :
    DF X G W (.Call (.Name "list" p) [.Call (.Name "reversed" p2) [e] [] pos2] [] pos) (M.unF revF m) :=
  imp (pe_listRev hc hg hm hg2 hm2 he hs hs2) (unF_imp hk uf_rev)
end
end DL
namespace DL
open PySem PySem.Spec PyProof.Rows L2
/-! ### x *= e, x //= e, x %= e on ints -/
def okMulS (i j : Int) : Bool := (decide (-(2 ^ 64) < i) && decide (i < 2 ^ 64)) || (decide (-(2 ^ 64) < j) && decide (j < 2 ^ 64))
def mulS := intD okMulS fun i j => i * j
section
variable {X : Cx} {G : Gc} {W : WX} {a b e : Expr} {es : List Expr} {m ma mb : M D} {pos p : Pos} {x : Str}
theorem od_mod {K : PySem.W.Frag} : OpD K (rI (fun _ j => 0 < j) fun i j => .int (i % j)) modD := od_int fun i j h => by simpa [okMod] using h
theorem od_mulS {K : PySem.W.Frag} : OpD K (rI CMul fun i j => .int (i * j)) mulS := od_int fun i j h => by simpa [okMulS, CMul] using h
theorem od_fdivW {K : PySem.W.Frag} : OpD K (rI CDivW fun i j => .int (i / j)) fdivD := od_int fun i j h => by simpa [okDiv, CDivW] using h
/-! ### gcd -/
def gcdD : D → D → Option D
  | .int i, .int j => some (.int ((Nat.gcd i.natAbs j.natAbs : Nat) : Int))
  | _, _ => none
theorem cb_gcd : CallR X (.builtin "math.gcd") (rB2 X.K gcdD) := by
  rintro pins s σ H xs us Q I r ⟨B, x, y, d, e, z, hf, rfl, hx, hy, hg, q⟩
  cases d <;> cases e <;> cases hg
  exact cr_gcd pins s σ H _ us Q I r ⟨_, _, by rw [hx.int_inv, hy.int], q _ H (Same.refl H) (.int _)⟩
theorem de_gcd (ha : DE X G W a ma) (hb : DK X G W b mb) (hm : X.mg x = some (.builtin "math.gcd")) (hg : Gl X x := by rfl) (hdb : (x == ("__debug__" : Str)) = false := by decide)
    (hs1 : starEach [a, b] X.env = (false, eval a X.env) :: starEach [b] X.env := by rfl) (hs2 : starEach [b] X.env = (false, eval b X.env) :: starEach [] X.env := by rfl) (hpl : (backTo pos (starEach [b] X.env)).any (·.1) = false := by rfl) (hk : X.K = G.K := by rfl) : DE X G W (.Call (.Name x p) [a, b] [] pos) (M.bin gcdD ma mb) :=
  imp (pe_callBfun cb_gcd hg hm (pa_cons ha (pa_cons hb pa_nil hs2) hs1) hdb hs1 hpl) (b2_imp hk)
end
end DL
namespace DL
open PySem PySem.Spec PyProof.Rows L2
/-! ### a def that calls itself, so deep -/
def recF (n N : Nat) (m : Fn → SS) : Nat → Fn
  | 0 => fun _ => none
  | k + 1 => runF n N (m (recF n N m k))
section
variable {P : Program} {w : World} {K : PySem.W.Frag} {mg : Str → Option Value} {base : Heap} {T : Addr → Prop} {CX : CXT}
theorem fnOk_none {k : Nat} {f : Addr} {fd : FuncData} {ps : List Str} : FnOk P w K mg base CX k f fd ps (spF K mg T fun _ => none) :=
  ⟨fun _ _ _ _ ⟨_, _, _, _, _, _, e, _⟩ => (nomatch e), fun _ _ _ _ _ _ _ _ _ _ _ _ _ ⟨_, _, _, _, _, _, e, _⟩ => (nomatch e)⟩
theorem rec_def {x : Str} {f : Addr} {fd : FuncData} {ps : List Str} {k n N : Nat} {m : Fn → SS} (hf : mg x = some (.ref f)) (hk : PySem.W.keepIn K (.ref f) = true) (hb : Binds K fd ps [])
    (step : ∀ (i : Nat) (R : Fn), k ≤ i → Def P w K mg base T i x R → FnOk P w K mg base (L2N.CX P w) (i + 1) f fd ps (spF K mg T (runF n N (m R)))) : ∀ j, Def P w K mg base T (k + j) x (recF n N m j)
  | 0 => ⟨f, fd, ps, fnOk_none, hf, hk, hb⟩
  | j + 1 => ⟨f, fd, ps, step (k + j) _ (Nat.le_add_right _ _) (rec_def hf hk hb step j), hf, hk, hb⟩
end
section
variable {X : Cx} {G : Gc} {W : WX} {e : Expr} {m : M D} {pos : Pos}
/-! ### xs[::-1] -/
theorem df_revL {k : Nat} {p1 p2 p3 : Pos} (he : DK X G W e m) (hk : X.K = G.K := by rfl) : DF X G W (.Subscript e (.Slice none none (some (.UnaryOp .USub (.Constant (.int 1) k p1) p2)) p3) pos) (M.unF revF m) :=
  imp (pe_revL he) (unF_imp hk uf_rev)
end
end DL
namespace DL
open PySem PySem.Spec PyProof.Rows L2 StX
/-! ### *xs among the items of a display -/
def M.star (m : M D) (mr : M (List D)) : M (List D) := m.bind fun d => match d with
  | .list xs => mr.bind fun ys => .ret (xs ++ ys)
  | .tuple xs => mr.bind fun ys => .ret (xs ++ ys)
  | _ => fun _ => none
section
variable {X : Cx} {G : Gc} {W : WX} {e : Expr} {es : List Expr} {m : M D} {mr : M (List D)} {p : Pos}
theorem da_star (ha : DE X G W e m) (hr : DA X G W es mr) (hs : starEach (.Starred e p :: es) X.env = (true, eval e X.env) :: starEach es X.env := by rfl) (hk : X.K = G.K := by rfl) : DA X G W (.Starred e p :: es) (M.star m mr) := by
  refine impA (pa_star ha hr hs) ?_
  rintro σ H Q ⟨ρ, f, r, R, hm, hp⟩
  have hx := xok hp
  refine tD_bind R hm hx fun x ρ1 v H1 hk1 R1 x1 hv => ?_
  cases x <;> try (cases hk1)
  · obtain ⟨a, xs, rfl, h1, s1, h2⟩ := hv.lst_inv
    refine ⟨a, xs, rfl, .inr (hk ▸ s1), tA_bind R1 hk1 hx fun ys ρ2 vs H2 hk2 R2 x2 hvs => ?_⟩
    cases hk2
    exact hp _ _ R2 (x1.trans x2) ((h2.ext x2).append hvs)
  · obtain ⟨a, xs, rfl, h1, s1, h2⟩ := hv.tup_inv
    refine ⟨a, xs, rfl, .inl (hk ▸ s1), tA_bind R1 hk1 hx fun ys ρ2 vs H2 hk2 R2 x2 hvs => ?_⟩
    cases hk2
    exact hp _ _ R2 (x1.trans x2) ((h2.ext x2).append hvs)
end
end DL
namespace DL
open PySem PySem.Spec PyProof.Rows L2 HT
/-! ### xs[::-1], xs a tuple -/
section
variable {prog : Program} {w : World} {A : Around} {E : Value → Shared → Prop} {s : Shared}
theorem adjust_rev (n : Nat) : Builtin.Slice.sliceAdjust none none (-1) (n : Int) = ((n : Int) - 1, -1) := by
  unfold Builtin.Slice.sliceAdjust
  simp
theorem places_rev (n : Nat) : Builtin.Slice.slicePlaces ((n : Int) - 1) (-1) (-1) = n := by
  unfold Builtin.Slice.slicePlaces
  have h1 : ¬ ((-1 : Int) > 0) := by omega
  simp only [h1, if_false, Int.neg_neg, Int.ediv_one]
  split <;> omega
theorem sliceApplied_rev {sl : Addr} {vl vu vs : Value} {n : Nat} {Q : Int × Int × Nat → Shared → Prop} (hs : s.heap.IsSliceOf sl vl vu vs) (pl : IsPart vl none) (pu : IsPart vu none) (ps : IsPart vs (some (-1)))
    (h : Q ((n : Int) - 1, -1, n) s) : wpAny (model prog w) A (Builtin.Slice.sliceApplied (.ref sl) (pure (n : Int))) Q E s := by
  obtain ⟨os, hos, hcs, hds⟩ := id hs
  unfold Builtin.Slice.sliceApplied Builtin.Slice.sliceFields
  refine wpAny_bind (wpAny_bind (wpAny_field hos hds (x := vl) rfl (wpAny_bind (wpAny_field hos hds (x := vu) rfl (wpAny_bind (wpAny_field hos hds (x := vs) rfl (wpAny_pure ?_)))))))
  refine wpAny_bind (slicePart_ ps ?_)
  show wpAny _ _ (if ((-1 : Int) == 0) = true then _ else _) _ _ s
  rw [if_neg (by decide)]
  refine wpAny_bind (slicePart_ pl (wpAny_bind (slicePart_ pu (wpAny_bind (wpAny_pure ?_)))))
  show wpAny _ _ (match Builtin.Slice.sliceAdjust none none (-1) (n : Int) with | (lo, hi) => pure (lo, (-1 : Int), Builtin.Slice.slicePlaces lo hi (-1))) _ _ s
  rw [adjust_rev]
  show wpAny _ _ (pure ((n : Int) - 1, (-1 : Int), Builtin.Slice.slicePlaces ((n : Int) - 1) (-1) (-1))) _ _ s
  rw [places_rev]
  exact wpAny_pure h
theorem fm_congr {α β : Type} {f g : α → Option β} : ∀ {l : List α}, (∀ m ∈ l, f m = g m) → l.filterMap f = l.filterMap g
  | [], _ => rfl
  | x :: l, h => by
    rw [List.filterMap_cons, List.filterMap_cons, h x (by simp), fm_congr (l := l) fun m hm => h m (by simp [hm])]
theorem fm_all {β : Type} (l : List β) : (List.range l.length).filterMap (fun m => l[m]?) = l := by
  induction l with
  | nil => rfl
  | cons x l ih =>
    rw [List.length_cons, List.range_succ_eq_map, List.filterMap_cons]
    show x :: List.filterMap _ (List.map Nat.succ _) = _
    rw [List.filterMap_map]
    exact congrArg (x :: ·) ih
theorem pick_rev (xs : Array Value) : ((List.range xs.size).filterMap fun (m : Nat) => xs[(((xs.size : Int) - 1) + (m : Int) * (-1)).toNat]?) = xs.toList.reverse := by
  have e : ∀ m ∈ List.range xs.size, xs[(((xs.size : Int) - 1) + (m : Int) * (-1)).toNat]? = (xs.toList.reverse)[m]? := fun m hm => by
    have hm := List.mem_range.mp hm
    rw [List.getElem?_reverse (by simpa using hm), Array.getElem?_toList]
    congr 1
    simp only [Array.length_toList]
    omega
  rw [fm_congr e]
  have h := fm_all xs.toList.reverse
  rw [List.length_reverse, Array.length_toList] at h
  exact h
theorem getItem_tuple_rev {t sl : Addr} {items : Array Value} {vl vu vs : Value} {Q : Value → Shared → Prop} (ht : IsTup s.heap t items) (hs : s.heap.IsSliceOf sl vl vu vs) (pl : IsPart vl none) (pu : IsPart vu none) (ps : IsPart vs (some (-1)))
    (h : Q (.ref s.heap.objs.size) { s with heap := s.heap.push { cls := .type "tuple", data := .seq items.toList.reverse.toArray } })
    (hsz : items.size ≤ sizeLine) : wpAny (model prog w) A (getItem (.ref t) (.ref sl)) Q E s := by
  have htake : sizeOk (.seq items.toList.reverse.toArray) := by
    show items.toList.reverse.toArray.size ≤ sizeLine
    rw [List.size_toArray, List.length_reverse, Array.length_toList]
    exact hsz
  obtain ⟨os, hos, hcs, hds⟩ := id hs
  have hTs : s.TypeIs (.ref sl) "slice" := ⟨os, hos, hcs⟩
  unfold getItem
  try with_reducible refine wpAny_holding ?_
  first | refine wpAny_bind (wpAny_pure ?_) | skip
  refine wpAny_bind (wpAny_sequenceKey ht.typeIs (by decide) ?_)
  refine wpAny_bind (wpAny_callSpecial?_slot (name := Str.ofString "__getitem__") ht.typeIs PyProof.Rows.slot_tuple_getitem
    (wpAny_call_entry PyProof.Rows.slot_tuple_getitem ht.typeIs entry_tuple_getitem ?_ (args_tuple_getitem _ _)))
  show wpAny _ _ (Builtin.Tuple.tupleItemsOf (.ref t) >>= _) _ _ s
  refine wpAny_bind (tupleItemsOf_ ht ?_)
  refine wpAny_bind (wpAny_typeOf hTs ?_)
  rw [if_pos (by decide)]
  refine wpAny_bind (sliceApplied_rev hs pl pu ps ?_)
  have hno : ¬ ((((items.size : Int) - 1) == 0 && (-1 : Int) == 1 && items.size == items.size) = true) := by
    intro q
    rw [Bool.and_eq_true, Bool.and_eq_true] at q
    exact absurd q.1.2 (by decide)
  show wpAny _ _ (if (((items.size : Int) - 1) == 0 && (-1 : Int) == 1 && items.size == items.size) = true then _ else _) _ _ s
  rw [if_neg hno, pick_rev]
  first
    | exact wpAny_bind (m := Builtin.Tuple.tupleExact _) (wpAny_newObj_type (wpAny_pure ⟨_, rfl, wpAny_pure h⟩) htake)
    | exact wpAny_bind (m := Builtin.Tuple.tupleExact _) (wpAny_newObj_type (wpAny_bind (wpAny_pure (wpAny_pure ⟨_, rfl, wpAny_pure h⟩))) htake)
    | exact wpAny_bind (wpAny_bind (m := Builtin.Tuple.tupleExact _) (wpAny_newObj_type (wpAny_pure (wpAny_pure ⟨_, rfl, wpAny_pure h⟩)) htake))
    | exact wpAny_bind (wpAny_bind (m := Builtin.Tuple.tupleExact _) (wpAny_newObj_type (wpAny_pure ⟨_, rfl, wpAny_pure h⟩) htake))
end
def rRevT (K : PySem.W.Frag) : V → Hp → VK → Prop := fun v H1 Q => ∃ (a : Addr) (xs : List V), v = .ref a ∧ SqT K H1 a xs ∧ ∀ q, H1 q = none → Q (.ref q) (upd H1 q (.tup xs.reverse))
section
variable {X : Cx} {G : Gc} {W : WX} {e : Expr} {m : M D}
theorem pe_revT {te : TE} {k : Nat} {p1 p2 p3 pos : Pos} (he : PE X e te) : PE X (.Subscript e (.Slice none none (some (.UnaryOp .USub (.Constant (.int 1) k p1) p2)) p3) pos) (fun σ H Q => te σ H fun v H1 => rRevT X.K v H1 Q) := by
  refine ⟨fun pins s σ H Q I h => ?_⟩
  refine Subscript_ (thn (he.run pins s σ H _ I h) fun v s1 ⟨x, H1, I1, r1, q1⟩ => ?_)
  obtain ⟨a, xs, ex, hx, q⟩ := q1
  subst ex
  cases r1
  have hst : PO X (some (.UnaryOp .USub (.Constant (.int 1) k p1) p2)) (tPart (tUn (rU fun i => .int (-i)) (tC (.int 1)))) := po_some (pe_un un_neg pe_int)
  refine wpAny_Slice (thn (po_none.run pins s1 σ H1 (fun o H2 => o = none ∧ H2 = H1) I1 ⟨rfl, rfl⟩) fun vl s2 ⟨l, H2, I2, pl, el, e2⟩ => ?_)
  subst el e2
  refine thn (po_none.run pins s2 σ H2 (fun o H3 => o = none ∧ H3 = H2) I2 ⟨rfl, rfl⟩) fun vu s3 ⟨u, H3, I3, pu, eu, e3⟩ => ?_
  subst eu e3
  refine thn (hst.run pins s3 σ H3 (fun o H4 => o = some (-1) ∧ H4 = H3) I3 ⟨1, rfl, -1, rfl, rfl, rfl⟩) fun vs s4 ⟨o, H4, I4, ps, eo, e4⟩ => ?_
  subst eo e4
  have I5 : Inv X pins σ H4 { s4 with heap := s4.heap.push { cls := .type "slice", data := .fields #[vl, vu, vs] } } := I4.kept (t' := s4.toks) fun b ob q => Heap.get?_push_of_some _ q
  obtain ⟨its, r, ht, hz⟩ := I5.tuple hx
  have hlen := r.length
  show wpAny (model X.prog X.w) X.A (subscriptTail e (.Slice none none (some (.UnaryOp .USub (.Constant (.int 1) k p1) p2)) p3) (.ref a) (.ref s4.heap.objs.size)) (EP X pins σ Q) X.xe { s4 with heap := s4.heap.push { cls := .type "slice", data := .fields #[vl, vu, vs] } }
  refine tail_any (ops := [.ref a, .ref s4.heap.objs.size]) ht.typeIs (PyProof.Rows.slot_tuple_getitem.lookup) ?_ (by with_unfolding_all rfl)
  refine getItem_tuple_rev ht (Heap.IsSliceOf.new _ vl vu vs) pl pu ps ?_ (by rw [List.size_toArray]; omega)
  refine ⟨.ref _, _, I5.laid (t' := s4.toks) (o := .tup xs.reverse) (fun b ob q => Heap.get?_push_of_some _ q) (Nat.le_refl _) ?_, rfl, q _ (I5.hok.fresh (Nat.le_refl _))⟩
  exact ⟨by rw [List.length_reverse]; exact hz, _, r.reverse, IsTup.new _ _⟩
def revD : D → Option D
  | .tuple xs => some (.tuple xs.reverse)
  | _ => none
theorem ud_revT {K : PySem.W.Frag} : UnD K (rRevT K) revD := by
  intro B H x d z Q hf hx hg hq
  cases d <;> cases hg
  obtain ⟨a, vs, rfl, h1, h2, h3⟩ := hx.tup.tup_inv
  exact ⟨a, vs, rfl, h2, fun p hp => hq _ _ (same_upd hp) (.tup (.inl ⟨hf p hp, .inl upd_same⟩) (h3.reverse.same (same_upd hp)))⟩
theorem de_revT {k : Nat} {p1 p2 p3 pos : Pos} (he : DK X G W e m) (hk : X.K = G.K := by rfl) : DE X G W (.Subscript e (.Slice none none (some (.UnaryOp .USub (.Constant (.int 1) k p1) p2)) p3) pos) (M.un revD m) :=
  imp (pe_revT he) (un_imp hk ud_revT)
end
end DL
namespace DL
open PySem PySem.Spec PyProof.Rows L2 L2H HotX

/-! ### walking a list while an exception is handled -/
theorem nextL_end_hot {prog : Program} {w : World} {A : Around} {E : Value → Shared → Prop} {s : Shared} {it l x1 : Addr} {i : Nat} {items : Array Value} {Q : Option Value → Shared → Prop} (hot : HotAt A x1 s.heap)
    (hit : s.heap.IsListIter it l i) (hl : s.heap.IsList l items) (hx : items[i]? = none)
    (hQ : ∀ h', (∀ b o, b ≠ it → s.heap.get? b = some o → h'.get? b = some o) → Q none { s with heap := h' }) : wpAny (model prog w) A (pyNext (.ref it)) Q E s := by
  obtain ⟨oi, hi, hci, hdi⟩ := id hit
  obtain ⟨ol, hol, hcl, nl, hdl⟩ := hl
  obtain ⟨hh, o1, vs1, h1, d1, c1⟩ := hot
  have hne : it ≠ x1 := fun z => by
    rw [← z, hi] at h1
    cases h1
    rw [hdi] at d1
    cases d1
    simp at c1
  unfold pyNext
  refine wpAny_bind (wpAny_attempt (wpAny_callSpecial?_slot (name := Str.ofString "__next__") hit.typeIs slot_listiter_next (wpAny_call_entry slot_listiter_next hit.typeIs entry_listiter_next ?_ (args_listiter_next _))))
  show wpAny _ _ (field (.ref it) 0 >>= _) _ _ s
  refine wpAny_bind (wpAny_field hi hdi (x := .ref l) rfl ?_)
  show wpAny _ _ (if (Value.ref l == Value.none) = true then _ else _) _ _ s
  rw [if_neg (show ¬ ((Value.ref l == Value.none) = true) from Bool.false_ne_true)]
  show wpAny _ _ (field (.ref it) 1 >>= _) _ _ s
  refine wpAny_bind (wpAny_field hi hdi (x := .int i 0) rfl ?_)
  show wpAny _ _ (seqItems? (.ref l) >>= _) _ _ s
  refine wpAny_bind (wpAny_seqItems hol hdl ?_)
  simp only [Int.toNat_natCast, hx]
  refine wpAny_bind (wpAny_rule (wpAny_bind (wpAny_setField hi hdi (by simp) ?_)))
  show wpAny _ _ (newExc (.type "StopIteration") [] >>= _) _ _ _
  refine wpAny_bind ?_
  simp only [newExc, newTuple]
  refine wpAny_bind (wpAny_newObj_type ?_ (by size_fits))
  refine wpAny_bind (m := firstArgMember _ _) (wpAny_of_eq (a := Value.none) (by first | rfl | (simp only [firstArgMember]; rfl)) ?_)
  refine wpAny_newObj_type ?_ (by size_fits)
  have keep : ∀ b o, b ≠ it → s.heap.get? b = some o → (s.heap.update it (Obj.mapFields (·.setIfInBounds 0 .none))).get? b = some o := fun b o hb e => (Heap.get?_update_other _ _ (Ne.symm hb)).trans e
  refine raiseNew_hot ⟨hh, o1, vs1, Heap.get?_push_of_some _ (Heap.get?_push_of_some _ (keep _ _ (Ne.symm hne) h1)), d1, c1⟩ (Nat.ne_of_lt (Heap.lt_size (Heap.get?_push_of_some _ (keep _ _ (Ne.symm hne) h1)))) (Heap.get?_push_size _ rfl) rfl (by first | (simp; done) | (simp; omega) | (simp only [Array.size_append]; simp; omega)) ?_
  refine wpAny_bind (wpAny_isInstance (T := "StopIteration") (b := true) ⟨_, Heap.get?_update_self _ (Heap.get?_push_size _ rfl) rfl, rfl⟩ isSubtype_stop ?_)
  refine wpAny_pure (hQ _ fun b o hb e => ?_)
  rw [Heap.get?_update_other _ _ (Nat.ne_of_gt (Heap.lt_size (Heap.get?_push_of_some _ (keep b o hb e))))]
  exact Heap.get?_push_of_some _ (Heap.get?_push_of_some _ (keep b o hb e))
theorem turnL_hot {P : Program} {w : World} {K : PySem.W.Frag} {tg : Expr} (a it : Addr) : TurnH P w K tg (Itl K a) [it] it (fun i h => h.IsListIter it a i) where
  mem := by simp
  obj := fun i h st b hb => (turn_list (P := P) (w := w) (K := K) (tg := tg) a it).obj i h st b hb
  keep := fun i h h' st k => (turn_list (P := P) (w := w) (K := K) (tg := tg) a it).keep i h h' st k
  item := by
    intro X hP hw hK _ i pins s σ H E I hf st hg
    subst hP hw hK
    obtain ⟨xs, x, hq, hx⟩ := hg
    obtain ⟨its, rv, p, hz⟩ := I.list hq
    obtain ⟨u, hu, ru⟩ := rv.get hx
    obtain ⟨f0, f1, f2, f3, f4, f5⟩ := hf it (by simp)
    refine wpAny_pyNext_list_item st p.isList (x := u) (by simpa using hu) fun h' st' sb => ?_
    have J : Inv X pins σ H { s with heap := h' } := I.turned (t' := s.toks) (fun b o hb e => (sb.2 b hb).trans e) f0 f1 f3 f4 f5
    obtain ⟨o, e, c, d⟩ := id st'
    exact ⟨u, rfl, go_of (s := { s with heap := h' }) e c d (by decide) ⟨x, H, J, ru, ⟨rfl, fun ys hy => by rw [I.list_inj hy hq]; exact hx⟩, st', fun b hb => (hf b hb).1⟩⟩
  done := by
    intro X hP hw hK hc i pins s σ H E I hf st hg
    subst hP hw hK
    obtain ⟨xs, hq, hx⟩ := hg
    obtain ⟨its, rv, p, hz⟩ := I.list hq
    obtain ⟨f0, f1, f2, f3, f4, f5⟩ := hf it (by simp)
    have hl := rv.length
    obtain ⟨x1, hot⟩ := hc.at I
    exact nextL_end_hot hot st p.isList (by simp; omega) fun h' eb => ⟨rfl, I.turned (t' := s.toks) (fun b o hb e => eb b o hb e) f0 f1 f3 f4 f5⟩
  self := fun _ _ _ _ _ st h => wpAny_pyIter_listiter st h
def iLst (K : PySem.W.Frag) (tl : TE) : TI := fun σ H R => tl σ H fun x H1 => ∃ a xs, x = .ref a ∧ SqL K H1 a xs ∧ R (Itl K a) H1
theorem pi_lstH {X : Cx} {tg l : Expr} {tl : TE} (hl : PE X l tl) : PIH X tg l (iLst X.K tl) := by
  refine ⟨fun pins s σ H R I h => ?_⟩
  refine thn (hl.run pins s σ H _ I h) fun v s1 ⟨x, H1, I1, r1, a, xs, e, hq, q⟩ => ?_
  subst e
  cases r1
  obtain ⟨its, rv, p, hz⟩ := I1.list hq
  refine wpAny_pyIter_list p.isList ?_
  refine ⟨s1.heap.objs.size, [s1.heap.objs.size], _, _, H1, rfl, I1.kept (t' := s1.toks) fun b o e => Heap.get?_push_of_some _ e, turnL_hot a _, ⟨_, Heap.get?_push_size _ rfl, rfl, rfl⟩, fun b hb => ?_, q⟩
  have e : b = s1.heap.objs.size := by simpa using hb
  subst e
  exact I1.fpOk (Nat.le_refl _) (I1.hok.fresh (Nat.le_refl _))

/-! ### a list comprehension there -/
/-- the block's context, with the pins -/
abbrev blkH (X : Cx) (s : Shared) (H : Hp) (scope : Scope) (cenv : Env) (fp : List Addr) : Cx := { X.blk s H scope cenv fp with pn := X.pn }
theorem blkH_start {X : Cx} {pins : List (Addr × Obj)} {σ : L2.St} {H : Hp} {s : Shared} {scope : Scope} {own : List (Str × Nat)} {fp : List Addr} (I : Inv X pins σ H s) (ok : BlkOk X.N X.env.scope scope own) (hN : X.N.Nodup) (hfp : ∀ b ∈ fp, FpOk X pins H b ∧ b < s.heap.objs.size) :
    Inv (blkH X s H scope (compEnvC scope (cellsFrom (s.heap.objs.size + 1) scope.names (cloFrom X.env.cells scope.names [])) s.heap.objs.size X.env) fp) [] (wipe σ (own.map (·.2))) H { s with heap := pushCells (s.heap.push { cls := .type "dict", data := .dict #[] }) scope.names } := by
  have J := block_start I ok hN hfp
  have k := J.ok
  refine ⟨⟨k.mod, k.kind, k.glob, k.blt, k.above, k.inj, k.has, k.cab, k.hd, k.frames, k.stk, k.exf, k.bs, k.bsz, k.noex, k.exfs, k.funs, k.frf⟩, J.os, J.bare, J.base, J.loc, J.cell, J.free, J.freeC, fun p hp => ?_, J.hok, J.len⟩
  have hp' : p ∈ X.pn := by
    rcases List.mem_append.mp (show p ∈ X.pn ++ [] from hp) with h | h
    · exact h
    · cases h
  have P := I.pin p (List.mem_append_left _ hp')
  refine ⟨pushCells_keeps _ _ _ _ (Heap.get?_push_of_some _ P.1), P.2.1, ?_, ?_, P.2.2.2.2⟩
  · show p.1 ≠ s.heap.objs.size
    exact Nat.ne_of_lt (Heap.lt_size P.1)
  · intro hm
    rcases List.mem_cons.mp (I.stkSub p.1 hm) with z | z
    · exact P.2.2.1 z
    · exact P.2.2.2.1 z
section
variable {X : Cx}
theorem lcH_core {pins : List (Addr × Obj)} {s : Shared} {σ : L2.St} {H : Hp} {Q : VK} {elt tg iter : Expr} {ifs : List Expr} {scope : Scope} {own : List (Str × Nat)} {pos pos' : Pos} {wi : TI} {g : TG} {tt : TT} {te : TE} {use : Option (Value → Sem Unit)} {Qf : Value → Shared → Prop}
    (hc : HotC X) (hN : X.N.Nodup) (I : Inv X pins σ H s) (hi : PIH X tg iter wi) (ok : BlkOk X.N X.env.scope scope own)
    (hg : ∀ (s : Shared) (H : Hp) (C : Addr) (cl : List (Str × Addr)) (fp : List Addr), PG (blkH X s H scope (compEnvC scope cl C X.env) fp) tg g) (ht : ∀ (s : Shared) (H : Hp) (C : Addr) (cl : List (Str × Addr)) (fp : List Addr), PTs (blkH X s H scope (compEnvC scope cl C X.env) fp) ifs tt)
    (he : ∀ (s : Shared) (H : Hp) (C : Addr) (cl : List (Str × Addr)) (fp : List Addr), PE (blkH X s H scope (compEnvC scope cl C X.env) fp) elt te) (hs : ∀ x, foldedSetIterable iter X.env x = pure x)
    (h : tLc wi g tt te (own.map (·.2)) σ H Q)
    (hRR : ∀ D C s' m H', Inv X pins σ H' s' → Q (.ref D) H' → s'.heap.Ns C m → FpOk X pins H' C → compPost (model X.prog X.w) X.A X.xe use Qf (.ref D) C (.ok .next) s') :
    wpAny (model X.prog X.w) X.A (comprehension (.ListComp elt [⟨tg, iter, ifs, 0⟩] scope pos) scope X.env pos' (newList []) false (eval iter X.env) use) Qf X.xe s := by
  have hfree : ∀ y ∈ scope.names, y.2 = .free → ∃ c, X.env.cells.lookup y.1 = some c := fun y hy e => (ok.free y hy e).elim (fun k => I.ok.has _ (.inl k)) fun k => I.ok.has _ (.inr k)
  refine wpAny_comprehension_free (use := use) rfl hs (closure_ok hfree) ok.kind (fun y hy e => by rw [ok.uniq y hy, e]) (thn (hi.run pins s σ H _ I h) fun xv s1 hx => thn hx fun itv s2 h2 => ?_)
  obtain ⟨it, fp, tn, J, H2, e, I2, T, st2, f2, q⟩ := h2
  subst e
  refine wpAny_newObj_type (newEnv_comp ?_) (by show 0 ≤ sizeLine; decide)
  generalize hD : s2.heap.objs.size = D
  have hDn : H2 D = none := I2.hok.fresh (Nat.le_of_eq hD)
  obtain ⟨W, ⟨m0, w0⟩, turn⟩ := q D hDn
  generalize hs3 : ({ s2 with heap := s2.heap.push { cls := .type "list", data := .seq ([] : List Value).toArray } } : Shared) = s3
  have I3 : Inv X pins σ (upd H2 D (.lst [])) s3 := by
    rw [← hs3]
    refine I2.laid (t' := s2.toks) (fun b o e => Heap.get?_push_of_some _ e) (Nat.le_of_eq hD) ⟨Nat.zero_le _, [], 0, .nil, ?_⟩
    rw [← hD]
    exact Heap.get?_push_size _ rfl
  have h3 : s3.heap = s2.heap.push { cls := .type "list", data := .seq ([] : List Value).toArray } := by rw [← hs3]
  have sz : ∀ b ∈ fp, b < s2.heap.objs.size := fun b hb => let ⟨o, e, _⟩ := T.obj _ _ st2 b hb; Heap.lt_size e
  have f3 : ∀ b ∈ fp, FpOk X pins (upd H2 D (.lst [])) b ∧ b < s3.heap.objs.size := fun b hb => by
    have hlt := sz b hb
    refine ⟨⟨?_, (f2 b hb).2⟩, by rw [h3, Heap.size_push]; exact Nat.lt_succ_of_lt hlt⟩
    rw [upd_ne (by rw [← hD]; exact Nat.ne_of_lt hlt)]
    exact (f2 b hb).1
  have st3 : tn 0 s3.heap := T.keep _ _ _ st2 fun b _ o e => by rw [h3]; exact Heap.get?_push_of_some _ e
  have I4 := blkH_start I3 ok hN f3
  have pg := hg s3 (upd H2 D (.lst [])) s3.heap.objs.size (cellsFrom (s3.heap.objs.size + 1) scope.names (cloFrom X.env.cells scope.names [])) fp
  have pt := ht s3 (upd H2 D (.lst [])) s3.heap.objs.size (cellsFrom (s3.heap.objs.size + 1) scope.names (cloFrom X.env.cells scope.names [])) fp
  have pe := he s3 (upd H2 D (.lst [])) s3.heap.objs.size (cellsFrom (s3.heap.objs.size + 1) scope.names (cloFrom X.env.cells scope.names [])) fp
  show codeAny _ _ (.compStart (.ListComp elt [⟨tg, iter, ifs, 0⟩] scope pos) 0 (.ref it) (.ref D) (compEnvC scope (cellsFrom (s3.heap.objs.size + 1) scope.names (cloFrom X.env.cells scope.names [])) s3.heap.objs.size X.env)) (compPost (model X.prog X.w) X.A X.xe use Qf (.ref D) s3.heap.objs.size) { s3 with heap := pushCells (s3.heap.push { cls := .type "dict", data := .dict #[] }) scope.names }
  have nfp : ∀ b ∈ fp, (upd H2 D (.lst [])) b = none := fun b hb => (f3 b hb).1.1
  have pnf : ∀ b ∈ fp, ∀ p ∈ X.pn, p.1 ≠ b := fun b hb p hp => (f3 b hb).1.2.2.2.2.2 p (List.mem_append_left _ hp)
  generalize hce : compEnvC scope (cellsFrom (s3.heap.objs.size + 1) scope.names (cloFrom X.env.cells scope.names [])) s3.heap.objs.size X.env = ce at I4 pg pt pe ⊢
  have cL : ce.locals = s3.heap.objs.size := by subst hce; rfl
  generalize hH3 : upd H2 D (.lst []) = H3 at I3 I4 pg pt pe w0 nfp f3
  generalize hs4 : ({ s3 with heap := pushCells (s3.heap.push { cls := .type "dict", data := .dict #[] }) scope.names } : Shared) = s4 at I4 ⊢
  have st4 : tn 0 s4.heap := T.keep _ _ _ st3 fun b _ o e => by rw [← hs4]; exact pushCells_keeps _ _ _ _ (Heap.get?_push_of_some _ e)
  have hcB : HotC (blkH X s3 H3 scope ce fp) := hc
  have stat : ∀ {σ' : L2.St} {H' : Hp} {s' : Shared}, Inv (blkH X s3 H3 scope ce fp) [] σ' H' s' → (∀ b ∈ fp, H' b = none) → ∀ b ∈ fp, FpOk (blkH X s3 H3 scope ce fp) [] H' b := fun {σ' H' s'} I' hn b hb =>
    ⟨hn b hb, (I'.ok.exf b hb).1, I'.ok.exfs b hb, .inl hb, fun x c e => (I'.ok.exf b hb).2 x c e, fun p hp => (List.mem_append.mp (show p ∈ X.pn ++ [] from hp)).elim (pnf b hb p) fun z => nomatch z⟩
  have loop : codeAny (model X.prog X.w) X.A (.compLoop (.ListComp elt [⟨tg, iter, ifs, 0⟩] scope pos) 0 (.ref it) (.ref D) ce) (compPost (model X.prog X.w) X.A X.xe use Qf (.ref D) s3.heap.objs.size) s4 := by
    refine compLoop_any (fun n s' => ∃ i H', Inv (blkH X s3 H3 scope ce fp) [] (wipe σ (own.map (·.2))) H' s' ∧ tn i s'.heap ∧ (∀ b ∈ fp, H' b = none) ∧ W i n H') ?_ m0 ⟨0, H3, I4, st4, nfp, w0⟩
    rintro n s5 ⟨i, H5, I5, st5, n5, w5⟩
    rcases turn i n H5 w5 with ⟨stop, qq⟩ | ⟨go, Nx, hNx, step⟩
    · have td := T.done (blkH X s3 H3 scope ce fp) rfl rfl rfl hcB i [] s5 _ H5 (fun _ _ => False) I5 (stat I5 n5) st5 stop
      refine thnF td fun r s6 ⟨hr, I6⟩ => ?_
      subst hr
      have I7 : Inv X pins σ H5 s6 := I3.call' (ch := fp) I6.os I6.base I6.hok I6.bare fun b hb => ⟨(f3 b hb).1.2.2.2.1, (f3 b hb).1.2.1, (f3 b hb).1.2.2.2.2.1, (f3 b hb).1.2.2.2.2.2⟩
      have nC : H5 s3.heap.objs.size = none := by
        have z : H5 ce.locals = none := I6.free
        rw [cL] at z
        exact z
      obtain ⟨m, hn, _⟩ := I6.loc
      have hn : s6.heap.Ns ce.locals m := hn
      rw [cL] at hn
      exact hRR D s3.heap.objs.size s6 m H5 I7 qq hn (I3.fpOk (Nat.le_refl _) nC)
    · have ti := T.item (blkH X s3 H3 scope ce fp) rfl rfl rfl hcB i [] s5 _ H5 (fun _ _ => False) I5 (stat I5 n5) st5 go
      refine thnF ti fun r s6 ⟨u, hr, h6⟩ => ?_
      subst hr
      refine thnF h6 fun _ s7 ⟨x, H7, I7, r7, y7, st7, n7⟩ => ?_
      have I7' := I7.pinned (stat I7 n7) (T.obj _ _ st7)
      refine thnF (pg.run _ s7 _ H7 x u _ I7' r7 (step x H7 y7)) fun _ s8 ⟨σ8, H8, I8, hw8, q8⟩ => ?_
      refine thnF (pt.run _ s8 σ8 H8 _ I8 q8) fun b s9 ⟨H9, I9, q9⟩ => ?_
      have fin : ∀ {s' : Shared} {H' : Hp}, Inv (blkH X s3 H3 scope ce fp) ([] ++ pinsAt fp s7.heap) σ8 H' s' → Nx H' → ∃ m, m < n ∧ ∃ i H', Inv (blkH X s3 H3 scope ce fp) [] (wipe σ (own.map (·.2))) H' s' ∧ tn i s'.heap ∧ (∀ b ∈ fp, H' b = none) ∧ W i m H' := fun {s' H'} I' nx => by
        obtain ⟨m', hm, w'⟩ := hNx H' nx
        have pin' : ∀ b ∈ fp, ∀ o, s7.heap.get? b = some o → s'.heap.get? b = some o ∧ H' b = none := fun b hb o e =>
          let z := I'.pin (b, o) (List.mem_append_right _ (List.mem_append_right _ (mem_pinsAt hb e)))
          ⟨z.1, z.2.1⟩
        have hl : (wipe σ (own.map (·.2))).length = σ8.length := by rw [← hw8, wipe_length]
        refine ⟨m', hm, i + 1, H', (I'.unpinned (pins := [])).weak hl (fun j v e => ?_), T.keep _ _ _ st7 fun b hb o e => (pin' b hb o e).1, fun b hb => ?_, w'⟩
        · rw [← hw8] at e
          exact (wipe_some e).1
        · obtain ⟨o, e, _⟩ := T.obj _ _ st7 b hb
          exact (pin' b hb o e).2
      cases b with
      | false =>
        simp only [Bool.false_eq_true, if_false] at q9 ⊢
        exact fin I9 q9
      | true =>
        simp only [if_true] at q9 ⊢
        refine thnF (pe.run _ s9 σ8 H9 _ I9 q9) fun z s10 ⟨yv, H10, I10, r10, acc, hD10, hz10, nx⟩ => ?_
        exact app_ok (X := blkH X s3 H3 scope ce fp) I10 hD10 hz10 r10 fun s11 I11 => fin I11 nx
  exact codeAny_compStart_list loop (T.self X.A 0 _ _ _ st4 loop)
theorem pe_lcH {elt tg iter : Expr} {ifs : List Expr} {scope : Scope} {own : List (Str × Nat)} {pos : Pos} {wi : TI} {g : TG} {tt : TT} {te : TE} (hc : HotC X) (hN : X.N.Nodup) (hi : PIH X tg iter wi) (ok : BlkOk X.N X.env.scope scope own)
    (hg : ∀ (s : Shared) (H : Hp) (C : Addr) (cl : List (Str × Addr)) (fp : List Addr), PG (blkH X s H scope (compEnvC scope cl C X.env) fp) tg g) (ht : ∀ (s : Shared) (H : Hp) (C : Addr) (cl : List (Str × Addr)) (fp : List Addr), PTs (blkH X s H scope (compEnvC scope cl C X.env) fp) ifs tt)
    (he : ∀ (s : Shared) (H : Hp) (C : Addr) (cl : List (Str × Addr)) (fp : List Addr), PE (blkH X s H scope (compEnvC scope cl C X.env) fp) elt te) (hs : ∀ x, foldedSetIterable iter X.env x = pure x := by intro _; rfl) :
    PE X (.ListComp elt [⟨tg, iter, ifs, 0⟩] scope pos) (tLc wi g tt te (own.map (·.2))) := by
  refine ⟨fun pins s σ H Q I h => ?_⟩
  rw [eval_ListComp]
  refine lcH_core hc hN I hi ok hg ht he hs h fun D C s' m H' J q hn f => ⟨m, hn, fun h'' sb => ?_⟩
  obtain ⟨f0, f1, f2, f3, f4, f5⟩ := f
  exact ⟨.ref D, H', J.turned (t' := s'.toks) (fun b o hb e => (sb.2 b hb).trans e) f0 f1 f3 f4 f5, rfl, q⟩
end
end DL
namespace DL
open PySem PySem.Spec PyProof.Rows L2 L2H HotX

section
variable {X : Cx} {G : Gc} {W : WX} {a b e tg elt iter : Expr} {es ifs : List Expr} {m ma mb me : M D} {mt : M Bool} {pos p p2 : Pos} {x : Str} {T : String}
/-! ### [elt for target in a list if test], an exception being handled -/
def itemsL : D → Option (List D)
  | .list ds => some ds
  | _ => none
def M.itemsL (m : M D) : M (List D) := m.bind fun d => .lift (DL.itemsL d)
abbrev DIH (X : Cx) (G : Gc) (W : WX) (tg e : Expr) (m : M (List D)) : Prop := PIH X tg e (tI G W m)
theorem impIH {t t' : TI} (h : PIH X tg e t) (w : ∀ σ H R, t' σ H R → t σ H R) : PIH X tg e t' := ⟨fun pins s σ H R I hq => h.run pins s σ H R I (w σ H R hq)⟩
theorem di_itemsH (h : DE X G W e m) (hk : X.K = G.K := by rfl) : DIH X G W tg e (M.itemsL m) := by
  refine impIH (pi_lstH h) ?_
  rintro σ H Rr ⟨ρ, f, r, R, hm, hp⟩
  refine tD_bind R hm (xok hp) fun d ρ1 v H1 hk1 R1 x1 hv => ?_
  obtain ⟨ds, e, er⟩ := lift_inv hk1
  subst er
  cases d <;> try (cases e)
  obtain ⟨a, xs, rfl, h1, s1, h2⟩ := hv.lst_inv
  refine ⟨a, xs, rfl, hk ▸ s1, hp _ _ _ _ H1 R1 x1 ⟨h2.length.symm, walk_list, fun B' H' x => by rw [hk]; exact rd_keep h1 x, fun i d B' H2 x H3 e x2 hf y => ?_⟩⟩
  obtain ⟨rfl, e1⟩ := y
  obtain ⟨v, e2, h3⟩ := h2.get e
  rw [e1] at e2
  cases e2
  exact ⟨Same.refl _, h3.ext x2⟩
theorem df_lcH {ms : M (List D)} {g : TgM} {scope : Scope} (own : List (Str × Nat)) (hc : HotC X) (hN : X.N.Nodup) (ok : BlkOk X.N X.env.scope scope own) (hi : DIH X G W tg iter ms)
    (hg : ∀ (s : Shared) (H : Hp) (C : Addr) (cl : List (Str × Addr)) (fp : List Addr) (p : Addr) (o : HO), DGv (blkH X s H scope (compEnvC scope cl C X.env) fp) (G.pin p o) (own.map (·.2)) tg g)
    (ht : ∀ (s : Shared) (H : Hp) (C : Addr) (cl : List (Str × Addr)) (fp : List Addr) (p : Addr) (o : HO), DTs (blkH X s H scope (compEnvC scope cl C X.env) fp) (G.pin p o) F0 ifs mt)
    (he : ∀ (s : Shared) (H : Hp) (C : Addr) (cl : List (Str × Addr)) (fp : List Addr) (p : Addr) (o : HO), DE (blkH X s H scope (compEnvC scope cl C X.env) fp) (G.pin p o) F0 elt me)
    (hs : ∀ x, foldedSetIterable iter X.env x = pure x := by intro _; rfl) : DF X G W (.ListComp elt [⟨tg, iter, ifs, 0⟩] scope pos) (M.lc ms g mt me (own.map (·.2))) :=
  imp (pe_lcH hc hN hi ok (fun s H C cl fp => pin_g (hg s H C cl fp)) (fun s H C cl fp => pin_t (ht s H C cl fp)) (fun s H C cl fp => pin_d (he s H C cl fp)) hs) lc_imp

/-! ### comparisons there -/
theorem unitsH {k : Nat} (hr : RoomH k X.A) : X.A.units + 64 < cLine := by have := hr.un; omega
theorem de_neH {k : Nat} (hr : RoomH k X.A) (ha : DE X G W a ma) (hb : DK X G W b mb) (hk : X.K = G.K := by rfl) : DE X G W (.Compare a [.NotEq] [b] pos) (M.bin neD ma mb) := de_cmp (op_neR (unitsH hr)) od_r ha hb (nomark _) hk
theorem de_eqH {k : Nat} (hr : RoomH k X.A) (ha : DE X G W a ma) (hb : DK X G W b mb) (hk : X.K = G.K := by rfl) : DE X G W (.Compare a [.Eq] [b] pos) (M.bin eqD ma mb) := de_cmp (op_eqR (unitsH hr)) od_r ha hb (nomark _) hk

/-! ### xs.index(y), flat items -/
def flatD : D → Bool
  | .none => true
  | .bool _ => true
  | .int _ => true
  | .str _ => true
  | _ => false
def idxD : D → D → Option D
  | .list ds, d => if ds.all flatD = true ∧ flatD d = true then (ds.findIdx? fun y => PyData.eqv y d).map fun j => .int (j : Nat) else none
  | _, _ => none
theorem Has.flat {K : PySem.W.Frag} {B : Addr → Prop} {H : Hp} {v : V} {d : D} (h : Has K B H v d) (e : flatD d = true) : flatV v = true := by cases h <;> first | rfl | cases e
theorem HasL.flat {K : PySem.W.Frag} {B : Addr → Prop} {H : Hp} : ∀ {vs : List V} {ds : List D}, HasL K B H vs ds → ds.all flatD = true → vs.all flatV = true
  | _, _, .nil, _ => rfl
  | _, _, .cons h r, e => by
    rw [List.all_cons, Bool.and_eq_true] at e ⊢
    exact ⟨h.flat e.1, HasL.flat r e.2⟩
theorem Has.eqV {K : PySem.W.Frag} {B : Addr → Prop} {H : Hp} {v w : V} {c d : D} (h : Has K B H v c) (g : Has K B H w d) (e : flatD c = true) (e2 : flatD d = true) : L2.eqV v w = PyData.eqv c d := by
  cases h <;> (try (cases e; done)) <;> cases g <;> (try (cases e2; done)) <;> rfl
def M.idx (ma m : M D) : M D := ma.bind fun c => match c with
  | .list ds => m.bind fun d => .lift (idxD (.list ds) d)
  | _ => fun _ => none
theorem de_index {o : Expr} {apos cpos : Pos} (ho : DE X G W o ma) (he : DE X G W e m) (hbase : attributeBase o "index" X.env (eval o X.env) = eval o X.env := by rfl)
    (hfew : ((backTo cpos (starEach [e] X.env)).all (fun x => !x.1) && (backToKw cpos (keywordEach [] X.env)).all (fun x => x.1.isSome)
      && decide ([e].length + ([] : List Keyword).length + (if ([] : List Keyword).isEmpty then 0 else 1) < 30)) = true := by rfl)
    (hline : (apos.endLine == cpos.line) = true := by rfl) (hs : starEach [e] X.env = (false, eval e X.env) :: starEach [] X.env := by rfl) (hk : X.K = G.K := by rfl) :
    DE X G W (.Call (.Attribute o "index" apos) [e] [] cpos) (M.idx ma m) := by
  refine imp (pe_bm PySem.F.plainAttrs_list PySem.F.slot_list_index PySem.F.type_list_index mt_index ho (pa_cons he pa_nil hs) hbase hfew hline hs rfl) ?_
  rintro σ H Q ⟨ρ, f, r, R, hm, hp⟩
  have hx := xok hp
  refine tD_bind R (show M.bind ma _ ρ = some r from hm) hx fun c ρ1 v H1 hk1 R1 x1 hv => ?_
  cases c <;> try (cases hk1; done)
  rename_i ds
  obtain ⟨a, xs, rfl, h1, s1, h2⟩ := hv.lst_inv
  refine ⟨.inl ⟨rfl, xs, hk ▸ s1⟩, ?_⟩
  refine tD_bind R1 hk1 hx fun d ρ2 w H2 hk2 R2 x2 hw => ?_
  obtain ⟨z, e, er⟩ := lift_inv hk2
  subst er
  simp only [idxD] at e
  split at e
  · rename_i hf
    obtain ⟨j, ej, rfl⟩ := Option.map_eq_some_iff.mp e
    have h2' := h2.ext x2
    have s2 := rd_keep h1 x2
    obtain ⟨hj, e1, e2⟩ := List.findIdx?_eq_some_iff_getElem.mp ej
    obtain ⟨z, ez, hz⟩ := h2'.get (List.getElem?_eq_getElem hj)
    have fz : flatD ds[j] = true := List.all_eq_true.mp hf.1 _ (List.getElem_mem hj)
    refine ⟨a, xs, w, j, z, rfl, rfl, hk ▸ s2, hw.flat hf.2, h2'.flat hf.1, ez, by rw [hz.eqV hw fz hf.2]; exact e1, fun m z' hm ez' => ?_, hp _ H2 R2 (x1.trans x2) (.int _)⟩
    obtain ⟨d', ed, hd'⟩ := h2'.get' ez'
    have hml : m < ds.length := (List.getElem?_eq_some_iff.mp ed).1
    have e4 : ds[m] = d' := (List.getElem?_eq_some_iff.mp ed).2
    rw [hd'.eqV hw (List.all_eq_true.mp hf.1 _ (List.mem_of_getElem? ed)) hf.2]
    have e3 := e2 m hm
    rw [e4] at e3
    simpa using e3
  · cases e
end
end DL
namespace DL
open PySem PySem.Spec PyProof.Rows L2 L2H HotX

/-! ### the classes of errors that are raised, R -/
/-- is an error of the class c one of the class x -/
def subE (c x : Str) : Bool := c == x || x == "SawError"
structure ErrR (K : PySem.W.Frag) (mg : Str → Option Value) (R : List Str) : Prop where
  cls : ∀ c ∈ R, ∃ C, mg c = some (.ref C) ∧ ExcC K C
/-- isinstance(e, x) may be asked -/
def ErrS (K : PySem.W.Frag) (mg : Str → Option Value) (R : List Str) (x : Str) : Prop := ∃ D, mg x = some (.ref D) ∧ ∀ c ∈ R, ∀ C, mg c = some (.ref C) → PySem.W.kitOne K (.ref C) (.ref D) = some (subE c x)
/-- except x as .. catches them all -/
def ErrX (K : PySem.W.Frag) (mg : Str → Option Value) (R : List Str) (x : Str) : Prop := ∃ D, mg x = some (.ref D) ∧ ∀ c ∈ R, ∀ C, mg c = some (.ref C) → PySem.W.exmOne K (.ref C) (.ref D) = some true
/-- p's object is an error of the class c -/
structure IsErr (K : PySem.W.Frag) (mg : Str → Option Value) (R : List Str) (p : Addr × Obj) (c : Str) : Prop where
  mem : c ∈ R
  ex : ∃ C, mg c = some (.ref C) ∧ Zc (.ref C) none p.2 ∧ ExcC K C
  fld : ∃ vs, p.2.data = .fields vs
def rIsQ (X : Cx) (R : List Str) : List V → Hp → VK → Prop := fun xs H Q => ∃ (p : Addr × Obj) (c : Str) (C Dx : Addr) (b : Bool), xs = [.ref p.1, .ref Dx] ∧ p ∈ X.pn ∧ X.mg c = some (.ref C) ∧ Zc (.ref C) none p.2 ∧ ExcC X.K C ∧ (∃ vs, p.2.data = .fields vs) ∧ PySem.W.kitOne X.K (.ref C) (.ref Dx) = some b ∧ Q (.bl b) H
theorem call_isQ {X : Cx} {R : List Str} : CallR X (.builtin "isinstance") (rIsQ X R) := by
  rintro pins s σ H xs us Q I r ⟨⟨a, oe⟩, c, C, Dx, b, rfl, hp, hm, hz, ec, ⟨vs, hv⟩, e, q⟩
  obtain ⟨u, u2, rfl, r1, r2⟩ := vals2 r
  obtain rfl : u = Value.ref a := r1
  obtain rfl : u2 = Value.ref Dx := r2
  obtain ⟨hget, _⟩ := I.pin (a, oe) (List.mem_append_left _ hp)
  have J : PySem.W.InstAt s.heap a oe C none := by
    obtain ⟨oc, od, oda, osl⟩ := oe
    obtain ⟨h1, h2⟩ := hz
    dsimp only at h1 h2 hv
    subst h1 h2 hv
    exact ⟨hget, rfl, rfl, trivial⟩
  exact PySem.W.kia_one (PySem.W.handS_kitx_exc ec.hg ec.hk ec.hs ec.hd ec.ha ec.hn ec.ht ec.hm) I.kIn J e (fun z => nomatch z) fun tk => ⟨.bl b, H, I.kept (t' := tk) fun _ _ z => z, rfl, q⟩
def M.isE (i : Nat) (x : Str) : M D := fun ρ => match ρ[i]? with
  | some (some (.exc c)) => some (.val (.bool (subE c x)) ρ)
  | _ => none
section
variable {X : Cx} {G : Gc} {W : WX} {R : List Str} {n y : Str} {p p1 p2 pos : Pos}
theorem de_isE (i : Nat) (hq : ∀ a c, G.exq a c → ∃ q ∈ X.pn, q.1 = a ∧ IsErr X.K X.mg R q c) (hy : ErrS X.K X.mg R y) (hm : X.mg "isinstance" = none) (hN : X.N[i]? = some n := by rfl) (hv : Vis X.env.scope n := by first | exact Or.inl rfl | exact Or.inr (Or.inl rfl) | exact Or.inr (Or.inr rfl))
    (hd : (n == ("__debug__" : Str)) = false := by decide) (hcd : (n == ("__classdict__" : Str)) = false := by decide) (hg : Gl X "isinstance" := by rfl) (hg2 : Gl X y := by rfl) (hyd : (y == ("__debug__" : Str)) = false := by decide)
    (hs1 : starEach [.Name n p1, .Name y p2] X.env = (false, eval (.Name n p1) X.env) :: starEach [.Name y p2] X.env := by rfl) (hpl : (backTo pos (starEach [.Name y p2] X.env)).any (·.1) = false := by rfl) (hs2 : starEach [.Name y p2] X.env = (false, eval (.Name y p2) X.env) :: starEach [] X.env := by rfl) :
    DE X G W (.Call (.Name "isinstance" p) [.Name n p1, .Name y p2] [] pos) (M.isE i y) := by
  obtain ⟨Dx, hDx, hsub⟩ := hy
  refine imp (pe_callB (call_isQ (R := R)) hg hm (by rfl) (pa_cons (pv i hN hv hd hcd) (pa_cons (pe_glob (v := .ref Dx) hg2 hDx rfl hyd) pa_nil hs2) hs1) (by decide) (by decide) hs1 hpl) ?_
  rintro σ H Q ⟨ρ, f, r, Rl, hm, hp⟩
  unfold M.isE at hm
  split at hm
  · rename_i c e
    cases hm
    obtain ⟨v, ev, a, rfl, hx⟩ := Rl.sl i _ e
    obtain ⟨q, hqp, rfl, er⟩ := hq a c hx
    obtain ⟨C, hC, hz, ec⟩ := er.ex
    exact ⟨_, ev, q, c, C, Dx, _, rfl, hqp, hC, hz, ec, er.fld, hsub c er.mem C hC, hp _ H Rl (Ext.refl _ _) (.bl _)⟩
  · cases hm
end

/-! ### a def that is called with the error that is handled -/
structure FnW (P : Program) (w : World) (K : PySem.W.Frag) (mg : Str → Option Value) (base : Heap) (k : Nat) (f : Addr) (fd : FuncData) (ps : List Str) (sp : Addr × Obj → Sp) : Prop where
  len : ∀ p vs H Q E, sp p vs H Q E → vs.length = ps.length
  run : ∀ (A : Around) (outer : List Env) (s : Shared) (H : Hp) (args : Args) (us : List Value) (vs : List V) (Q : VK) (E : XK) (p : Addr × Obj), RoomH k A → Hot1 A p → PinOk outer H s p → Env0 P w K mg base A outer s H → BindsTo s fd args (ps.zip us) → Vals vs us → sp p vs H Q E →
    codeAny (model P w) A (.call (.ref f) args) (CR CX0 outer P w H s Q E) s
theorem fn_ofW {P : Program} {w : World} {K : PySem.W.Frag} {mg : Str → Option Value} {base : Heap} {k : Nat} {f : Addr} {name qual : Str} {params : Arguments} {body : List Stmt} {scope : Scope} {dV kV doc pm cdv ct oc : Value} {an od : Option Addr}
    {osl : Array (Option Value)} {N ps : List Str} {sp : Addr × Obj → Sp} (lk : K.lookup f = some ⟨oc, od, .func (PySem.W.fnOf name qual params body scope dV kV doc pm an cdv ct), osl⟩) (hcd : PySem.W.codeIn K cdv qual = true) (S : FnScope N ps scope)
    (len : ∀ p vs H Q E, sp p vs H Q E → vs.length = ps.length)
    (hbody : ∀ (A : Around) (outer : List Env) (s : Shared) (H : Hp) (vs : List V) (Q : VK) (E : XK) (p : Addr × Obj), Hot1 A p → RoomH k (A.deeper (envOfC qual scope s.heap.objs.size f cdv)) → sp p vs H Q E →
      ∃ t, PSs (cxH CX0 P w K mg base N qual scope f cdv A outer s H E p) body t ∧ t { nx := fun _ H' => Q .non H', rt := Q } (L2.start N vs) H) :
    FnW P w K mg base (k + 1) f (PySem.W.fnOf name qual params body scope dV kV doc pm an cdv ct) ps sp := by
  refine ⟨len, fun A outer s H args us vs Q E p hr hot hpin e0 hb r hsp => ?_⟩
  have hl := len _ _ _ _ _ hsp
  have KX : K.In s.heap := e0.mod.kin.keeps fun b o e => (e0.bs b o e).1
  have lim : s.heap.NoLimit := e0.mod.nolimit.keeps fun b o e => (e0.bs b o e).1
  have hkind : ∀ y ∈ ps.zip us, scope.names.lookup y.1 = some .local ∨ (scope.names.lookup y.1 = some .cell ∧ ((cellsFrom (s.heap.objs.size + 1) scope.names []).lookup y.1).isSome = true) := fun ⟨n, v⟩ hy => by
    rcases S.par n (List.of_mem_zip hy).1 with q | q
    · exact .inl q
    · exact .inr ⟨q, PySem.W.cellsFrom_some _ _ _ (.inl q)⟩
  refine codeAny_call_function hr.depth (KX _ _ lk) rfl S.co S.gen rfl (PySem.W.codeRec_of KX hcd) (hb _ _ _ _ ?_)
  refine wpAny_newFunctionEnv_cells S.kind hkind fun env he s1 x => ?_
  subst he
  refine ⟨lim.keeps x.toInCall.keep, codeAny_func ?_⟩
  obtain ⟨t, ht, hq⟩ := hbody A outer s H vs Q E p hot (hr.deeper _) hsp
  have I : Inv (cxH CX0 P w K mg base N qual scope f cdv A outer s H E p) [] (L2.start N vs) H s1 := inv_startH S hpin e0 hl r x
  refine wpAny_mono (ht.run [] s1 (L2.start N vs) H _ I hq) (fun fl s' hs => ?_) fun e s' hs => hs
  have fin : ∀ {σ' : L2.St} {H' : Hp} {v : V} {u : Value}, Inv (cxH CX0 P w K mg base N qual scope f cdv A outer s H E p) [] σ' H' s' → RelV v u → Q v H' → CE outer P w H s Q u s' := fun {σ' H' v u} J rv q => ⟨v, H', J.os, J.bare, J.base, J.hok, rv, q⟩
  cases fl with
  | ret u => obtain ⟨v, σ', H', J, rv, q⟩ := hs; exact fin J rv q
  | next => obtain ⟨σ', H', J, q⟩ := hs; exact fin (v := V.non) (u := Value.none) J rfl q
  | brk => obtain ⟨_, _, _, q⟩ := hs; exact False.elim q
  | cont => obtain ⟨_, _, _, q⟩ := hs; exact False.elim q
section
variable {X : Cx} {k : Nat} {f : Addr} {fd : FuncData} {ps : List Str} {sp : Addr × Obj → Sp} {x : Str} {q pos : Pos} {e : Expr} {es : List Expr} {t : TA} {p : Addr × Obj}
theorem run_fnW {pins : List (Addr × Obj)} {σ : L2.St} {H : Hp} {s : Shared} {Q : VK} {us : List Value} {vs : List V} (F : FnW X.prog X.w X.K X.mg X.base k f fd ps sp) (hr : RoomH k X.A) (hot : Hot1 X.A p) (hp : p ∈ X.pn) (hb : Binds X.K fd ps [])
    (I : Inv X pins σ H s) (r : Vals vs us) (h : sp p vs H Q (fun _ _ _ => False)) : wpAny (model X.prog X.w) X.A (call (.ref f) us) (EP X pins σ Q) X.xe s := by
  have hl : us.length = ps.length := by rw [← r.length]; exact F.len _ _ _ _ _ h
  have b := hb s us I.kIn (by rw [List.append_nil]; exact hl)
  rw [List.append_nil] at b
  have P1 := I.pin p (List.mem_append_left _ hp)
  have hpin : PinOk X.stack H s p := ⟨P1.1, P1.2.1, fun hm => (List.mem_cons.mp (I.stkSub p.1 hm)).elim P1.2.2.1 P1.2.2.2.1, P1.2.2.2.2⟩
  refine wpAny_call (codeAny_mono (F.run X.A X.stack s H ⟨us, []⟩ us vs Q _ p hr hot hpin I.env0 b r h) fun r s' hq => ?_)
  cases r with
  | error e => exact False.elim hq
  | ok fl =>
    cases fl with
    | ret u => exact I.after hq
    | next => exact False.elim hq
    | brk => exact False.elim hq
    | cont => exact False.elim hq
theorem pe_callW (F : FnW X.prog X.w X.K X.mg X.base k f fd ps sp) (hr : RoomH k X.A) (hot : Hot1 X.A p) (hp : p ∈ X.pn) (hg : Gl X x) (hm : X.mg x = some (.ref f)) (hk : PySem.W.keepIn X.K (.ref f) = true) (hb : Binds X.K fd ps [])
    (ha : PA X (e :: es) t) (hdb : (x == ("__debug__" : Str)) = false := by decide) (he : starEach (e :: es) X.env = (false, eval e X.env) :: starEach es X.env := by rfl) (hpl : (backTo pos (starEach es X.env)).any (·.1) = false := by rfl) :
    PE X (.Call (.Name x q) (e :: es) [] pos) (fun σ H Q => t σ H fun vs H1 => sp p vs H1 Q (fun _ _ _ => False)) := by
  refine ⟨fun pins s σ H Q I h => ?_⟩
  refine wpAny_Call_Name_kw (ld_glob I hg hm ?_ hdb)
  refine PySem.W.callWith_K (h₀ := X.base) I.ok.mod.kin hk (thn (ha.run pos pins s σ H _ I h) fun us s1 ⟨vs, H1, I1, r, q⟩ => ⟨I1.kIn, ?_⟩) he hpl
  exact run_fnW F hr hot hp hb I1 r q
end

/-! ### its promise: a word for each class -/
def runW (R : List Str) (N : Nat) (m : SS) : Str → Option Str := fun c => if R.contains c = true then match m (some (.exc c) :: List.replicate (N - 1) none) with
  | some (.ret (.str x) _) => some x
  | _ => none else none
def spW (K : PySem.W.Frag) (mg : Str → Option Value) (R : List Str) (F : Str → Option Str) : Addr × Obj → Sp := fun p vs H Q _ => ∃ c x, vs = [.ref p.1] ∧ IsErr K mg R p c ∧ F c = some x ∧ ∀ H', Same H H' → Q (.str x) H'
section
variable {P : Program} {w : World} {K : PySem.W.Frag} {mg : Str → Option Value} {base : Heap} {R : List Str}
theorem rel_startW {N : List Str} {p : Addr × Obj} {c : Str} {H : Hp} (hc : IsErr K mg R p c) (hN : 1 ≤ N.length) : Rel ⟨K, mg, fun _ => False, H, [], fun a c => a = p.1 ∧ IsErr K mg R p c, fun _ => False⟩ (L2.start N [.ref p.1]) H (some (.exc c) :: List.replicate (N.length - 1) none) (fun _ => 0) := by
  have nm : ∀ (i : Nat) (b : Bool) (c' : Cell), (some (Sl.exc c) :: List.replicate (N.length - 1) none)[i]? = some (some (.mut b c')) → False := fun i b c' e => by
    cases i with
    | zero => cases e
    | succ j =>
      rw [List.getElem?_cons_succ, List.getElem?_replicate] at e
      split at e <;> cases e
  refine ⟨?_, fun a o e _ _ => e, ⟨fun a z => z.elim, fun a z => z.elim⟩, fun i c e => (nm i _ c e).elim, fun i j b c b' c' e => (nm i _ _ e).elim, fun i c e => (nm i _ c e).elim, (fun q hq => nomatch hq), fun i s e => ?_⟩
  · unfold L2.start
    simp only [List.length_append, List.length_map, List.length_replicate, List.length_cons, List.length_nil]
    omega
  · cases i with
    | zero =>
      cases e
      refine ⟨.ref p.1, rfl, p.1, rfl, rfl, hc⟩
    | succ j =>
      rw [List.getElem?_cons_succ, List.getElem?_replicate] at e
      split at e <;> cases e
theorem fn_bodyW {x qual n : Str} {st : Stmt} {f : Addr} {fd : FuncData} {N : List Str} {k : Nat} {m : SS} (F : L2.Fun K x qual st f fd) (S : FnScope N [n] (defScope st))
    (hbody : ∀ (cdv : Value) (A : Around) (outer : List Env) (s : Shared) (H : Hp) (E : XK) (p : Addr × Obj), HotC (cxH CX0 P w K mg base N qual (defScope st) f cdv A outer s H E p) → RoomH k (A.deeper (envOfC qual (defScope st) s.heap.objs.size f cdv)) →
      (∀ a c, (a = p.1 ∧ IsErr K mg R p c) → ∃ q ∈ (cxH CX0 P w K mg base N qual (defScope st) f cdv A outer s H E p).pn, q.1 = a ∧ IsErr K mg R q c) →
      DSs (cxH CX0 P w K mg base N qual (defScope st) f cdv A outer s H E p) ⟨K, mg, fun _ => False, H, [], fun a c => a = p.1 ∧ IsErr K mg R p c, fun _ => False⟩ F0 (defBody st) m) : FnW P w K mg base (k + 1) f fd [n] (spW K mg R (runW R N.length m)) := by
  obtain ⟨oc, od, kV, doc, pm, an, cdv, ct, osl, rfl, lk, hcd⟩ := F.ex
  have hN : 1 ≤ N.length := by
    have := congrArg List.length S.pre
    rw [List.length_take] at this
    simp only [List.length_cons, List.length_nil] at this
    omega
  refine fn_ofW lk hcd S (fun p vs H Q E ⟨c, x, e, _⟩ => by subst e; rfl) fun A outer s H vs Q E p hot hr hsp => ?_
  obtain ⟨c, y, rfl, hc, eF, hq⟩ := hsp
  refine ⟨_, hbody cdv A outer s H E p ⟨p, hot, List.mem_singleton.mpr rfl⟩ hr (fun a c ⟨h1, h2⟩ => ⟨p, List.mem_singleton.mpr rfl, h1.symm, h2⟩), ?_⟩
  unfold runW at eF
  split at eF
  · split at eF
    · rename_i z ρ' em
      cases eF
      refine ⟨_, _, _, rel_startW hc hN, em, ?_⟩
      intro v σ' H' f' R' hh
      rw [hh.str_inv]
      exact hq H' fun a o e => R'.keep a o e (fun q hq => nomatch hq) (fun z => z)
    · cases eF
  · cases eF
end
/-- a def of the text that tells an error's word -/
structure DefW (P : Program) (w : World) (K : PySem.W.Frag) (mg : Str → Option Value) (base : Heap) (R : List Str) (k : Nat) (x : Str) (F : Str → Option Str) : Prop where
  ex : ∃ (f : Addr) (fd : FuncData) (n : Str), FnW P w K mg base k f fd [n] (spW K mg R F) ∧ mg x = some (.ref f) ∧ PySem.W.keepIn K (.ref f) = true ∧ Binds K fd [n] []
def S.tryW (R : List Str) (F : Str → Option Str) (i : Nat) (m : SS) : SS := fun ρ => match m ρ with
  | some (.exc c ρ') => if R.contains c = true ∧ i < ρ'.length then match F c with
    | some x => some (.ret (.str x) ρ')
    | none => none else none
  | r => r
section
variable {X : Cx} {G : Gc} {W : WX} {R : List Str} {n x wd : Str} {p1 p2 p3 p4 np pos pos' : Pos} {m : SS} {body : List Stmt} {k j : Nat} {F : Str → Option Str}
theorem ds_tryW (i : Nat) (tk : L2N.Takes X W) (hN : X.N.Nodup) (dW : DefW X.prog X.w X.K X.mg X.base R k wd F) (eR : ErrR X.K X.mg R) (eX : ErrX X.K X.mg R x) (hr : Room j X.A) (hkj : k ≤ j)
    (hb : ∀ (W : WX) (pn : List (Addr × Obj)) (xe : Value → Shared → Prop), L2N.Takes (X.tr pn xe) W → PassesOwn (model X.prog X.w) X.A X.env xe → DSs (X.tr pn xe) G W body m)
    (hs : X.stack = X.env :: X.outer := by rfl) (hf : X.env.frame = some X.env.locals := by rfl) (hi : X.N[i]? = some n := by rfl) (hln : X.env.kindOf n = some .local := by rfl) (hgx : Gl X x := by rfl) (hxd : (x == ("__debug__" : Str)) = false := by decide)
    (hv : Vis X.env.scope n := by first | exact Or.inl rfl | exact Or.inr (Or.inl rfl) | exact Or.inr (Or.inr rfl)) (hd : (n == ("__debug__" : Str)) = false := by decide) (hcd : (n == ("__classdict__" : Str)) = false := by decide) (hgw : Gl X wd := by rfl) (hwd : (wd == ("__debug__" : Str)) = false := by decide)
    (he : starEach [.Name n p2] X.env = (false, eval (.Name n p2) X.env) :: starEach [] X.env := by rfl) (hpl : (backTo p3 (starEach [] X.env)).any (·.1) = false := by rfl) (hM : X.mg = G.mg := by rfl) :
    DS X G W (.Try body [.ExceptHandler (some (.Name x np)) (some n) [.Return (some (.Call (.Name wd p1) [.Name n p2] [] p3)) p4] pos'] [] [] pos) (S.tryW R F i m) := by
  obtain ⟨f, fd, n0, FW, hmw, hkw, hbw⟩ := dW.ex
  obtain ⟨D0, hD0, hex⟩ := eX
  refine impS (L2N.ps_try_as (i := i) (tb := fun W' => tS G W' m) (ts := fun a cls d D σ H => d = none ∧ σ[i]? = some (some (.ref a)) ∧ ∃ c y, X.mg c = some cls ∧ c ∈ R ∧ F c = some y ∧ ∀ H', Same H H' → D.rt (.str y) H')
    hs hf hN hi hln (c := .ref D0) ⟨hgx, hxd, .inl hD0⟩ tk (fun W' pn xe tk' po => hb W' pn xe tk' po) ?_) ?_
  · intro a oe cls d pn hz hfl
    have hot : Hot1 (X.suite a ((a, oe) :: pn)).A (a, oe) := ⟨rfl, by
      obtain ⟨vs, e⟩ := hfl
      exact ⟨vs, e, hz.2.2 vs e⟩⟩
    refine impSs (pss_one (ps_ret (pe_callW (X := X.suite a ((a, oe) :: pn)) (p := (a, oe)) FW (RoomH.mono (j := k) (k := j) ⟨hr.dp, hr.un⟩ hkj) hot List.mem_cons_self hgw hmw hkw hbw (pa_cons (pv (X := X.suite a ((a, oe) :: pn)) i hi hv hd hcd) pa_nil he) hwd he hpl))) ?_
    rintro D σ H ⟨rfl, e1, c, y, h1, h2, h3, h4⟩
    obtain ⟨C, hC, ec⟩ := eR.cls c h2
    rw [hC] at h1
    cases h1
    exact ⟨_, e1, c, y, rfl, ⟨h2, ⟨C, hC, hz.zc, ec⟩, hfl⟩, h3, h4⟩
  · rintro E σ H ⟨ρ, f', r, Rl, hm, hp⟩
    unfold S.tryW at hm
    cases em : m ρ with
    | none => rw [em] at hm; cases hm
    | some q =>
      rw [em] at hm
      refine ⟨ρ, f', q, Rl, em, ?_⟩
      cases q with
      | exc c ρ' =>
        dsimp only at hm
        split at hm
        · rename_i hc
          have hcR : c ∈ R := by simpa using hc.1
          cases eF : F c with
          | none => rw [eF] at hm; cases hm
          | some y =>
            rw [eF] at hm
            cases hm
            intro cls σ' H' f'' hcls R'
            obtain ⟨C, hC, ec⟩ := eR.cls c hcR
            rw [← hM, hC] at hcls
            cases hcls
            refine ⟨true, hex c hcR C hC, fun _ a na => ⟨rfl, ?_, c, y, hC, hcR, eF, fun H'' sm => hp (.str y) σ' H'' f'' (R'.same sm) (.str y)⟩, fun z => nomatch z⟩
            have hl : i < σ'.length := by
              rw [R'.len]; exact hc.2
            rw [List.getElem?_set_self hl]
        · cases hm
      | nx ρ' => cases hm; exact hp
      | ret d ρ' => cases hm; exact hp
      | retF d ρ' => cases hm; exact hp
      | brk ρ' => cases hm; exact hp
      | ct ρ' => cases hm; exact hp
end
end DL
namespace DL
open PySem PySem.Spec PyProof.Rows L2
open AutoSeq1 (wpAny_loadPart')

/-! ### enumerate(tuple) -/
theorem meets_enumT (l : Addr) (items : Array Value) :
    Meets (Builtin.«enumerate.__new__» ⟨[.type "enumerate", .ref l], []⟩) (fun _ R s => s.heap.IsTuple l items ∧
      R (.ok (.ret (.ref (s.heap.push { cls := .type "tuple_iterator", data := .fields #[.ref l, .int 0 0] }).objs.size)))
        { s with heap := (s.heap.push { cls := .type "tuple_iterator", data := .fields #[.ref l, .int 0 0] }).push { cls := .type "enumerate", data := .fields #[.none, .bool false, .ref s.heap.objs.size, rawInt 0, .none, .none] } }) :=
  .of_wp fun prog w A R s h => by
    obtain ⟨hp, g, d, tk, os⟩ := s; obtain ⟨hL, h⟩ := h
    have hsub := sub_enumerate
    obtain ⟨ol, hl, hc, nn, hd⟩ := id hL
    obtain ⟨c, dct, dt, sl⟩ := ol
    replace hc : c = .type "tuple" := hc
    replace hd : dt = .seq items nn := hd
    subst hc hd
    wp_walk using wpAny_loadPart' hl
    refine wpAny_stack_any fun st => wpAny_pure ?_
    split
    · rename_i c _ _ _ _ _
      cases (c == Value.type "enumerate")
      · wp_walk using wpAny_loadPart' hl, wpAny_pyIter_tuple hL
        exact ⟨_, rfl, h⟩
      · wp_walk using wpAny_loadPart' hl, wpAny_pyIter_tuple hL
        exact ⟨_, rfl, h⟩
    · wp_walk using wpAny_loadPart' hl, wpAny_pyIter_tuple hL
      exact ⟨_, rfl, h⟩
section
variable {prog : Program} {w : World} {A : Around} {E : Value → Shared → Prop} {s : Shared}
theorem call_enumT {l : Addr} {items : Array Value} {Q : Value → Shared → Prop} (hL : s.heap.IsTuple l items)
    (h : ∀ h', IsEnum h' (s.heap.objs.size + 1) s.heap.objs.size 0 .none → h'.IsTupleIter s.heap.objs.size l 0 → h'.objs.size = s.heap.objs.size + 2 →
      (∀ b o, s.heap.get? b = some o → h'.get? b = some o) → Q (.ref (s.heap.objs.size + 1)) { s with heap := h' }) :
    wpAny (model prog w) A (call (.type "enumerate") [.ref l]) Q E s := by
  refine callType_new F.called_enumerate (by decide) (F.typeCall_enumerate_1 _) (F.newCall_enumerate_1 _) (fun obj => F.args_object_init_2 obj _) F.entry_enumerate_new
    (meets_enumT l items) ⟨hL, ?_⟩
  have hz : (s.heap.push { cls := .type "tuple_iterator", data := .fields #[.ref l, .int 0 0] }).objs.size = s.heap.objs.size + 1 := Heap.size_push ..
  show _ ∧ _
  rw [hz]
  have he : IsEnum ((s.heap.push { cls := .type "tuple_iterator", data := .fields #[.ref l, .int 0 0] }).push
      { cls := .type "enumerate", data := .fields #[.none, .bool false, .ref s.heap.objs.size, rawInt 0, .none, .none] }) (s.heap.objs.size + 1) s.heap.objs.size 0 .none := by
    have := Heap.get?_push_size (s.heap.push { cls := .type "tuple_iterator", data := .fields #[.ref l, .int 0 0] })
      (o := { cls := .type "enumerate", data := .fields #[.none, .bool false, .ref s.heap.objs.size, rawInt 0, .none, .none] }) rfl
    rw [hz] at this; exact this
  refine ⟨⟨_, he, rfl⟩, h _ he ⟨_, Heap.get?_push_of_some _ (Heap.get?_push_size _ rfl), rfl, rfl⟩ (by rw [Heap.size_push, hz]) fun b o x => Heap.get?_push_of_some _ (Heap.get?_push_of_some _ x)⟩
end
def Iten (K : PySem.W.Frag) (a : Addr) : It :=
  ⟨fun i H => ∃ (xs : List V) (x : V), SqT K H a xs ∧ xs[i]? = some x, fun i H v H' => ∃ T x, v = .ref T ∧ H T = none ∧ H' = L2.upd H T (.tup [.int (i : Nat), x]) ∧ ∀ xs, SqT K H a xs → xs[i]? = some x, fun i H => ∃ xs : List V, SqT K H a xs ∧ xs.length = i⟩
theorem turn_enumT {P : Program} {w : World} {K : PySem.W.Frag} {elts : List Expr} {kk : Nat} {tpos : Pos} (a e it : Addr) :
    Turn P w K (.Tuple elts kk tpos) (Iten K a) [e, it] e (fun i h => (∃ old, IsEnum h e it ((i : Nat) : Int) old) ∧ h.IsTupleIter it a i ∧ e ≠ it ∧ e ≠ a ∧ a ≠ it) where
  mem := by simp
  obj := fun i h st b hb => by
    obtain ⟨⟨old, he⟩, ⟨o, ho, hc, hd⟩, _⟩ := st
    have e' : b = e ∨ b = it := by simpa using hb
    rcases e' with z | z
    · rw [z]; exact ⟨_, he, fun v q => nomatch q⟩
    · rw [z]; exact ⟨o, ho, fun v q => by rw [hd] at q; cases q⟩
  keep := fun i h h' st k => let ⟨⟨old, he⟩, hi, hne⟩ := st; ⟨⟨old, k e (by simp) _ he⟩, hi.at fun o q => k it (by simp) o q, hne⟩
  item := by
    intro X hP hw hK hc i pins s σ H E I hf st hg
    subst hP hw hK
    obtain ⟨⟨old, he⟩, hit, hne, hea, hai⟩ := st
    obtain ⟨xs, x, hq, hx⟩ := hg
    obtain ⟨its, rv, p, hz⟩ := I.tuple hq
    obtain ⟨u, hu, ru⟩ := rv.get hx
    have hel : e < s.heap.objs.size := Heap.lt_size he
    have hil : it < s.heap.objs.size := by obtain ⟨_, q, _⟩ := hit; exact Heap.lt_size q
    have hp : s.heap.IsTuple a its.toArray := p
    have hh : X.A.in1.handled = none := I.ok.hd hc
    have hlt : i < its.toArray.size := by
      have := (List.getElem?_eq_some_iff.mp hu).1
      simpa using this
    refine wpAny_pyNext_enum_itemD (Draws.tuple (prog := X.prog) (w := X.w) (A := X.A.in1) hh it a hai its.toArray) he ⟨hit, hp⟩ hlt hne (by simp [hne, hea]) fun x' h' tk hx' ho hit' hT hsz hk => ?_
    have ex : x' = u := by
      have hx' : its.toArray[i]? = some x' := hx'
      rw [List.getElem?_toArray, hu] at hx'
      exact (Option.some.inj hx').symm
    subst ex
    refine ⟨_, rfl, wpAny_letOwnedTupleGo_enum (s := { s with heap := h', toks := tk + 1 }) ho fun h'' he' sb => ?_⟩
    have hT2 : h''.get? s.heap.objs.size = some { cls := .type "tuple", data := .seq #[.int i tk, x'] } := (sb.2 _ (Nat.ne_of_gt hel)).trans hT
    have new : ObjOk X.prog X.w (L2.upd H s.heap.objs.size (.tup [.int (i : Nat), x])) h'' s.heap.objs.size (.tup [.int (i : Nat), x]) :=
      ⟨by show 2 ≤ sizeLine; decide, [.int i tk, x'], .cons ⟨_, rfl⟩ (.cons ru .nil), ⟨_, hT2, rfl, _, rfl⟩⟩
    have I1 : Inv X pins σ (L2.upd H s.heap.objs.size (.tup [.int (i : Nat), x])) { s with heap := h'', toks := tk + 1 } :=
      I.turnedNew (ch := [e, it]) (fun b ob hb q => (sb.2 b (fun z => hb (by simp [z]))).trans (hk b ob (fun z => hb (by simp [z])) (fun z => hb (by simp [z])) q)) hf (Nat.le_refl _) new
    refine ⟨.ref s.heap.objs.size, _, I1, rfl, ⟨_, x, rfl, I.hok.fresh (Nat.le_refl _), rfl, fun ys hy => ?_⟩, ⟨⟨x', ?_⟩, hit'.1.at fun o q => (sb.2 it (Ne.symm hne)).trans q, hne, hea, hai⟩, fun b hb => ?_⟩
    · rw [I.tuple_inj hy hq]; exact hx
    · have e1 : ((i + 1 : Nat) : Int) = (i : Int) + 1 := by omega
      rw [e1]; exact he'
    · have hb' : b < s.heap.objs.size := by
        have e' : b = e ∨ b = it := by simpa using hb
        rcases e' with z | z
        · rw [z]; exact hel
        · rw [z]; exact hil
      rw [upd_ne (Nat.ne_of_lt hb')]
      exact (hf b hb).1
  done := by
    intro X hP hw hK hc i pins s σ H E I hf st hg
    subst hP hw hK
    obtain ⟨⟨old, he⟩, hit, hne, hea, hai⟩ := st
    obtain ⟨xs, hq, hx⟩ := hg
    obtain ⟨its, rv, p, hz⟩ := I.tuple hq
    obtain ⟨f0, f1, f2, f3, f4, f5⟩ := hf it (by simp)
    have hl := rv.length
    have hp : s.heap.IsTuple a its.toArray := p
    have hh : X.A.in1.handled = none := I.ok.hd hc
    have hi : i = its.toArray.size := by simp; omega
    refine wpAny_pyNext_enum_endD (Draws.tuple (prog := X.prog) (w := X.w) (A := X.A.in1) hh it a hai its.toArray) he (by rw [← hi]; exact ⟨hit, hp⟩) fun h' eb => ⟨rfl, I.turned (t' := s.toks) (fun b o hb q => eb b o hb q) f0 f1 f3 f4 f5⟩
  self := fun A i s Q E st h => let ⟨⟨_, he⟩, _⟩ := st; wpAny_pyIter_enum he h
def iEnumT (K : PySem.W.Frag) (ta : TA) : TI := fun σ H R => ta σ H fun vs H1 => ∃ a xs, vs = [.ref a] ∧ ((SqL K H1 a xs ∧ R (Ite K a) H1) ∨ (SqT K H1 a xs ∧ R (Iten K a) H1))
theorem pi_enumT {X : Cx} {e : Expr} {ta : TA} {p pos tpos : Pos} {elts : List Expr} {kk : Nat} (hg : Gl X "enumerate") (hm : X.mg "enumerate" = none) (ha : PA X [e] ta) (hs : starEach [e] X.env = [(false, eval e X.env)] := by rfl) :
    PI X (.Tuple elts kk tpos) (.Call (.Name "enumerate" p) [e] [] pos) (iEnumT X.K ta) := by
  refine ⟨fun pins s σ H R I h => ?_⟩
  refine Call_ (ld_blt I hg hm boot_enumerate (PyProof.Rows.callWith_type1 (thn (ha.run pos pins s σ H _ I h) fun us s1 ⟨vs, H1, I1, r1, q1⟩ => ?_) hs rfl))
  obtain ⟨a, xs, ex, q⟩ := q1
  subst ex
  cases r1 with
  | cons r rr =>
    cases rr
    cases r
    have fp : ∀ b ∈ [s1.heap.objs.size + 1, s1.heap.objs.size], FpOk X pins H1 b := fun b hb => by
      have hb' : s1.heap.objs.size ≤ b := by
        have e' : b = s1.heap.objs.size + 1 ∨ b = s1.heap.objs.size := by simpa using hb
        rcases e' with z | z <;> omega
      exact I1.fpOk hb' (I1.hok.fresh hb')
    rcases q with ⟨hq, q⟩ | ⟨hq, q⟩
    · obtain ⟨its, rv, p', hz⟩ := I1.list hq
      refine call_enumerate_list p'.isList fun h' he hit hsz hk => wpAny_pyIter_enum he ?_
      have I2 : Inv X pins σ H1 { s1 with heap := h' } := I1.kept (t' := s1.toks) hk
      exact ⟨s1.heap.objs.size + 1, [s1.heap.objs.size + 1, s1.heap.objs.size], _, _, H1, rfl, I2, turn_enum a (s1.heap.objs.size + 1) s1.heap.objs.size, ⟨⟨.none, he⟩, hit, Nat.succ_ne_self _⟩, fp, q⟩
    · obtain ⟨its, rv, p', hz⟩ := I1.tuple hq
      have p'' : s1.heap.IsTuple a its.toArray := p'
      refine call_enumT p'' fun h' he hit hsz hk => wpAny_pyIter_enum he ?_
      have I2 : Inv X pins σ H1 { s1 with heap := h' } := I1.kept (t' := s1.toks) hk
      have hlt : a < s1.heap.objs.size := by obtain ⟨o, ho, _⟩ := p''; exact Heap.lt_size ho
      exact ⟨s1.heap.objs.size + 1, [s1.heap.objs.size + 1, s1.heap.objs.size], _, _, H1, rfl, I2, turn_enumT a (s1.heap.objs.size + 1) s1.heap.objs.size, ⟨⟨.none, he⟩, hit, Nat.succ_ne_self _, Nat.ne_of_gt (Nat.lt_succ_of_lt hlt), Nat.ne_of_lt hlt⟩, fp, q⟩
theorem walk_enumT {K : PySem.W.Frag} {a : Addr} {xs : List V} : Walk (Iten K a) xs.length (fun H => SqT K H a xs) (YPair (fun i => some (.int (i : Nat))) (fun i => xs[i]?)) := by
  refine ⟨fun i _ hi q => ⟨xs, xs[i], q, by simp [hi]⟩, fun _ q => ⟨xs, q, rfl⟩, fun i H v H' _ q y => ?_⟩
  obtain ⟨T, x, h1, h2, h3, h4⟩ := y
  exact ⟨T, .int (i : Nat), x, h1, h2, h3, rfl, h4 xs q⟩
def enumL (ds : List D) : List D := ds.mapIdx fun i d => PyData.tuple [.int (i : Nat), d]
def enumD : D → Option (List D)
  | .list ds => some (enumL ds)
  | .tuple ds => some (enumL ds)
  | _ => none
def M.enum (m : M D) : M (List D) := m.bind fun d => .lift (enumD d)
section
variable {X : Cx} {G : Gc} {W : WX} {e : Expr} {m : M D} {p pos tpos : Pos} {elts : List Expr} {kk : Nat}
theorem enum_item {B : Addr → Prop} {H : Hp} {K : PySem.W.Frag} {xs : List V} {ds : List D} (h2 : HasL K B H xs ds) {B' : Addr → Prop} {H1 H2 : Hp} {x : V} {d : D} {i : Nat} (e : (enumL ds)[i]? = some d) (x2 : Ext B H B' H1) (hf : ∀ p, H1 p = none → ¬ B' p)
    (y : YPair (fun i => some (.int (i : Nat))) (fun i => xs[i]?) i H1 x H2) : Same H1 H2 ∧ Has K B' H2 x d := by
  obtain ⟨T, u, w, rfl, hT, rfl, e1, e2⟩ := y
  cases e1
  have s := same_upd (o := HO.tup [.int (i : Nat), w]) hT
  simp only [enumL, List.getElem?_mapIdx, Option.map_eq_some_iff] at e
  obtain ⟨d0, ed, rfl⟩ := e
  obtain ⟨v, ev, hv⟩ := h2.get ed
  have e2 : xs[i]? = some w := e2
  rw [e2] at ev
  cases ev
  exact ⟨s, .tup (.inl ⟨hf T hT, .inl upd_same⟩) (.cons (.int _) (.cons ((hv.ext x2).same s) .nil))⟩
theorem di_enum (hm : X.mg "enumerate" = none) (h : DE X G W e m) (hg : Gl X "enumerate" := by rfl) (hs : starEach [e] X.env = (false, eval e X.env) :: starEach [] X.env := by rfl) (hs1 : starEach [e] X.env = [(false, eval e X.env)] := by rfl) (hk : X.K = G.K := by rfl) :
    DI X G W (.Tuple elts kk tpos) (.Call (.Name "enumerate" p) [e] [] pos) (M.enum m) := by
  refine impI (pi_enumT hg hm (pa_cons h pa_nil hs) hs1) ?_
  rintro σ H Rr ⟨ρ, f, r, R, hm', hp⟩
  refine tD_bind R hm' (xok hp) fun d ρ1 v H1 hk1 R1 x1 hv => ?_
  obtain ⟨ds, e, er⟩ := lift_inv hk1
  subst er
  cases d <;> try (cases e; done)
  · rename_i ds'
    cases e
    obtain ⟨a, xs, rfl, h1, s1, h2⟩ := hv.lst_inv
    refine ⟨a, xs, rfl, .inl ⟨hk ▸ s1, hp _ _ _ _ H1 R1 x1 ⟨by rw [enumL, List.length_mapIdx]; exact h2.length.symm, walk_enum, fun B' H' x => by rw [hk]; exact rd_keep h1 x, fun i d B' H2 x H3 e x2 hf y => enum_item h2 e x2 hf y⟩⟩⟩
  · rename_i ds'
    cases e
    obtain ⟨a, xs, rfl, h1, s1, h2⟩ := hv.tup_inv
    refine ⟨a, xs, rfl, .inr ⟨hk ▸ s1, hp _ _ _ _ H1 R1 x1 ⟨by rw [enumL, List.length_mapIdx]; exact h2.length.symm, walk_enumT, fun B' H' x => by rw [hk]; exact sqt_keep h1 x, fun i d B' H2 x H3 e x2 hf y => enum_item h2 e x2 hf y⟩⟩⟩
end
end DL
namespace DL
open PySem PySem.Spec PyProof.Rows L2

section
variable {X : Cx} {G : Gc} {W : WX} {a b c e tg : Expr} {es : List Expr} {m ma mb : M D} {mc : M Cell} {ms : M (List D)} {pos p p2 : Pos} {x y : Str} {T : String}
/-! ### list(range(..)) -/
def lstRD : D → Option Cell
  | .int j => if okR j = true ∧ j ≤ 16777216 then some (.lst (rangeL 0 j)) else none
  | _ => none
theorem HasL.rg {K : PySem.W.Frag} {B : Addr → Prop} {H : Hp} (lo hi : Int) : HasL K B H (rgV lo hi) (rangeL lo hi) := by
  have : ∀ l : List Nat, HasL K B H (l.map fun i => V.int (lo + (i : Nat))) (l.map fun i => PyData.int (lo + (i : Nat))) := fun l => by
    induction l with
    | nil => exact .nil
    | cons a l ih => exact .cons (.int _) ih
  exact this _
theorem df_listR1 {pr : Pos} (hc : X.calm = true) (hm : X.mg "list" = none) (hm2 : X.mg "range" = none) (ha : DE X G W a m) (hg : Gl X "list" := by rfl) (hg2 : Gl X "range" := by rfl) (na : starEach [a] X.env = (false, eval a X.env) :: starEach [] X.env := by rfl)
    (nb : starEach [.Call (.Name "range" p) [a] [] pr] X.env = (false, eval (.Call (.Name "range" p) [a] [] pr) X.env) :: starEach [] X.env := by rfl) : DF X G W (.Call (.Name "list" p2) [.Call (.Name "range" p) [a] [] pr] [] pos) (M.unF lstRD m) := by
  refine imp (pe_listRg hc hg hm (prg_1 hg2 hm2 ha na) nb) ?_
  rintro σ H Q ⟨ρ, f, r, R, hm', hp⟩
  refine tD_bind R hm' (xok hp) fun d ρ1 v H1 hk1 R1 x1 hv => ?_
  obtain ⟨z, ez, er⟩ := lift_inv hk1
  subst er
  cases d <;> try (cases ez; done)
  rename_i j
  simp only [lstRD] at ez
  split at ez
  · rename_i ho
    cases ez
    have o := okR_spec ho.1
    have hl := ho.2
    refine ⟨j, hv.int_inv, ⟨by omega, by omega, o.1, o.2, by omega⟩, fun q hq => hp q _ (.mk' R1 hq (same_upd hq) ⟨_, upd_same, HasL.rg 0 j⟩) fun a ob hb e => ?_⟩
    obtain ⟨h1, h2⟩ := x1 a ob hb e
    exact ⟨fun z => z.elim h1 (ne_of_none h2 hq), same_upd hq _ _ h2⟩
  · cases ez

/-! ### a, b = [..], e -/
def S.parFD (i j : Nat) (mc : M Cell) (mb : M D) : SS := S.of mc fun x ρ => match mb ρ with
  | some (.val y ρ) => if isInn ρ i = true ∨ isInn ρ j = true ∨ i = j then none else some (.nx ((ρ.set i (some (.mut true x))).set j (some (.dat y))))
  | _ => none
theorem NewAt.pinned {σ : L2.St} {H : Hp} {ρ : Rho} {f : Nat → Addr} {q : Addr} {c : Cell} {o : HO} (N : NewAt G σ H ρ f q c) (e : H q = some o) : Rel (G.pin q o) σ H ρ f := by
  have R := N.relP
  refine ⟨R.len, fun a o' e' hn ht => ?_, R.dom, fun i c e => ⟨(R.own i c e).1, ?_⟩, R.inj, R.inn, R.innB, fun i s e => ?_⟩
  · by_cases ha : a = q
    · subst ha
      rw [show (G.pin a o).H0 a = some o from upd_same] at e'
      cases e'
      exact e
    · rw [show (G.pin q o).H0 a = G.H0 a from upd_ne ha] at e'
      exact R.keep a o' e' hn ht
  · rw [show (G.pin q o).H0 (f i) = G.H0 (f i) from upd_ne fun z => (R.own i c e).1 (.inr z)]
    exact (R.own i c e).2
  · obtain ⟨v, e1, h⟩ := R.sl i s e
    exact ⟨v, e1, SlOk.pin (SlOk.minus h)⟩
theorem NewAt.apt {σ : L2.St} {H : Hp} {ρ : Rho} {f : Nat → Addr} {q : Addr} {c : Cell} (N : NewAt G σ H ρ f q c) : Apt G q where
  a := N.fr.a
  h0 := N.fr.h0
  t := fun z => N.fr.a (N.rel.dom.2 q z).1
  inn := fun r hr => by
    obtain ⟨c, e1, e2⟩ := N.rel.innB r hr
    rw [← e2]
    exact (N.rel.inn _ _ e1).2
theorem Rel.newBack {σ : L2.St} {H : Hp} {ρ : Rho} {f : Nat → Addr} {q : Addr} {o : HO} {c : Cell} (R : Rel (G.pin q o) σ H ρ f) (ap : Apt G q) (ok : CellOk G.K (Bad (G.pin q o) ρ f) H q c) : NewAt G σ H ρ f q c := by
  have RP := R.unpin ap
  have fr : Fresh G ρ f q := ⟨ap.a, ap.h0, fun i b c e => R.nf ap e⟩
  exact ⟨RP.minus fr (fun i c e => ap.inn _ (RP.inn i c e).1) ap.t, RP, fr, ok.ext (fun a ob hb e => ⟨fun z => hb (bad_pin.mpr z), e⟩) rfl⟩
theorem CellOk.hp {K : PySem.W.Frag} {B : Addr → Prop} {H : Hp} {q : Addr} {c : Cell} (h : CellOk K B H q c) : ∃ o, H q = some o := h.at
variable {px py pt pt2 : Pos} {kt k2 : Nat}
theorem isInn_setM {ρ : Rho} {i j : Nat} {c : Cell} (h : isInn ρ j = false) : isInn (ρ.set i (some (.mut true c))) j = false := by
  cases e : isInn (ρ.set i (some (.mut true c))) j with
  | false => rfl
  | true =>
    unfold isInn at e
    split at e
    · rename_i c' e2
      rcases get_set e2 with ⟨_, e3, _⟩ | ⟨_, e3⟩
      · cases e3
      · unfold isInn at h
        rw [e3] at h
        cases h
    · cases e
theorem ds_parFD (i j : Nat) (hc : X.calm = true) (hN : X.N.Nodup) (ha : DF X G W a mc) (hb : ∀ p o, DE X (G.pin p o) F0 b mb) (hi : X.N[i]? = some x := by rfl) (hj : X.N[j]? = some y := by rfl) (hij : i ≠ j := by decide)
    (hx : X.env.scope.names.lookup x = some .local := by rfl) (hy : X.env.scope.names.lookup y = some .local := by rfl) (hs1 : starEach [a, b] X.env = (false, eval a X.env) :: starEach [b] X.env := by rfl) (hs2 : starEach [b] X.env = (false, eval b X.env) :: starEach [] X.env := by rfl)
    (hw : swappedStores [.Tuple [.Name x px, .Name y py] kt pt] (.Tuple [a, b] k2 pt2) X.env = pure (some [x, y]) := by rfl)
    (hs : swapsWithSole [.Tuple [.Name x px, .Name y py] kt pt] (.Tuple [a, b] k2 pt2) pos.line X.env = pure false := by rfl) :
    DS X G W (.Assign [.Tuple [.Name x px, .Name y py] kt pt] (.Tuple [a, b] k2 pt2) pos) (S.parFD i j mc mb) := by
  refine impS (ps_par hc hN hi hj hij hx hy (pa_cons ha (pa_cons (pin_d hb) pa_nil hs2) hs1) hw hs) ?_
  rintro E σ H ⟨ρ, f, r, R, hm, hp⟩
  show tF G W mc σ H (fun v H1 => tPinD G mb σ H1 (fun w H2 => ∃ v' w', [v, w] = [v', w'] ∧ E.nx ((σ.set i (some v')).set j (some w')) H2))
  refine tF_of R hm hp fun c ρ1 q H1 hk N x1 => ?_
  obtain ⟨o, eo⟩ := N.ok.at
  have ap := N.apt
  have RP := N.pinned eo
  cases e1 : mb ρ1 with
  | none => rw [e1] at hk; cases hk
  | some rr =>
    rw [e1] at hk
    cases rr with
    | exc c' ρ' => cases hk
    | val d ρ2 =>
    refine ⟨q, o, ρ1, f, _, RP, e1, fun w H2 R2 x2 hw => ?_⟩
    have hk2 := hk
    dsimp only at hk2
    split at hk2
    · cases hk2
    · rename_i hn
      cases hk2
      simp only [not_or, Bool.not_eq_true] at hn
      have x2' : Ext (fun a => Bad G ρ1 f a ∨ a = q) H1 (Bad (G.pin q o) ρ2 f) H2 := fun a ob hb e => x2 a ob (fun z => hb (bad_pin.mp z)) e
      have at2 : H2 q = H1 q := (R2.at ap).trans eo.symm
      have N2 : NewAt G σ H2 ρ2 f q c := R2.newBack ap (N.ok.ext x2' at2)
      obtain ⟨f', R3, sub⟩ := N2.put (i := i) hn.1
      have hw' : Has G.K (Bad G (ρ2.set i (some (.mut true c))) f') H2 w d := Has.ext (B := Bad (G.pin q o) ρ2 f) (fun a ob hb e => ⟨fun z => hb (bad_pin.mpr (sub a z)), e⟩) hw
      obtain ⟨R4, x4⟩ := R3.putD (i := j) (isInn_setM hn.2.1) hw'
      refine ⟨.ref q, w, rfl, hp _ _ f' R4 fun a ob hb e => ?_⟩
      obtain ⟨g1, g2⟩ := x1 a ob hb e
      obtain ⟨g3, g4⟩ := x2' a ob g1 g2
      exact x4 a ob (fun z => g3 (bad_pin.mpr (sub a z))) g4
/-! ### range(i, j, c) -/
def rng3L (lo c : Int) (n : Nat) : List D := (List.range n).map fun i => .int (lo + (i : Nat) * c)
def rng3N (i j c : Int) : Option Nat := if okR i = true ∧ okR j = true ∧ 0 < c ∧ c < 1073741824 ∧ Builtin.Range.small i j c = true ∧ 0 ≤ Builtin.Range.rangeSize i j c then some (Builtin.Range.rangeSize i j c).toNat else none
def rng3D : List D → Option (List D)
  | [.int i, .int j, .int c] => (rng3N i j c).map (rng3L i c)
  | _ => none
def M.rng3 (ms : M (List D)) : M (List D) := ms.bind fun ds => .lift (rng3D ds)
theorem walk_rng3 {K : PySem.W.Frag} {B : Addr → Prop} {H : Hp} {lo k : Int} {n : Nat} : WalkOk G B H (rng3L lo k n) (Itc lo k n) n (fun _ => True) (YFn fun i => .int (lo + (i : Nat) * k)) := by
  refine ⟨by simp [rng3L], walk_rangeC, fun _ _ _ => trivial, fun i d B' H2 x H3 e x2 hf y => ?_⟩
  obtain ⟨rfl, rfl⟩ := y
  refine ⟨Same.refl _, ?_⟩
  simp only [rng3L, List.getElem?_map, Option.map_eq_some_iff] at e
  obtain ⟨j, e1, rfl⟩ := e
  obtain ⟨h1, h2⟩ := List.getElem?_eq_some_iff.mp e1
  rw [List.getElem_range] at h2
  subst h2
  exact .int _
theorem di_range3 (hm : X.mg "range" = none) (ha : DA X G W [a, b, c] ms) (hg : Gl X "range" := by rfl)
    (hs : starEach [a, b, c] X.env = (false, eval a X.env) :: starEach [b, c] X.env := by rfl) (hpl : (backTo pos (starEach [b, c] X.env)).any (·.1) = false := by rfl) :
    DI X G W tg (.Call (.Name "range" p) [a, b, c] [] pos) (M.rng3 ms) := by
  refine impI (pi_range3 hg hm ha hs hpl) ?_
  rintro σ H Rr ⟨ρ, f, r, R, hm', hp⟩
  refine tA_bind R hm' (xok hp) fun ds ρ1 vs H1 hk1 R1 x1 hv => ?_
  obtain ⟨es, e, er⟩ := lift_inv hk1
  subst er
  unfold rng3D at e
  split at e
  · rename_i i j k
    simp only [Option.map_eq_some_iff] at e
    obtain ⟨n, en, rfl⟩ := e
    unfold rng3N at en
    split at en
    · rename_i ho
      cases en
      cases hv with
      | cons h1 h2 =>
        cases h2 with
        | cons h2 h3 =>
          cases h3 with
          | cons h3 h4 =>
            cases h4
            obtain ⟨o1, o2, o3, o4, o5, o6⟩ := ho
            exact ⟨i, j, k, _, by rw [h1.int_inv, h2.int_inv, h3.int_inv], ⟨by omega, by omega, o5, by omega⟩, hp _ _ _ _ H1 R1 x1 (walk_rng3 (K := G.K))⟩
    · cases en
  · cases e
/-! ### constants of the module that are tuples of ints -/
theorem con_tup {K : PySem.W.Frag} {mg : Str → Option Value} {x : Str} {q : Addr} {o : Obj} {its : Array Value} {n : Nat} {ns : List Int} (hm : mg x = some (.ref q)) (hl : K.lookup q = some o) (hc : o.cls = .type "tuple") (hd : o.data = .seq its n) (hz : its.size ≤ sizeLine) (hv : Vals (ns.map V.int) its.toList) :
    Con K mg x (.tuple (ns.map PyData.int)) := ⟨.ref q, _, hm, rfl, fun B H => .tup (.inr ⟨o, its, n, hl, hc, hd, hz, hv⟩) (HasL.ints ns)⟩
end
end DL
namespace DL
open PySem PySem.Spec PyProof PyProof.Rows L2
/-! ### a list times an int -/
theorem list_mulW (l : Addr) (items : Array Value) (n : Nat) (x : Int) (u : Tok) (dd : Option Addr) (sl : Array (Option Value)) (hc0 : ¬(!Builtin.List.listFitsIndex x) = true) (hc1 : ¬items.size * x.toNat > (2 ^ 63 - 1) / 8) (hc2 : ¬Builtin.List.listTooLong (items.size * x.toNat) = true) :
    Meets (Builtin.«list.__mul__» ⟨[.ref l, .int x u], []⟩) (fun _ R s => s.heap.get? l = some { cls := .type "list", dict := dd, data := .seq items n, slots := sl } ∧ R (.ok (.ret (Value.ref s.heap.objs.size))) { s with heap := s.heap.push { cls := Value.type "list", data := Data.seq (List.foldl (fun x1 x2 => x1 ++ x2) #[] (List.replicate (if items.isEmpty = true then 0 else x.toNat) items)) }, toks := s.toks }) :=
  .of_wp fun prog w A R s h => by
    obtain ⟨hp, g, d, tk, os⟩ := s; obtain ⟨hl, h⟩ := h
    have hsz := AutoListH.joined_fits hc2
    wp_walk using AutoSeq1.wpAny_loadPart' hl; refine wpAny_ite_false (decide_eq_false (Nat.not_lt.mpr hsz)) ?_; wp_walk using AutoSeq1.wpAny_loadPart' hl; exact ⟨_, rfl, h⟩
theorem int_rmulW (a : Int) (t : Tok) (l : Addr) (items : Array Value) (n : Nat) (dd : Option Addr) (sl : Array (Option Value)) :
    Meets (Builtin.«int.__rmul__» ⟨[.int a t, .ref l], []⟩) (fun _ R s => s.heap.get? l = some { cls := .type "list", dict := dd, data := .seq items n, slots := sl } ∧ R (.ok (.ret Value.notImplemented)) s) :=
  .of_wp fun prog w A R s h => by obtain ⟨hp, g, d, tk, os⟩ := s; obtain ⟨hl, h⟩ := h; wp_walk using AutoSeq1.wpAny_loadPart' hl; exact ⟨_, rfl, h⟩
def rRepL (K : PySem.W.Frag) : R2 := fun x y H Q => ∃ l k xs, x = .ref l ∧ y = .int k ∧ SqL K H l xs ∧ -(2 ^ 63) ≤ k ∧ k < 2 ^ 63 ∧ xs.length * k.toNat ≤ sizeLine ∧
  ∀ p, H p = none → Q (.ref p) (upd H p (.lst (List.replicate k.toNat xs).flatten))
theorem op_repL {X : Cx} : OpR X (binaryOp .Mult) (rRepL X.K) := by
  intro pins s σ H x y v u Q I rx ry h
  obtain ⟨l, k, xs, rfl, rfl, hH, h1, h2, hz, q⟩ := h
  cases rx
  obtain ⟨t, rfl⟩ := ry
  obtain ⟨its, r, pl, z1⟩ := I.list hH
  have hl := r.length
  obtain ⟨⟨cls, dd, data, sl⟩, ho, hc, n, hd⟩ := pl.isList
  simp only at hc hd
  subst hc hd
  have hlen : its.toArray.size * k.toNat ≤ sizeLine := by rw [List.size_toArray, ← hl]; exact hz
  have hcap : ¬ its.toArray.size * k.toNat > (2 ^ 63 - 1) / 8 := by
    have : (sizeLine : Nat) ≤ (2 ^ 63 - 1) / 8 := by decide
    omega
  have hfit : ¬ (!Builtin.List.listFitsIndex k) = true := by
    rw [fitsIndex_both h1 h2]
    exact Bool.false_ne_true
  have hlong : ¬ Builtin.List.listTooLong (its.toArray.size * k.toNat) = true := by
    rw [notLongL hlen]
    exact Bool.false_ne_true
  have hnew : List.foldl (fun x1 x2 => x1 ++ x2) #[] (List.replicate (if its.toArray.isEmpty = true then 0 else k.toNat) its.toArray) = (List.replicate k.toNat its).flatten.toArray := by
    have f0 : ∀ m : Nat, List.foldl (fun x1 x2 => x1 ++ x2) #[] (List.replicate m its.toArray) = (List.replicate m its).flatten.toArray := fun m => by
      have := L2.foldl_rep its m []
      rw [List.nil_append] at this
      exact this
    rw [f0]
    cases its with
    | nil => simp
    | cons a r' => rw [if_neg (by simp)]
  refine wpAny_binaryOp_repeat_ref (T := "list") (U := "int") (by decide) ⟨_, ho, rfl⟩ (fun s' => typeIs_int s' k t) noFill_list_mul PySem.F.fills_int_mul PySem.F.slot_int_rmul repeat_list PySem.F.slot_int_index.lookup
    (call_meets PySem.F.slot_int_rmul (typeIs_int s k t) PySem.F.entry_int_rmul (PySem.F.args_int_rmul_2 _ _) (int_rmulW k t l its.toArray n dd sl)
      ⟨ho, rfl, ⟨_, ho, rfl⟩, call_meets PySem.F.slot_list_mul ⟨_, ho, rfl⟩ PySem.F.entry_list_mul (PySem.F.args_list_mul_2 _ _) (list_mulW l its.toArray n k t dd sl hfit hcap hlong) ⟨ho, ?_⟩⟩)
  rw [hnew]
  exact ⟨.ref _, _, I.lnew (t' := s.toks) (r.rep k.toNat) (by rw [PyProof.Rows.lm_len_rep_flat, Nat.mul_comm]; exact hz), rfl, q _ I.fresh⟩
theorem of_repL {K : PySem.W.Frag} : OpF K (rRepL K) mulF := by
  intro B H x y d e z Q hf hx hy hg hq
  cases d <;> cases e <;> try (simp [mulF] at hg)
  rename_i xs k
  obtain ⟨⟨h1, h2, hl⟩, rfl⟩ := hg
  obtain ⟨a, vs, rfl, r1, s1, hv⟩ := hx.lst
  refine ⟨a, k, vs, rfl, hy.int, s1, by omega, by omega, by rw [hv.length]; exact hl, fun p hp => hq p _ (same_upd hp) hp ⟨_, upd_same, ?_⟩⟩
  have x1 : Ext B H (fun a => B a ∨ a = p) (upd H p (.lst (List.replicate k.toNat vs).flatten)) := fun c o hc ho => ⟨fun z => z.elim hc (ne_of_none ho hp), (same_upd hp) _ _ ho⟩
  exact (hv.ext x1).rep _
section
variable {X : Cx} {G : Gc} {W : WX} {a b : Expr} {ma mb : M D} {pos : Pos}
theorem df_mul (ha : DE X G W a ma) (hb : DK X G W b mb) (hk : X.K = G.K := by rfl) : DF X G W (.BinOp a .Mult b pos) (M.binF mulF ma mb) := df_op op_repL of_repL ha hb hk
end
end DL
namespace DL
open PySem PySem.Spec PyProof.Rows L2

/-! ### {}, d[k] = v -/
def mutK (ρ : Rho) (i : Nat) : Option (Bool × List (Key × D)) := match ρ[i]? with
  | some (some (.mut b (.dK kvs))) => some (b, kvs)
  | _ => none
theorem mutK_inv {ρ : Rho} {i : Nat} {b : Bool} {kvs : List (Key × D)} (h : mutK ρ i = some (b, kvs)) : ρ[i]? = some (some (.mut b (.dK kvs))) := by
  unfold mutK at h
  split at h
  · rename_i b' ds' e
    cases h
    exact e
  · cases h
def S.putIx (i : Nat) (mk me : M D) : SS := S.of me fun d ρ => match mutK ρ i with
  | none => none
  | some _ => S.of mk (fun k ρ' => match keyOf k, mutK ρ' i with
    | some kk, some (b, kvs) => if kvs.length < 16777216 then some (.nx (ρ'.set i (some (.mut b (.dK (putD kvs kk d)))))) else none
    | _, _ => none) ρ
def M.dct0 : M Cell := M.ret (.dK [])
section
variable {X : Cx} {G : Gc} {W : WX} {e ei : Expr} {mk me : M D} {pos : Pos} {k : Nat}
theorem df_dct0 : DF X G W (.Dict [] [] pos) M.dct0 := by
  refine imp pe_dnewK ?_
  rintro σ H Q ⟨ρ, f, r, R, hm, hp⟩
  cases hm
  exact fun p h0 => hp _ _ (.mk' R h0 (same_upd h0) ⟨[], upd_same, rfl, .nil⟩) (Ext.fresh h0 (same_upd h0))
theorem Rel.mutDk {σ : L2.St} {H : Hp} {ρ : Rho} {f : Nat → Addr} {i : Nat} {b : Bool} {kvs : List (Key × D)} (R : Rel G σ H ρ f) (h : mutK ρ i = some (b, kvs)) : σ[i]? = some (some (.ref (f i))) ∧ ∃ kv', H (f i) = some (.dK kv') ∧ HasKV G.K (Bad G ρ f) H kv' kvs := by
  obtain ⟨e, kv', h1, h2, h3⟩ := R.mutAt (mutK_inv h)
  exact ⟨e, kv', h1, h2, h3⟩
theorem Rel.dkUpd {σ : L2.St} {H : Hp} {ρ : Rho} {f : Nat → Addr} {i : Nat} {b : Bool} {kvs es : List (Key × D)} {ws : List (Key × V)} (R : Rel G σ H ρ f) (h : mutK ρ i = some (b, kvs)) (hw : HasKV G.K (Bad G ρ f) H ws es) :
    Rel G σ (L2.upd H (f i) (.dK ws)) (ρ.set i (some (.mut b (.dK es)))) f ∧ Ext (Bad G ρ f) H (Bad G (ρ.set i (some (.mut b (.dK es)))) f) (L2.upd H (f i) (.dK ws)) := by
  have e := mutK_inv h
  have hb := R.mutBad e
  have hw' : HasKV G.K (Bad G ρ f) (L2.upd H (f i) (.dK ws)) ws es := hw.ext fun a o h1 h2 => ⟨h1, by
    have hne : a ≠ f i := fun z => h1 (by rw [z]; exact hb)
    rw [upd_ne hne]
    exact h2⟩
  exact R.upd1 e ⟨ws, upd_same, hw'.1, hw'.2⟩ fun a o h1 h2 => by rw [upd_ne (Ne.symm h2)]; exact h1
theorem ds_putIx {x : Str} {px tpos : Pos} (hr : Room k X.A) (i : Nat) (hv' : DE X G W e me) (hi' : DE X G W ei mk) (hN : X.N[i]? = some x := by rfl) (hv : Vis X.env.scope x := by first | exact Or.inl rfl | exact Or.inr (Or.inl rfl) | exact Or.inr (Or.inr rfl)) (hd : (x == ("__debug__" : Str)) = false := by decide)
    (hcd : (x == ("__classdict__" : Str)) = false := by decide) (ha : ∀ v, assign (.Subscript (.Name x px) ei tpos) X.env v = (do
      let ov ← holding [v] (eval (.Name x px) X.env)
      let iv ← holding [v, ov] (eval ei X.env)
      standAt tpos
      holding [v, ov, iv] (setItem ov iv v)
      release [v, ov, iv] []) := by intro _; rfl) (hs : swapsWithSole [.Subscript (.Name x px) ei tpos] e pos.line X.env = pure false := by rfl) (hw : swappedStores [.Subscript (.Name x px) ei tpos] e X.env = pure none := by rfl)
    (h1 : (assignEach [.Subscript (.Name x px) ei tpos] X.env).map (·.2) = [assign (.Subscript (.Name x px) ei tpos) X.env] := by rfl) :
    DS X G W (.Assign [.Subscript (.Name x px) ei tpos] e pos) (S.putIx i mk me) := by
  refine impS (ps_asg hv' (pg_sub (pv i hN hv hd hcd) hi' (set_dict (by have := units64 hr; omega)) ha) hs hw h1) ?_
  rintro E σ H ⟨ρ, f, r, R, hm, hp⟩
  refine tD_of (α := D) R hm hp fun d ρ1 v H1 hk R1 x1 hv => ?_
  cases e0 : mutK ρ1 i with
  | none => rw [e0] at hk; cases hk
  | some bd =>
    rw [e0] at hk
    dsimp only at hk
    obtain ⟨b0, ds0⟩ := bd
    obtain ⟨e1, _⟩ := R1.mutDk e0
    refine ⟨_, e1, ?_⟩
    refine tD_of (α := D) R1 hk (hp.mono x1) fun kd ρ2 kv H2 hk2 R2 x2 hkv => ?_
    split at hk2
    · rename_i kk b1 kvs ek e2
      split at hk2
      · rename_i hl
        cases hk2
        obtain ⟨_, kv', h1, hh⟩ := R2.mutDk e2
        have hlen : kv'.length = kvs.length := by
          have := congrArg List.length hh.1
          simpa using this
        obtain ⟨R3, x3⟩ := R2.dkUpd e2 (hh.put (k := kk) (hv.ext x2))
        rw [keyOf_inv ek] at hkv
        exact ⟨f i, _, rfl, .inl ⟨kv', kk, h1, hkv.key, by rw [hlen]; exact hl, rfl⟩, hp σ _ f R3 ((x1.trans x2).trans x3)⟩
      · cases hk2
    · cases hk2
end
end DL
namespace DL
open PySem PySem.Spec PyProof.Rows L2

/-! ### the end: every def's table is empty at the start -/
def AllTab (q : Program) (K : PySem.W.Frag) (mg : Str → Option Value) (h : Heap) : Prop := ∀ (nm : Str) (fa : Addr), ((recsOf q).any fun e => e.name == nm) = true → mg nm = some (.ref fa) → LamX.OwnTab K fa h
theorem walk_all {l : PySem.W.OpenLaw} {n k : Nat} {q : Program} {loose : List Str} {XP : (Str → Option Value) → Heap → Prop} {YP : World → Heap → Prop} {d : DefRec} {K : Params → PySem.W.Frag} {CX : World → CXT} {x : Str}
    (hn : l.most = some n) (hn2 : n ≤ sizeLine) (hdf : d.params.defaults = []) (hr : Room k callerA) (hY : ∀ (w : World) (h : Heap), YP w h → (K w.params).In h)
    (F : ∀ (w : World) (mg : Str → Option Value) (fa : Addr) (h : Heap), YP w h → (K w.params).In h → h.Ns mainGlobals mg → mg d.name = some (.ref fa) → AllTab q (K w.params) mg h → LamX.LawAtS l w (K w.params) (CX w) k n x mg fa h)
    (hCX : ∀ (w : World) (H : Hp) (s : Shared) (e : Value) (s' : Shared), CX w [] H s (fun _ _ _ => False) e s' → False) :
    PySem.W.WalkO q loose XP YP l.row.toRowW d [] (fun f vs => PySem.call f vs) := by
  refine Att.attach_callB hn hdf fun w s₀ s₁ mg mb fa o pm cd doc a vs ns G Y ho hd hcd hmg hobj hints hlen hbits hg => ?_
  have KX := hY w _ Y
  have all : AllTab q (K w.params) mg s₁.heap := fun nm fb hrec hfb c P o1 fd1 e dd vs1 sl k1 k2 k3 k4 k5 => by
    obtain ⟨dL, hm, hn1⟩ := List.any_eq_true.mp hrec
    have hn2 : dL.name = nm := beq_iff_eq.mp hn1
    obtain ⟨a', o', fd', c', P', h1, h2, h3, h4, h5, h6⟩ := G.T.tab dL hm
    rw [hn2, hfb] at h1
    cases h1
    rw [KX _ _ k1] at h2
    cases h2
    rw [k2] at h3
    cases h3
    rw [k3] at h4
    cases h4
    obtain ⟨⟨oc, vc, e1, _, e3, e4⟩, hP⟩ := h6
    rw [KX _ _ k4] at e1
    cases e1
    cases e3
    rw [k5] at e4
    cases e4
    exact hP
  obtain ⟨fd, cs, sp, hT, nT, C, hb, hsp, hF⟩ := F w mg fa _ Y KX G.T.g hmg all
  exact LamX.law_callTs KX G.T.g G.T.b G.T.builtins G.T.nolimit hg hT nT C G.T.bmain hobj hints (Nat.le_trans hlen hn2) hr hF hb (fun H hH hS => hsp H a ns hlen hbits hH hS) fun H e s' => hCX w H s₁ e s'

/-- a def's code object, as it is written -/
structure CodeW (vs : Array Value) (c P : Addr) : Prop where
  e11 : vs[11]? = some (.ref P)
  g11 : vs.getD 11 .none = .ref P
  g18 : ∃ file tf, vs.getD 18 .none = .str file tf
  g7 : ∃ flags tg, vs.getD 7 .none = .int flags tg
  g9 : ∃ inF, vs.getD 9 .none = .bool inF
  g10 : ∃ text tt, vs.getD 10 .none = .int text tt
  ne : c ≠ P
theorem code_of {K : PySem.W.Frag} {h : Heap} {c P : Addr} {dd : Option Addr} {vs : Array Value} {sl : Array (Option Value)} (X : K.In h) (r : K.lookup c = some ⟨.type "code", dd, .fields vs, sl⟩) (t : CodeW vs c P) : PySem.W.CodeHd h c P := by
  obtain ⟨a, b, ⟨_, _, c18⟩, ⟨_, _, c7⟩, ⟨_, c9⟩, ⟨_, _, c10⟩, ne⟩ := t
  exact ⟨_, vs, _, _, _, _, _, _, _, X _ _ r, rfl, rfl, a, b, c18, c7, c9, c10, ne⟩

/-! ### the law's promise -/
def spL (K : PySem.W.Frag) (T : Addr → Prop) (n : Nat) : Sp := fun vs H Q _ => ∃ (a : Addr) (ns : List Int), vs = [.ref a] ∧ SqL K H a (ns.map V.int) ∧ ns.length ≤ n ∧ (∀ z ∈ ns, Builtin.Int.intBits z ≤ 1048576) ∧ (∀ P, T P → H P = some (.tbl #[])) ∧ ∀ H', Q (.bl true) H'
theorem spL_to {K : PySem.W.Frag} {mg : Str → Option Value} {T : Addr → Prop} {n : Nat} {F : Fn} (hF : ∀ ns : List Int, ns.length ≤ n → (∀ z ∈ ns, Builtin.Int.intBits z ≤ 1048576) → F [.dat (.list (ns.map PyData.int))] = some (.ret (.bool true) [])) :
    ∀ vs H Q E, spL K T n vs H Q E → spF K mg T F vs H Q E0 := by
  rintro vs H Q E ⟨a, ns, rfl, hS, hl, hb, ht, q⟩
  refine ⟨T, [.dat (.list (ns.map PyData.int))], [], _, .dat ?_ .nil, ⟨fun P hP => ⟨_, ht P hP⟩, fun P hP => ⟨hP, #[], ht P hP, by simp [TriplesOk]⟩⟩, hF ns hl hb, fun v H' _ _ hh => ?_⟩
  · refine .lst ?_ (HasL.ints ns)
    rcases hS with hS | hS
    · refine .inl ⟨fun hT => ?_, hS⟩
      have e := ht a hT
      rcases hS with hS | ⟨o, hS⟩ <;> rw [e] at hS <;> cases hS
    · exact .inr hS
  · cases hh.bl_inv
    exact q H'
end DL
namespace DL
open PySem PySem.Spec PyProof.Rows L2

/-! ### runs, plainly -/
theorem seq_nx {m n : SS} {ρ ρ1 : Rho} (h : m ρ = some (.nx ρ1)) : S.seq m n ρ = n ρ1 := by unfold S.seq; rw [h]
theorem of_val {α : Type} {m : M α} {k : α → SS} {ρ ρ1 : Rho} {a : α} (h : m ρ = some (.val a ρ1)) : S.of m k ρ = k a ρ1 := by unfold S.of; rw [h]
theorem bind_val {α β : Type} {m : M α} {k : α → M β} {ρ ρ1 : Rho} {a : α} (h : m ρ = some (.val a ρ1)) : M.bind m k ρ = k a ρ1 := by unfold M.bind; rw [h]
/-- a loop by its state: I of what is left -/
theorem loop_run {α : Type} {g : TgM} {body : SS} (st : α → Rho) (step : α → D → α) (I : List D → α → Prop) (hs : ∀ d r a, I (d :: r) a → ∃ ρ1, g d (st a) = some ρ1 ∧ body ρ1 = some (.nx (st (step a d))) ∧ I r (step a d)) :
    ∀ (ds : List D) (a : α), I ds a → loopM g body ds (st a) = some (.nx (st (ds.foldl step a)))
  | [], a, _ => rfl
  | d :: r, a, h => by
    obtain ⟨ρ1, h1, h2, h3⟩ := hs d r a h
    show (match g d (st a) with | none => none | some ρ1 => S.turn body (loopM g body r) ρ1) = _
    rw [h1]
    show S.turn body (loopM g body r) ρ1 = _
    unfold S.turn
    rw [h2]
    exact loop_run st step I hs r _ h3
theorem for_run {α : Type} {ms : M (List D)} {g : TgM} {body : SS} {ρ : Rho} {ds : List D} {a : α} (st : α → Rho) (step : α → D → α) (I : List D → α → Prop) (hm : ms ρ = some (.val ds (st a)))
    (hs : ∀ d r a, I (d :: r) a → ∃ ρ1, g d (st a) = some ρ1 ∧ body ρ1 = some (.nx (st (step a d))) ∧ I r (step a d)) (h0 : I ds a) : S.forS ms g body ρ = some (.nx (st (ds.foldl step a))) := by
  unfold S.forS
  rw [of_val hm]
  exact loop_run st step I hs ds a h0
/-- a comprehension that leaves the state as it is -/
structure Turns (g : TgM) (mt : M Bool) (me : M D) (vs : List Nat) (ρ : Rho) (b : D → Bool) (y : D → D) (d : D) : Prop where
  ex : ∃ ρ1 ρ2, g d ρ = some ρ1 ∧ mt ρ1 = some (.val (b d) ρ2) ∧ (b d = false → noInn ρ2 vs = true ∧ wipeR ρ2 vs = ρ) ∧ (b d = true → ∃ ρ3, me ρ2 = some (.val (y d) ρ3) ∧ noInn ρ3 vs = true ∧ wipeR ρ3 vs = ρ)
theorem lcLoop_run {g : TgM} {mt : M Bool} {me : M D} {vs : List Nat} {ρ : Rho} {b : D → Bool} {y : D → D} : ∀ (ds acc : List D), (∀ d ∈ ds, Turns g mt me vs ρ b y d) → acc.length + ds.length ≤ 16777216 → lcLoop g mt me vs ds acc ρ = some (acc ++ (ds.filter b).map y, ρ)
  | [], acc, _, _ => by simp [lcLoop]
  | d :: r, acc, h, hl => by
    obtain ⟨ρ1, ρ2, h1, h2, h3, h4⟩ := (h d (by simp)).ex
    simp only [List.length_cons] at hl
    simp only [lcLoop, h1, h2]
    cases hb : b d with
    | false =>
      obtain ⟨h5, h6⟩ := h3 hb
      simp only [h5, if_true, h6]
      rw [lcLoop_run r acc (fun d hd => h d (by simp [hd])) (by omega)]
      simp [hb]
    | true =>
      obtain ⟨ρ3, h5, h6, h7⟩ := h4 hb
      have hlt : acc.length < 16777216 := by omega
      simp only [h5, h6, hlt, and_self, if_true, h7]
      rw [lcLoop_run r (acc ++ [y d]) (fun d hd => h d (by simp [hd])) (by simp; omega)]
      simp [hb]
theorem lc_run {ms : M (List D)} {g : TgM} {mt : M Bool} {me : M D} {vs : List Nat} {ρ ρ1 : Rho} {b : D → Bool} {y : D → D} {ds : List D} (hm : ms ρ = some (.val ds ρ1)) (hn : noInn ρ1 vs = true) (hw : wipeR ρ1 vs = ρ1) (h : ∀ d ∈ ds, Turns g mt me vs ρ1 b y d) (hl : ds.length ≤ 16777216) :
    M.lc ms g mt me vs ρ = some (.val (.lst ((ds.filter b).map y)) ρ1) := by
  unfold M.lc
  rw [bind_val hm]
  simp only [hn, if_true, hw]
  rw [lcLoop_run ds [] h (by simpa using hl)]
  simp [hn, hw]
theorem geLoop_run {stop : Bool} {g : TgM} {mt : M Bool} {me : M D} {vs : List Nat} {ρ : Rho} {b t : D → Bool} : ∀ (ds : List D), (∀ d ∈ ds, Turns g mt me vs ρ b (fun d => .bool (t d)) d) → geLoop stop g mt me vs ds ρ = some (if (ds.filter b).any (fun d => t d == stop) = true then stop else !stop, ρ)
  | [], _ => by simp [geLoop]
  | d :: r, h => by
    obtain ⟨ρ1, ρ2, h1, h2, h3, h4⟩ := (h d (by simp)).ex
    simp only [geLoop, h1, h2]
    cases hb : b d with
    | false =>
      obtain ⟨h5, h6⟩ := h3 hb
      simp only [h5, if_true, h6]
      rw [geLoop_run r fun d hd => h d (by simp [hd])]
      simp [hb]
    | true =>
      obtain ⟨ρ3, h5, h6, h7⟩ := h4 hb
      simp only [h5, h6, if_true, h7]
      by_cases ht : t d = stop
      · simp [hb, ht]
      · rw [if_neg ht, geLoop_run r fun d hd => h d (by simp [hd])]
        simp [hb, ht]
theorem ge_run {stop : Bool} {ms : M (List D)} {g : TgM} {mt : M Bool} {me : M D} {vs : List Nat} {ρ ρ1 : Rho} {b t : D → Bool} {ds : List D} (hm : ms ρ = some (.val ds ρ1)) (hn : noInn ρ1 vs = true) (hw : wipeR ρ1 vs = ρ1) (h : ∀ d ∈ ds, Turns g mt me vs ρ1 b (fun d => .bool (t d)) d) :
    M.ge stop ms g mt me vs ρ = some (.val (.bool (if (ds.filter b).any (fun d => t d == stop) = true then stop else !stop)) ρ1) := by
  unfold M.ge
  rw [bind_val hm]
  simp only [hn, if_true, hw]
  rw [geLoop_run ds h]
  simp [hn, hw]
theorem siLoop_run {g : TgM} {mt : M Bool} {me : M D} {vs : List Nat} {ρ : Rho} {b : D → Bool} {y : D → Int} : ∀ (ds : List D) (acc : List Int), (∀ d ∈ ds, Turns g mt me vs ρ b (fun d => .int (y d)) d) → (∀ k ≤ ds.length, (((ds.take k).filter b).foldl (fun a d => insI (y d) a) acc).length < 1000) →
    siLoop g mt me vs ds acc ρ = some ((ds.filter b).foldl (fun a d => insI (y d) a) acc, ρ)
  | [], acc, _, _ => by simp [siLoop]
  | d :: r, acc, h, hl => by
    obtain ⟨ρ1, ρ2, h1, h2, h3, h4⟩ := (h d (by simp)).ex
    have h0 := hl 0 (Nat.zero_le _)
    simp only [List.take_zero, List.filter_nil, List.foldl_nil] at h0
    simp only [siLoop, h1, h2]
    cases hb : b d with
    | false =>
      obtain ⟨h5, h6⟩ := h3 hb
      simp only [h5, if_true, h6]
      rw [siLoop_run r acc (fun d hd => h d (by simp [hd])) fun k hk => by simpa [hb] using hl (k + 1) (by simpa using hk)]
      simp [hb]
    | true =>
      obtain ⟨ρ3, h5, h6, h7⟩ := h4 hb
      simp only [h5, h6, h0, and_self, if_true, h7]
      rw [siLoop_run r (insI (y d) acc) (fun d hd => h d (by simp [hd])) fun k hk => by simpa [hb] using hl (k + 1) (by simpa using hk)]
      simp [hb]

/-! ### ints in a row -/
def rngI (lo hi : Int) : List Int := (List.range (hi - lo).toNat).map fun i => lo + (i : Nat)
theorem rangeL_eq (lo hi : Int) : rangeL lo hi = (rngI lo hi).map PyData.int := by simp [rangeL, rngI, List.map_map, Function.comp_def]
theorem mem_rngI {lo hi x : Int} : x ∈ rngI lo hi ↔ lo ≤ x ∧ x < hi := by
  simp only [rngI, List.mem_map, List.mem_range]
  constructor
  · rintro ⟨i, hi, rfl⟩; omega
  · rintro ⟨h1, h2⟩; exact ⟨(x - lo).toNat, by omega, by omega⟩
theorem rngI_sorted (lo hi : Int) : (rngI lo hi).Pairwise (· < ·) := by
  unfold rngI
  rw [List.pairwise_map]
  exact List.pairwise_lt_range.imp fun h => by omega
theorem rngI_len (lo hi : Int) : (rngI lo hi).length = (hi - lo).toNat := by simp [rngI]

/-! ### data of rows -/
def tupI (xs : List Int) : D := .tuple (xs.map PyData.int)
theorem eqv_ints : ∀ xs ys : List Int, PyData.eqvAll (xs.map PyData.int) (ys.map PyData.int) = decide (xs = ys)
  | [], [] => by simp [PyData.eqvAll]
  | [], _ :: _ => by simp [PyData.eqvAll]
  | _ :: _, [] => by simp [PyData.eqvAll]
  | x :: xs, y :: ys => by
    rw [List.map_cons, List.map_cons, PyData.eqvAll, eqv_ints xs ys]
    by_cases h : x = y <;> simp [PyData.eqv, h]
theorem eqv_tupI (xs ys : List Int) : PyData.eqv (tupI xs) (tupI ys) = decide (xs = ys) := by
  rw [tupI, tupI, PyData.eqv, eqv_ints]
theorem okD_tupI (n : Nat) (xs : List Int) : okD (n + 1) (tupI xs) = true := by
  simp only [tupI, okD, List.all_map, List.all_eq_true]
  intro x _
  cases n <;> rfl
theorem okD_rows (n : Nat) (R : List (List Int)) : okD (n + 2) (.list (R.map tupI)) = true ∧ okD (n + 2) (.tuple (R.map tupI)) = true := by
  simp only [okD, List.all_map, List.all_eq_true]
  exact ⟨fun x _ => okD_tupI n x, fun x _ => okD_tupI n x⟩
theorem alike_ints : ∀ xs ys : List Int, PySem.W.alikeAll (xs.map PyData.int) (ys.map PyData.int) = true
  | [], _ => by simp [PySem.W.alikeAll]
  | _ :: _, [] => by simp [PySem.W.alikeAll]
  | x :: xs, y :: ys => by simp [PySem.W.alikeAll, PySem.W.alike, alike_ints xs ys]
theorem alike_tupI (xs ys : List Int) : PySem.W.alike (tupI xs) (tupI ys) = true := by
  rw [tupI, tupI, PySem.W.alike, alike_ints]
theorem alikeB_rows (R : List (List Int)) : alikeB (R.map tupI) = true := by
  simp only [alikeB, List.all_map, List.all_eq_true, Function.comp_def, Bool.and_eq_true]
  exact fun x _ => ⟨⟨okD_tupI 59 x, by simp [tupI]⟩, fun y _ => alike_tupI x y⟩
theorem lt_tupI (xs ys : List Int) : PySem.W.dataLt (tupI xs) (tupI ys) = decide (xs < ys) := by
  rw [tupI, tupI, PySem.W.dataLt_tuple]
  exact PySem.W.dataLt_ints xs ys
def leR (p q : List Int) : Bool := decide (p ≤ q)
theorem le_tupI : (fun p q : List Int => PySem.W.dataLe false (fun d => d) (tupI p) (tupI q)) = leR := by
  funext p q
  rw [PySem.W.dataLe_eq]
  show (!PySem.W.dataLt (tupI q) (tupI p)) = _
  rw [lt_tupI, leR]
  by_cases h : q < p
  · simp [h, List.not_le.mpr h]
  · simp [h, List.not_lt.mp h]
theorem sortF_rows (R : List (List Int)) (hne : ∀ r ∈ R, r ≠ []) (hl : R.length ≤ 16777216) : sortF (.list (R.map tupI)) = some (.lst ((R.mergeSort leR).map tupI)) := by
  have h1 : sortB (R.map tupI) = true := by
    simp only [sortB, alikeB_rows, Bool.true_and, Bool.or_eq_true]
    refine .inl ?_
    simp only [List.all_map, List.all_eq_true, Function.comp_def]
    intro r hr
    cases r with
    | nil => exact absurd rfl (hne _ hr)
    | cons x xs => rfl
  simp only [sortF, h1, List.length_map, hl, and_self, if_true, Option.some.injEq, Cell.lst.injEq]
  exact (List.map_mergeSort fun a _ b _ => (congrFun (congrFun le_tupI a) b).symm).symm
theorem leR_trans : ∀ a b c : List Int, leR a b = true → leR b c = true → leR a c = true := fun a b c h1 h2 => by
  simp only [leR, decide_eq_true_eq] at *
  exact List.le_trans h1 h2
theorem leR_total : ∀ a b : List Int, (leR a b || leR b a) = true := fun a b => by
  simp only [leR, Bool.or_eq_true, decide_eq_true_eq]
  exact List.le_total a b
theorem leR_anti {a b : List Int} (h1 : leR a b = true) (h2 : leR b a = true) : a = b := by
  simp only [leR, decide_eq_true_eq] at *
  exact List.le_antisymm h1 h2
/-- rows with the same members, none twice, are sorted alike -/
theorem sort_eq {R Q : List (List Int)} (h1 : R.Nodup) (h2 : Q.Nodup) (h : ∀ r, r ∈ R ↔ r ∈ Q) : R.mergeSort leR = Q.mergeSort leR := by
  have hp : R.Perm Q := (List.perm_ext_iff_of_nodup h1 h2).mpr h
  exact List.Perm.eq_of_pairwise (le := fun a b => leR a b = true) (fun a b _ _ x y => leR_anti x y) (List.pairwise_mergeSort leR_trans leR_total R) (List.pairwise_mergeSort leR_trans leR_total Q) ((List.mergeSort_perm R leR).trans (hp.trans (List.mergeSort_perm Q leR).symm))
theorem sort_filter {R : List (List Int)} (b : List Int → Bool) : (R.mergeSort leR).filter b = (R.filter b).mergeSort leR :=
  List.Perm.eq_of_pairwise (le := fun a b => leR a b = true) (fun a b _ _ x y => leR_anti x y) ((List.pairwise_mergeSort leR_trans leR_total R).filter b) (List.pairwise_mergeSort leR_trans leR_total _) (((List.mergeSort_perm R leR).filter b).trans (List.mergeSort_perm _ leR).symm)
theorem eqD_self {d : D} (h : okD 60 d = true) : eqD d d = some (.bool true) := by
  unfold eqD
  rw [if_pos ⟨h, h⟩, SeqAt.eqv_refl_plain d (okD_spec h).1]
theorem neD_self {d : D} (h : okD 60 d = true) : neD d d = some (.bool false) := by
  unfold neD
  rw [if_pos ⟨h, h⟩, SeqAt.eqv_refl_plain d (okD_spec h).1]
  rfl

/-! ### ints compared -/
@[simp] theorem leD_int (i j : Int) : leD (.int i) (.int j) = some (.bool (decide (i ≤ j))) := by
  have h : cmpOk (.int i) (.int j) = true := rfl
  simp only [leD, h, if_true, PySem.W.dataLt_int, Option.some.injEq, PyData.bool.injEq]
  by_cases h : j < i
  · simp [h]
  · simp [h]; omega
@[simp] theorem geD_int (i j : Int) : geD (.int i) (.int j) = some (.bool (decide (j ≤ i))) := by
  have h : cmpOk (.int i) (.int j) = true := rfl
  simp only [geD, h, if_true, PySem.W.dataLt_int, Option.some.injEq, PyData.bool.injEq]
  by_cases h : i < j
  · simp [h]
  · simp [h]; omega
@[simp] theorem ltD_int (i j : Int) : ltD (.int i) (.int j) = some (.bool (decide (i < j))) := by
  have h : cmpOk (.int i) (.int j) = true := rfl
  simp only [ltD, h, if_true, PySem.W.dataLt_int]
@[simp] theorem gtD_int (i j : Int) : gtD (.int i) (.int j) = some (.bool (decide (j < i))) := by
  have h : cmpOk (.int i) (.int j) = true := rfl
  simp only [gtD, h, if_true, PySem.W.dataLt_int]
@[simp] theorem eqD_int (i j : Int) : eqD (.int i) (.int j) = some (.bool (decide (i = j))) := by
  have h : ∀ i : Int, okD 60 (.int i) = true := fun _ => rfl
  simp only [eqD, h, and_self, if_true, PyData.eqv]
  rfl
@[simp] theorem neD_int (i j : Int) : neD (.int i) (.int j) = some (.bool (!decide (i = j))) := by
  have h : ∀ i : Int, okD 60 (.int i) = true := fun _ => rfl
  simp only [neD, h, and_self, if_true, PyData.eqv]
  rfl
@[simp] theorem addD_int (i j : Int) : addD (.int i) (.int j) = some (.int (i + j)) := rfl
@[simp] theorem subD_int (i j : Int) : subD (.int i) (.int j) = some (.int (i - j)) := rfl
@[simp] theorem modD_int {i j : Int} (h : 0 < j) : modD (.int i) (.int j) = some (.int (i % j)) := by simp [modD, intD, okMod, h]
theorem fdivD_int {i j : Int} (h : 0 < j) (h2 : j.natAbs.log2 < 9000) : fdivD (.int i) (.int j) = some (.int (i / j)) := by simp [fdivD, intD, okDiv, h, h2]
theorem mulID_int {i j : Int} (h : i.natAbs.log2 + j.natAbs.log2 < 1000000) : mulID (.int i) (.int j) = some (.int (i * j)) := by simp [mulID, intD, okMulA, okMul, h]
theorem mulID_small {i j : Int} (h : (-(2 ^ 64) < i ∧ i < 2 ^ 64) ∨ (-(2 ^ 64) < j ∧ j < 2 ^ 64)) : mulID (.int i) (.int j) = some (.int (i * j)) := by
  have : okMulA i j = true := by simp only [okMulA, Bool.or_eq_true, Bool.and_eq_true, decide_eq_true_eq]; exact .inr h
  simp [mulID, intD, this]
theorem isT_ok {p : D → Bool} {d : D} (h : okD 60 d = true) : isT p d = some (.bool (p d)) := by simp [isT, h]
theorem log2_le {n k : Nat} (h : n < 2 ^ k) (hk : 0 < k) : n.log2 < k := by
  by_cases h0 : n = 0
  · subst h0; simpa using hk
  · exact (Nat.log2_lt h0).mpr h

/-! ### evaluation, by simp -/
section
variable {α β : Type} (m : M D) (ma mb mc : M D) (mt mu : M Bool) (k : α → M β) (ρ : Rho) (n n' : SS)
@[simp] theorem v_ret (a : α) : M.ret a ρ = some (.val a ρ) := rfl
@[simp] theorem v_bind (m : M α) : M.bind m k ρ = match m ρ with
  | none => none
  | some (.exc c ρ') => some (.exc c ρ')
  | some (.val a ρ') => k a ρ' := rfl
@[simp] theorem v_lift (a : α) : M.lift (some a) ρ = some (.val a ρ) := rfl
@[simp] theorem v_lift0 : M.lift (none : Option α) ρ = none := rfl
@[simp] theorem v_bin (g) : M.bin g ma mb ρ = M.bind ma (fun x => M.bind mb fun y => .lift (g x y)) ρ := rfl
@[simp] theorem v_binF (g) : M.binF g ma mb ρ = M.bind ma (fun x => M.bind mb fun y => .lift (g x y)) ρ := rfl
@[simp] theorem v_un (g) : M.un g ma ρ = M.bind ma (fun x => .lift (g x)) ρ := rfl
@[simp] theorem v_unF (g) : M.unF g ma ρ = M.bind ma (fun x => .lift (g x)) ρ := rfl
@[simp] theorem v_cons (mr : M (List D)) : M.cons ma mr ρ = M.bind ma (fun x => M.bind mr fun xs => .ret (x :: xs)) ρ := rfl
@[simp] theorem v_tup (ms : M (List D)) : M.tup ms ρ = M.bind ms (fun ds => .lift (tupD ds)) ρ := rfl
@[simp] theorem v_lst (ms : M (List D)) : M.lst ms ρ = M.bind ms (fun ds => .lift (lstF ds)) ρ := rfl
@[simp] theorem v_cell (mc : M Cell) : M.cell mc ρ = M.bind mc (fun c => .ret (cellD c)) ρ := rfl
@[simp] theorem v_tru : M.tru m ρ = M.bind m (fun d => .lift (truD d)) ρ := rfl
@[simp] theorem v_asB : M.asB m ρ = M.bind m (fun d => .lift (boolD d)) ρ := rfl
@[simp] theorem v_notB : M.notB mt ρ = M.bind mt (fun b => .ret (!b)) ρ := rfl
@[simp] theorem v_and : M.and mt mu ρ = M.bind mt (fun t => if t = true then mu else .ret false) ρ := rfl
@[simp] theorem v_or : M.or mt mu ρ = M.bind mt (fun t => if t = true then .ret true else mu) ρ := rfl
@[simp] theorem v_andV : M.andV ma mb ρ = M.bind ma (fun x => match x with
  | .bool true => mb
  | .bool false => .ret (.bool false)
  | _ => fun _ => none) ρ := rfl
@[simp] theorem v_orV : M.orV ma mb ρ = M.bind ma (fun x => match x with
  | .bool true => .ret (.bool true)
  | .bool false => mb
  | _ => fun _ => none) ρ := rfl
@[simp] theorem v_notV : M.notV ma ρ = M.bind ma (fun x => match x with
  | .bool b => .ret (.bool (!b))
  | _ => fun _ => none) ρ := rfl
@[simp] theorem v_ife (ma mb : M α) : M.ife mt ma mb ρ = M.bind mt (fun t => if t = true then ma else mb) ρ := rfl
@[simp] theorem v_chain (g g') : M.chain g g' ma mb mc ρ = M.bind ma (fun x => M.bind mb fun y => M.bind (M.lift (g x y)) fun z => match z with
  | .bool true => M.bind mc fun w => .lift (g' y w)
  | .bool false => .ret (.bool false)
  | _ => fun _ => none) ρ := rfl
@[simp] theorem v_part : M.part ma ρ = M.bind ma (fun d => match d with
  | .int i => .ret (some i)
  | _ => fun _ => none) ρ := rfl
@[simp] theorem v_sl (ml mh) : M.sl ma ml mh ρ = M.bind ma (fun x => M.bind ml fun l => M.bind mh fun h => .lift (slD x l h)) ρ := rfl
@[simp] theorem v_slF (ml mh) : M.slF ma ml mh ρ = M.bind ma (fun x => M.bind ml fun l => M.bind mh fun h => .lift (DL.slF x l h)) ρ := rfl
@[simp] theorem v_cdat (mr : M (List CArg)) : M.cdat ma mr ρ = M.bind ma (fun x => M.bind mr fun xs => .ret (.dat x :: xs)) ρ := rfl
@[simp] theorem v_cslot (i : Nat) (mr : M (List CArg)) : M.cslot i mr ρ = match ρ[i]? with
  | some (some (.mut _ _)) => M.bind mr (fun xs => .ret (.slot i :: xs)) ρ
  | _ => none := rfl
@[simp] theorem v_items : M.items m ρ = M.bind m (fun d => .lift (itemsD d)) ρ := rfl
@[simp] theorem v_rng1 (ms : M (List D)) : M.rng1 ms ρ = M.bind ms (fun ds => .lift (rng1D ds)) ρ := rfl
@[simp] theorem v_rng2 (ms : M (List D)) : M.rng2 ms ρ = M.bind ms (fun ds => .lift (rng2D ds)) ρ := rfl
@[simp] theorem v_keysF (mc : M Cell) : M.keysF mc ρ = M.bind mc (fun c => .lift (keysC c)) ρ := rfl
@[simp] theorem v_var (i : Nat) : varM i ρ = match ρ[i]? with
  | some (some (.dat d)) => some (.val d ρ)
  | some (some (.mut true c)) => some (.val (cellD c) (ρ.set i (some (.dat (cellD c)))))
  | _ => none := rfl
@[simp] theorem v_pk (i : Nat) : pkM i ρ = match ρ[i]? with
  | some (some (.dat d)) => some (.val d ρ)
  | some (some (.mut _ c)) => some (.val (cellD c) ρ)
  | _ => none := rfl
@[simp] theorem v_yes : M.yes ρ = some (.val true ρ) := rfl
@[simp] theorem v_app (i : Nat) : M.app i m ρ = match mutL ρ i with
  | none => none
  | some _ => M.bind m (fun d ρ' => match mutL ρ' i with
    | some (b, ds) => if ds.length < 16777216 then some (.val .none (ρ'.set i (some (.mut b (.lst (ds ++ [d])))))) else none
    | none => none) ρ := rfl
@[simp] theorem v_pop (i : Nat) : M.pop i ρ = match mutL ρ i with
  | some (b, ds) => match ds.getLast? with
    | some d => some (.val d (ρ.set i (some (.mut b (.lst ds.dropLast)))))
    | none => none
  | none => none := rfl
@[simp] theorem v_ixV (i : Nat) : M.ixV i m ρ = match mutL ρ i with
  | none => none
  | some _ => M.bind m (fun k ρ' => match mutL ρ' i with
    | some (_, ds) => M.lift (ixD (.list ds) k) ρ'
    | none => none) ρ := rfl
@[simp] theorem v_callM (F : Fn) (ms : M (List CArg)) : callM F ms ρ = M.bind ms (fun cs => fun ρ => if (slotsOf cs).Nodup then match avs ρ cs with
  | none => none
  | some as => match F as with
    | none => none
    | some (.ret d outs) => some (.val d (putOuts ρ (slotsOf cs) outs))
    | some (.retF c outs) => some (.val (cellD c) (putOuts ρ (slotsOf cs) outs))
    | some (.exc c outs) => some (.exc c (putOuts ρ (slotsOf cs) outs)) else none) ρ := rfl
@[simp] theorem v_callF (F : Fn) (ms : M (List CArg)) : callF F ms ρ = M.bind ms (fun cs => fun ρ => if (slotsOf cs).Nodup then match avs ρ cs with
  | none => none
  | some as => match F as with
    | some (.retF c outs) => some (.val c (putOuts ρ (slotsOf cs) outs))
    | some (.exc c outs) => some (.exc c (putOuts ρ (slotsOf cs) outs))
    | _ => none else none) ρ := rfl
@[simp] theorem w_seq : S.seq n n' ρ = match n ρ with
  | some (.nx ρ') => n' ρ'
  | r => r := rfl
@[simp] theorem w_of (m : M α) (k : α → SS) : S.of m k ρ = match m ρ with
  | none => none
  | some (.exc c ρ') => some (.exc c ρ')
  | some (.val a ρ') => k a ρ' := rfl
@[simp] theorem w_nx : S.nx ρ = some (.nx ρ) := rfl
@[simp] theorem w_ret : S.ret m ρ = S.of m (fun d ρ => some (.ret d ρ)) ρ := rfl
@[simp] theorem w_retF (m : M Cell) : S.retF m ρ = S.of m (fun d ρ => some (.retF d ρ)) ρ := rfl
@[simp] theorem w_retN : S.retN ρ = some (.ret .none ρ) := rfl
@[simp] theorem w_drop : S.drop m ρ = S.of m (fun _ ρ => some (.nx ρ)) ρ := rfl
@[simp] theorem w_ife : S.ife mt n n' ρ = S.of mt (fun t => if t = true then n else n') ρ := rfl
@[simp] theorem w_asg (g : TgM) : S.asg m g ρ = S.of m (fun d ρ => match g d ρ with
  | some ρ' => some (.nx ρ')
  | none => none) ρ := rfl
@[simp] theorem w_setF (m : M Cell) (i : Nat) : S.setF m i ρ = S.of m (fun c ρ => if isInn ρ i = true then none else some (.nx (ρ.set i (some (.mut true c))))) ρ := rfl
@[simp] theorem w_setIx (i : Nat) (mk me : M D) : S.setIx i mk me ρ = S.of me (fun d ρ => match mutL ρ i with
  | none => none
  | some _ => S.of mk (fun k ρ' => match k, mutL ρ' i with
    | .int j, some (b, ds) => match ixN ds.length j with
      | some n => some (.nx (ρ'.set i (some (.mut b (.lst (ds.set n d))))))
      | none => none
    | _, _ => none) ρ) ρ := rfl
@[simp] theorem w_par (i j : Nat) : S.par i j ma mb ρ = S.of ma (fun x => S.of mb fun y ρ => if isInn ρ i = true ∨ isInn ρ j = true ∨ i = j then none else some (.nx ((ρ.set i (some (.dat x))).set j (some (.dat y))))) ρ := rfl
@[simp] theorem w_parDF (i j : Nat) (mc : M Cell) : S.parDF i j ma mc ρ = S.of ma (fun x => S.of mc fun y ρ => if isInn ρ i = true ∨ isInn ρ j = true ∨ i = j then none else some (.nx ((ρ.set i (some (.dat x))).set j (some (.mut true y))))) ρ := rfl
@[simp] theorem w_unpL (i l : Nat) (g : List D → Rho → Option Rho) : S.unpL i l g ρ = match mutL ρ i with
  | some (_, ds) => if ds.length = l then match g ds ρ with
    | some ρ' => some (.nx ρ')
    | none => none else none
  | none => none := rfl
@[simp] theorem w_frz (i : Nat) : S.frz i ρ = some (.nx (frzR ρ i)) := rfl
@[simp] theorem w_fgt (l : List Nat) : S.fgt l ρ = some (.nx (forget ρ l)) := rfl
@[simp] theorem t_n (i : Nat) (d : D) : tgN i d ρ = if isInn ρ i = true then none else some (ρ.set i (some (.dat d))) := rfl
@[simp] theorem t_nil : tgNil [] ρ = some ρ := rfl
@[simp] theorem t_cons (g : TgM) (r) (d : D) (ds : List D) : tgCons g r (d :: ds) ρ = (g d ρ).bind (r ds) := rfl
@[simp] theorem t_t (k : Nat) (r) (ds : List D) : tgT k r (.tuple ds) ρ = if ds.length = k then r ds ρ else none := rfl
end
theorem okD_mono : ∀ {n : Nat} {d : D}, okD n d = true → okD (n + 1) d = true
  | n, .none, _ => rfl
  | n, .bool _, _ => rfl
  | n, .int _, _ => rfl
  | n, .str _, _ => rfl
  | n + 1, .list xs, h => by
    simp only [okD, List.all_eq_true] at h ⊢
    exact fun x hx => okD_mono (h x hx)
  | n + 1, .tuple xs, h => by
    simp only [okD, List.all_eq_true] at h ⊢
    exact fun x hx => okD_mono (h x hx)
  | 0, .list _, h => by simp [okD] at h
  | 0, .tuple _, h => by simp [okD] at h
  | n, .dict _, h => by cases n <;> simp [okD] at h
theorem okD_tup {xs : List D} (h : okD 60 (.tuple xs) = true) : ∀ x ∈ xs, okD 60 x = true := by
  simp only [okD, List.all_eq_true] at h
  exact fun x hx => okD_mono (h x hx)
theorem okD_lst {xs : List D} (h : okD 60 (.list xs) = true) : ∀ x ∈ xs, okD 60 x = true := by
  simp only [okD, List.all_eq_true] at h
  exact fun x hx => okD_mono (h x hx)
@[simp] theorem ok_int (i : Int) : okD 60 (.int i) = true := rfl
@[simp] theorem ok_none : okD 60 .none = true := rfl
@[simp] theorem ok_bool (b : Bool) : okD 60 (.bool b) = true := rfl
@[simp] theorem ok_str (b : Str) : okD 60 (.str b) = true := rfl

/-! ### turns of a comprehension -/
theorem turn1 {mt : M Bool} {me : M D} {vs : List Nat} {ρ ρ1 : Rho} {b : D → Bool} {y : D → D} {d : D} {i : Nat} (hi : isInn ρ i = false) (hs : ρ.set i (some (.dat d)) = ρ1) (ht : mt ρ1 = some (.val (b d) ρ1)) (he : b d = true → me ρ1 = some (.val (y d) ρ1)) (hn : noInn ρ1 vs = true) (hw : wipeR ρ1 vs = ρ) : Turns (tgN i) mt me vs ρ b y d :=
  ⟨ρ1, ρ1, by subst hs; simp [hi], ht, fun _ => ⟨hn, hw⟩, fun h => ⟨ρ1, he h, hn, hw⟩⟩
theorem turnG {g : TgM} {mt : M Bool} {me : M D} {vs : List Nat} {ρ ρ1 : Rho} {b : D → Bool} {y : D → D} {d : D} (hs : g d ρ = some ρ1) (ht : mt ρ1 = some (.val (b d) ρ1)) (he : b d = true → me ρ1 = some (.val (y d) ρ1)) (hn : noInn ρ1 vs = true) (hw : wipeR ρ1 vs = ρ) : Turns g mt me vs ρ b y d :=
  ⟨ρ1, ρ1, hs, ht, fun _ => ⟨hn, hw⟩, fun h => ⟨ρ1, he h, hn, hw⟩⟩
@[simp] theorem tru_b (b : Bool) : truD (.bool b) = some b := rfl
@[simp] theorem bool_b (b : Bool) : boolD (.bool b) = some b := rfl
@[simp] theorem items_l (xs : List D) : itemsD (.list xs) = some xs := rfl
@[simp] theorem items_t (xs : List D) : itemsD (.tuple xs) = some xs := rfl
@[simp] theorem len_l (xs : List D) : lenD (.list xs) = some (.int xs.length) := rfl
@[simp] theorem len_t (xs : List D) : lenD (.tuple xs) = some (.int xs.length) := rfl
@[simp] theorem ix_l0 (x : D) (xs : List D) : ixD (.list (x :: xs)) (.int 0) = some x := by
  show L2.atI (x :: xs) 0 = some x
  simp [L2.atI, L2.ixN]
@[simp] theorem ix_t0 (x : D) (xs : List D) : ixD (.tuple (x :: xs)) (.int 0) = some x := by
  show L2.atI (x :: xs) 0 = some x
  simp [L2.atI, L2.ixN]
@[simp] theorem ix_t1 (x y : D) (xs : List D) : ixD (.tuple (x :: y :: xs)) (.int 1) = some y := L2.atI_nat (xs := x :: y :: xs) (j := 1) rfl
@[simp] theorem ix_t2 (x y z : D) (xs : List D) : ixD (.tuple (x :: y :: z :: xs)) (.int 2) = some z := L2.atI_nat (xs := x :: y :: z :: xs) (j := 2) rfl
@[simp] theorem neg_i (i : Int) : negD (.int i) = some (.int (-i)) := rfl
@[simp] theorem intOf_i (i : Int) : intOfD (.int i) = some (.int i) := rfl
@[simp] theorem isT_int (i : Int) : isT PyData.isInt (.int i) = some (.bool true) := rfl
@[simp] theorem is_b (b c : Bool) : isD (.bool b) (.bool c) = some (.bool (b == c)) := rfl
@[simp] theorem nis_b (b c : Bool) : nisD (.bool b) (.bool c) = some (.bool (!(b == c))) := rfl
@[simp] theorem sl_nil : slotsOf [] = [] := rfl
@[simp] theorem sl_dat (d : D) (r : List CArg) : slotsOf (.dat d :: r) = slotsOf r := rfl
@[simp] theorem sl_slot (i : Nat) (r : List CArg) : slotsOf (.slot i :: r) = i :: slotsOf r := rfl
@[simp] theorem av_nil (ρ : Rho) : avs ρ [] = some [] := rfl
@[simp] theorem av_dat (ρ : Rho) (d : D) (r : List CArg) : avs ρ (.dat d :: r) = match avs ρ r with
  | some as => some (.dat d :: as)
  | none => none := rfl
@[simp] theorem put_nil (ρ : Rho) (cs : List Cell) : putOuts ρ [] cs = ρ := by unfold putOuts; rfl
theorem mul_ok {i j : Int} {a b : Nat} (hi : i.natAbs < 2 ^ a) (hj : j.natAbs < 2 ^ b) (ha : 0 < a) (hb : 0 < b) (h : a + b ≤ 1000000) : mulID (.int i) (.int j) = some (.int (i * j)) :=
  mulID_int (by have := log2_le hi ha; have := log2_le hj hb; omega)
@[simp] theorem outs_d (d : D) (as : List Av) (s : Option Sl) (ρ : Rho) : outsOf (.dat d :: as) (s :: ρ) = outsOf as ρ := rfl
@[simp] theorem outs_n (ρ : Rho) : outsOf [] ρ = some [] := by cases ρ <;> rfl

/-! ### a loop that puts rows behind a list -/
theorem rows_loop {g : TgM} {body : SS} (st : List D → Rho) (f : D → List D) (k N : Nat) : ∀ (ds : List D) (acc : List D), (∀ d ∈ ds, (f d).length ≤ k ∧ ∀ acc, acc.length + k ≤ N → ∃ ρ1, g d (st acc) = some ρ1 ∧ body ρ1 = some (.nx (st (acc ++ f d)))) → acc.length + ds.length * k ≤ N →
    loopM g body ds (st acc) = some (.nx (st (acc ++ ds.flatMap f)))
  | [], acc, _, _ => by simp [loopM]
  | d :: r, acc, h, hl => by
    obtain ⟨h1, h2⟩ := h d (by simp)
    rw [List.length_cons, Nat.succ_mul] at hl
    obtain ⟨ρ1, e1, e2⟩ := h2 acc (by omega)
    show (match g d (st acc) with | none => none | some ρ1 => S.turn body (loopM g body r) ρ1) = _
    rw [e1]
    show S.turn body (loopM g body r) ρ1 = _
    unfold S.turn
    rw [e2]
    show loopM g body r (st (acc ++ f d)) = _
    rw [rows_loop st f k N r (acc ++ f d) (fun d hd => h d (by simp [hd])) (by rw [List.length_append]; omega)]
    simp
theorem rows_for {ms : M (List D)} {g : TgM} {body : SS} {ρ : Rho} {ds : List D} (st : List D → Rho) (f : D → List D) (k N : Nat) {acc : List D} (hm : ms ρ = some (.val ds (st acc))) (h : ∀ d ∈ ds, (f d).length ≤ k ∧ ∀ acc, acc.length + k ≤ N → ∃ ρ1, g d (st acc) = some ρ1 ∧ body ρ1 = some (.nx (st (acc ++ f d)))) (hl : acc.length + ds.length * k ≤ N) :
    S.forS ms g body ρ = some (.nx (st (acc ++ ds.flatMap f))) := by
  unfold S.forS
  rw [of_val hm]
  exact rows_loop st f k N ds acc h hl
theorem len_flatMap {α β : Type} {f : α → List β} {k : Nat} : ∀ {l : List α}, (∀ x ∈ l, (f x).length ≤ k) → (l.flatMap f).length ≤ l.length * k
  | [], _ => by simp
  | x :: l, h => by
    rw [List.flatMap_cons, List.length_append, List.length_cons, Nat.succ_mul]
    have := h x (by simp)
    have := len_flatMap (l := l) fun y hy => h y (by simp [hy])
    omega
theorem rng2_int {i j : Int} (hi : okR i = true) (hj : okR j = true) : rng2D [.int i, .int j] = some ((rngI i j).map PyData.int) := by
  simp only [rng2D, hi, hj, and_self, if_true, rangeL_eq]
theorem okR_of {i : Int} (h1 : -(2 ^ 62) ≤ i) (h2 : i < 2 ^ 62) : okR i = true := by
  simp only [okR, Bool.and_eq_true, decide_eq_true_eq]
  exact ⟨h1, h2⟩
@[simp] theorem mutL_at (b : Bool) (ds : List D) (ρ : Rho) : mutL (some (.mut b (.lst ds)) :: ρ) 0 = some (b, ds) := rfl
@[simp] theorem mutL_s (s : Option Sl) (ρ : Rho) (i : Nat) : mutL (s :: ρ) (i + 1) = mutL ρ i := by
  unfold mutL
  simp
theorem run_ret {n N : Nat} {m : SS} {as : List Av} {d : D} {ρ' : Rho} {o : List Cell} (h : m (rho0 N as) = some (.ret d ρ')) (ho : outsOf as ρ' = some o) (hl : as.length = n ∧ n ≤ N) : runF n N m as = some (.ret d o) := by
  unfold runF
  rw [if_pos hl, h]
  simp [ho]
theorem run_retF {n N : Nat} {m : SS} {as : List Av} {d : Cell} {ρ' : Rho} {o : List Cell} (h : m (rho0 N as) = some (.retF d ρ')) (ho : outsOf as ρ' = some o) (hl : as.length = n ∧ n ≤ N) : runF n N m as = some (.retF d o) := by
  unfold runF
  rw [if_pos hl, h]
  simp [ho]
theorem flatMap_map {α β γ : Type} {f : α → List β} {g : β → γ} {h : γ → List β} : ∀ {l : List α} {k : α → γ}, (∀ x ∈ l, h (k x) = f x) → (l.map k).flatMap h = l.flatMap f
  | [], _, _ => rfl
  | x :: l, k, hh => by
    rw [List.map_cons, List.flatMap_cons, List.flatMap_cons, hh x (by simp), flatMap_map (l := l) (g := g) fun y hy => hh y (by simp [hy])]
/-- rows made of two ints each, no two alike -/
theorem nodup2 {α : Type} {ts ps : List Int} {f : Int → Int → List α} {key : α → Int × Int} (ht : ts.Pairwise (· < ·)) (hp : ps.Pairwise (· < ·)) (h1 : ∀ t p, (f t p).length ≤ 1) (hk : ∀ t p, ∀ r ∈ f t p, key r = (t, p)) : (ts.flatMap fun t => ps.flatMap (f t)).Nodup := by
  have one : ∀ l : List α, l.length ≤ 1 → l.Pairwise (· ≠ ·) := fun l hl => by
    match l, hl with
    | [], _ => exact .nil
    | [x], _ => simp
  refine List.pairwise_flatMap.mpr ⟨fun t _ => List.pairwise_flatMap.mpr ⟨fun p _ => one _ (h1 t p), hp.imp fun {p q} hlt x hx y hy e => ?_⟩, ht.imp fun {t u} hlt x hx y hy e => ?_⟩
  · have a := hk t p x hx
    have b := hk t q y hy
    rw [e, b] at a
    simp only [Prod.mk.injEq, true_and] at a
    omega
  · obtain ⟨p, _, hx⟩ := List.mem_flatMap.mp hx
    obtain ⟨q, _, hy⟩ := List.mem_flatMap.mp hy
    have a := hk t p x hx
    have b := hk u q y hy
    rw [e, b] at a
    simp only [Prod.mk.injEq] at a
    omega
end DL
namespace DL
open PySem PySem.Spec PyProof.Rows L2

/-! ### clean evaluations: no slots -/
inductive O (α : Type) where
  | bad
  | ok (a : α)
  | exc (c : Str)
namespace O
variable {α β : Type}
def bind : O α → (α → O β) → O β
  | .bad, _ => .bad
  | .exc c, _ => .exc c
  | .ok a, k => k a
def lift : Option α → O α
  | none => .bad
  | some a => .ok a
abbrev map (f : α → β) (o : O α) : O β := o.bind fun a => .ok (f a)
@[simp] theorem bind_ok (a : α) (k : α → O β) : bind (.ok a) k = k a := rfl
@[simp] theorem bind_bad (k : α → O β) : bind .bad k = .bad := rfl
@[simp] theorem bind_exc (c : Str) (k : α → O β) : bind (.exc c) k = .exc c := rfl
@[simp] theorem lift_some (a : α) : lift (some a) = .ok a := rfl
@[simp] theorem lift_none : lift (none : Option α) = .bad := rfl
@[simp] theorem bind_assoc {γ : Type} (o : O α) (k : α → O β) (l : β → O γ) : (o.bind k).bind l = o.bind fun a => (k a).bind l := by cases o <;> rfl
abbrev bin (g : D → D → Option D) (a b : O D) : O D := a.bind fun x => b.bind fun y => lift (g x y)
abbrev binF (g : D → D → Option Cell) (a b : O D) : O Cell := a.bind fun x => b.bind fun y => lift (g x y)
abbrev un (g : D → Option D) (a : O D) : O D := a.bind fun x => lift (g x)
abbrev unF (g : D → Option Cell) (a : O D) : O Cell := a.bind fun x => lift (g x)
abbrev cons (a : O D) (r : O (List D)) : O (List D) := a.bind fun x => r.bind fun xs => .ok (x :: xs)
def starD : D → Option (List D)
  | .list xs => some xs
  | .tuple xs => some xs
  | _ => none
abbrev star (a : O D) (r : O (List D)) : O (List D) := a.bind fun d => (lift (starD d)).bind fun xs => r.bind fun ys => .ok (xs ++ ys)
abbrev tup (m : O (List D)) : O D := m.bind fun ds => lift (tupD ds)
abbrev lst (m : O (List D)) : O Cell := m.bind fun ds => lift (lstF ds)
abbrev cell (m : O Cell) : O D := m.bind fun c => .ok (cellD c)
abbrev tru (m : O D) : O Bool := m.bind fun d => lift (truD d)
abbrev asB (m : O D) : O Bool := m.bind fun d => lift (boolD d)
abbrev notB (m : O Bool) : O Bool := m.bind fun b => .ok (!b)
abbrev and (a b : O Bool) : O Bool := a.bind fun t => if t = true then b else .ok false
abbrev or (a b : O Bool) : O Bool := a.bind fun t => if t = true then .ok true else b
abbrev ife (t : O Bool) (a b : O α) : O α := t.bind fun t => if t = true then a else b
def andV (a b : O D) : O D := a.bind fun x => match x with
  | .bool true => b
  | .bool false => .ok (.bool false)
  | _ => .bad
def orV (a b : O D) : O D := a.bind fun x => match x with
  | .bool true => .ok (.bool true)
  | .bool false => b
  | _ => .bad
def notV (a : O D) : O D := a.bind fun x => match x with
  | .bool b => .ok (.bool (!b))
  | _ => .bad
@[simp] theorem andV_b (t : Bool) (b : O D) : andV (.ok (.bool t)) b = if t = true then b else .ok (.bool false) := by cases t <;> rfl
@[simp] theorem orV_b (t : Bool) (b : O D) : orV (.ok (.bool t)) b = if t = true then .ok (.bool true) else b := by cases t <;> rfl
@[simp] theorem notV_b (t : Bool) : notV (.ok (.bool t)) = .ok (.bool (!t)) := rfl
def chn (z : D) (k : O D) : O D := match z with
  | .bool true => k
  | .bool false => .ok (.bool false)
  | _ => .bad
@[simp] theorem chn_b (t : Bool) (k : O D) : chn (.bool t) k = if t = true then k else .ok (.bool false) := by cases t <;> rfl
abbrev chain (g g' : D → D → Option D) (a b c : O D) : O D := a.bind fun x => b.bind fun y => (lift (g x y)).bind fun z => chn z (c.bind fun w => lift (g' y w))
def partD : D → O (Option Int)
  | .int i => .ok (some i)
  | _ => .bad
@[simp] theorem part_int (i : Int) : partD (.int i) = .ok (some i) := rfl
abbrev part (m : O D) : O (Option Int) := m.bind partD
abbrev sl (a : O D) (l h : O (Option Int)) : O D := a.bind fun x => l.bind fun l => h.bind fun h => lift (slD x l h)
abbrev slF (a : O D) (l h : O (Option Int)) : O Cell := a.bind fun x => l.bind fun l => h.bind fun h => lift (DL.slF x l h)
abbrev items (m : O D) : O (List D) := m.bind fun d => lift (itemsD d)
abbrev rng1 (m : O (List D)) : O (List D) := m.bind fun d => lift (rng1D d)
abbrev rng2 (m : O (List D)) : O (List D) := m.bind fun d => lift (rng2D d)
abbrev rng3 (m : O (List D)) : O (List D) := m.bind fun d => lift (rng3D d)
abbrev enum (m : O D) : O (List D) := m.bind fun d => lift (enumD d)
/-- an error there is nothing that is told -/
def noX {α : Type} (o : O α) : O α := match o with
  | .exc _ => .bad
  | o => o
@[simp] theorem noX_ok {α : Type} (a : α) : noX (.ok a) = .ok a := rfl
abbrev keysF (m : O Cell) : O (List D) := m.bind fun d => lift (keysC d)
def lstD : D → Option (List D)
  | .list ds => some ds
  | _ => none
abbrev idx (a b : O D) : O D := a.bind fun c => (lift (lstD c)).bind fun ds => b.bind fun d => lift (idxD (.list ds) d)
def asL : Cell → O (List D)
  | .lst xs => .ok xs
  | _ => .bad
@[simp] theorem asL_l (xs : List D) : asL (.lst xs) = .ok xs := rfl
def isE (c x : Str) : O D := .ok (.bool (subE c x))
abbrev call1 {β : Type} (f : D → O β) (a : O D) : O β := a.bind f
abbrev call2 {β : Type} (f : D → D → O β) (a b : O D) : O β := a.bind fun x => b.bind fun y => f x y
abbrev call3 {β : Type} (f : D → D → D → O β) (a b c : O D) : O β := a.bind fun x => b.bind fun y => c.bind fun z => f x y z
abbrev call4 {β : Type} (f : D → D → D → D → O β) (a b c d : O D) : O β := a.bind fun x => b.bind fun y => c.bind fun z => d.bind fun w => f x y z w
abbrev call5 {β : Type} (f : D → D → D → D → D → O β) (a b c d e : O D) : O β := a.bind fun x => b.bind fun y => c.bind fun z => d.bind fun w => e.bind fun v => f x y z w v
/-- a comprehension: none where the test fails -/
def lcL (f : D → O (Option D)) : List D → List D → O (List D)
  | [], acc => .ok acc
  | d :: r, acc => match f d with
    | .ok (some y) => if acc.length < 16777216 then lcL f r (acc ++ [y]) else .bad
    | .ok none => lcL f r acc
    | _ => .bad
abbrev lc (ds : O (List D)) (f : D → O (Option D)) : O Cell := ds.bind fun ds => (lcL f ds []).bind fun xs => .ok (.lst xs)
abbrev some' (o : O α) : O (Option α) := o.bind fun a => .ok (some a)
abbrev when (t : O Bool) (o : O α) : O (Option α) := t.bind fun t => if t = true then o.bind fun a => .ok (some a) else .ok none
/-- all (stop = false), any (stop = true) -/
def geL (stop : Bool) (f : D → O (Option D)) : List D → O Bool
  | [] => .ok (!stop)
  | d :: r => match f d with
    | .ok (some (.bool t)) => if t = stop then .ok stop else geL stop f r
    | .ok none => geL stop f r
    | _ => .bad
abbrev ge (stop : Bool) (ds : O (List D)) (f : D → O (Option D)) : O D := ds.bind fun ds => (geL stop f ds).bind fun t => .ok (.bool t)
def siL (f : D → O (Option D)) : List D → List Int → O (List Int)
  | [], acc => .ok acc
  | d :: r, acc => match f d with
    | .ok (some (.int y)) => if acc.length < 1000 then siL f r (insI y acc) else .bad
    | .ok none => siL f r acc
    | _ => .bad
/-- sorted({..}), ints -/
abbrev sset (ds : O (List D)) (f : D → O (Option D)) : O Cell := ds.bind fun ds => (siL f ds []).bind fun xs => if xs.length < 64 then .ok (.lst (xs.map PyData.int)) else .bad
/-- .. with a state -/
def lcX {T : Type} (f : D → T → O (Option D × T)) : List D → List D → T → O (List D × T)
  | [], acc, t => .ok (acc, t)
  | d :: r, acc, t => match f d t with
    | .ok (some y, t') => if acc.length < 16777216 then lcX f r (acc ++ [y]) t' else .bad
    | .ok (none, t') => lcX f r acc t'
    | _ => .bad
def app (xs : List D) (d : D) : O (List D) := if xs.length < 16777216 then .ok (xs ++ [d]) else .bad
def pop (xs : List D) : O (D × List D) := match xs.getLast? with
  | some d => .ok (d, xs.dropLast)
  | none => .bad
def popAt (xs : List D) (k : D) : O (D × List D) := match k with
  | .int j => if -(2 ^ 62) ≤ j ∧ j < 2 ^ 62 then match seqIndex? j xs.length with
    | some n => match xs[n]? with
      | some d => .ok (d, xs.eraseIdx n)
      | none => .bad
    | none => .bad else .bad
  | _ => .bad
def setIx (xs : List D) (k d : D) : O (List D) := match k with
  | .int j => match ixN xs.length j with
    | some n => .ok (xs.set n d)
    | none => .bad
  | _ => .bad
end O
/-- (x, y) = d -/
def unp1 {β : Type} (z : β) (d : D) (k : D → β) : β := match d with
  | .tuple [a] => k a
  | _ => z
def unp2 {β : Type} (z : β) (d : D) (k : D → D → β) : β := match d with
  | .tuple [a, b] => k a b
  | _ => z
def unp3 {β : Type} (z : β) (d : D) (k : D → D → D → β) : β := match d with
  | .tuple [a, b, c] => k a b c
  | _ => z
def unp4 {β : Type} (z : β) (d : D) (k : D → D → D → D → β) : β := match d with
  | .tuple [a, b, c, e] => k a b c e
  | _ => z
def unp5 {β : Type} (z : β) (d : D) (k : D → D → D → D → D → β) : β := match d with
  | .tuple [a, b, c, e, f] => k a b c e f
  | _ => z
@[simp] theorem unp2_t {β : Type} (z : β) (a b : D) (k : D → D → β) : unp2 z (.tuple [a, b]) k = k a b := rfl
@[simp] theorem unp3_t {β : Type} (z : β) (a b c : D) (k : D → D → D → β) : unp3 z (.tuple [a, b, c]) k = k a b c := rfl
@[simp] theorem unp4_t {β : Type} (z : β) (a b c e : D) (k : D → D → D → D → β) : unp4 z (.tuple [a, b, c, e]) k = k a b c e := rfl
@[simp] theorem unp5_t {β : Type} (z : β) (a b c e f : D) (k : D → D → D → D → D → β) : unp5 z (.tuple [a, b, c, e, f]) k = k a b c e f := rfl
theorem unp2_rec {β : Type} {C : D → β → Prop} {z : β} {k : D → D → β} (hz : ∀ d, C d z) (h : ∀ a b, C (.tuple [a, b]) (k a b)) (d : D) : C d (unp2 z d k) := by
  unfold unp2
  split
  · exact h _ _
  · exact hz d
theorem unp3_rec {β : Type} {C : D → β → Prop} {z : β} {k : D → D → D → β} (hz : ∀ d, C d z) (h : ∀ a b c, C (.tuple [a, b, c]) (k a b c)) (d : D) : C d (unp3 z d k) := by
  unfold unp3
  split
  · exact h _ _ _
  · exact hz d
theorem unp4_rec {β : Type} {C : D → β → Prop} {z : β} {k : D → D → D → D → β} (hz : ∀ d, C d z) (h : ∀ a b c e, C (.tuple [a, b, c, e]) (k a b c e)) (d : D) : C d (unp4 z d k) := by
  unfold unp4
  split
  · exact h _ _ _ _
  · exact hz d
theorem unp5_rec {β : Type} {C : D → β → Prop} {z : β} {k : D → D → D → D → D → β} (hz : ∀ d, C d z) (h : ∀ a b c e f, C (.tuple [a, b, c, e, f]) (k a b c e f)) (d : D) : C d (unp5 z d k) := by
  unfold unp5
  split
  · exact h _ _ _ _ _
  · exact hz d
def unl3 {β : Type} (z : β) (xs : List D) (k : D → D → D → β) : β := match xs with
  | [a, b, c] => k a b c
  | _ => z
@[simp] theorem unl3_t {β : Type} (z : β) (a b c : D) (k : D → D → D → β) : unl3 z [a, b, c] k = k a b c := rfl

/-! ### pure: the state stays -/
def EvP {α : Type} (m : M α) (ρ : Rho) (o : O α) : Prop := match o with
  | .bad => True
  | .ok a => m ρ = some (.val a ρ)
  | .exc c => m ρ = some (.exc c ρ)
section
variable {α β γ : Type} {ρ ρ1 ρ' : Rho}
theorem ev_bind {m : M α} {k : α → M β} {o : O α} {ok : α → O β} (h : EvP m ρ o) (hk : ∀ a, EvP (k a) ρ (ok a)) : EvP (M.bind m k) ρ (o.bind ok) := by
  cases o with
  | bad => trivial
  | ok a =>
    have h : m ρ = some (.val a ρ) := h
    have e : M.bind m k ρ = k a ρ := by simp [h]
    have := hk a
    show EvP _ ρ (ok a)
    unfold EvP at this ⊢
    rw [e]
    exact this
  | exc c =>
    have h : m ρ = some (.exc c ρ) := h
    show M.bind m k ρ = _
    simp [h]
theorem ev_ret (a : α) : EvP (M.ret a) ρ (.ok a) := rfl
theorem ev_lift (o : Option α) : EvP (M.lift o) ρ (O.lift o) := by cases o <;> first | trivial | rfl
theorem ev_none : EvP (fun _ => none : M α) ρ .bad := trivial
/-- a value that is there -/
theorem ev_val {m : M α} {a : α} (h : m ρ = some (.val a ρ)) : EvP m ρ (.ok a) := h
section
variable {a b c : M D} {t u : M Bool} {oa ob oc : O D} {ot ou : O Bool} {ms : M (List D)} {os : O (List D)} {g g' : D → D → Option D}
theorem ev_bin (ha : EvP a ρ oa) (hb : EvP b ρ ob) : EvP (M.bin g a b) ρ (O.bin g oa ob) := ev_bind ha fun _ => ev_bind hb fun _ => ev_lift _
theorem ev_binF {g : D → D → Option Cell} (ha : EvP a ρ oa) (hb : EvP b ρ ob) : EvP (M.binF g a b) ρ (O.binF g oa ob) := ev_bind ha fun _ => ev_bind hb fun _ => ev_lift _
theorem ev_un {g : D → Option D} (ha : EvP a ρ oa) : EvP (M.un g a) ρ (O.un g oa) := ev_bind ha fun _ => ev_lift _
theorem ev_unF {g : D → Option Cell} (ha : EvP a ρ oa) : EvP (M.unF g a) ρ (O.unF g oa) := ev_bind ha fun _ => ev_lift _
theorem ev_cons (ha : EvP a ρ oa) (hb : EvP ms ρ os) : EvP (M.cons a ms) ρ (O.cons oa os) := ev_bind ha fun _ => ev_bind hb fun _ => ev_ret _
theorem ev_star (ha : EvP a ρ oa) (hb : EvP ms ρ os) : EvP (M.star a ms) ρ (O.star oa os) := ev_bind ha fun d => by
  cases d
  case list xs => exact (show EvP (ms.bind fun ys => M.ret (xs ++ ys)) ρ (os.bind fun ys => .ok (xs ++ ys)) from ev_bind hb fun _ => ev_ret _)
  case tuple xs => exact (show EvP (ms.bind fun ys => M.ret (xs ++ ys)) ρ (os.bind fun ys => .ok (xs ++ ys)) from ev_bind hb fun _ => ev_ret _)
  all_goals exact ev_none
theorem ev_tup (h : EvP ms ρ os) : EvP (M.tup ms) ρ (O.tup os) := ev_bind h fun _ => ev_lift _
theorem ev_lst (h : EvP ms ρ os) : EvP (M.lst ms) ρ (O.lst os) := ev_bind h fun _ => ev_lift _
theorem ev_cell {m : M Cell} {o : O Cell} (h : EvP m ρ o) : EvP (M.cell m) ρ (O.cell o) := ev_bind h fun _ => ev_ret _
theorem ev_tru (h : EvP a ρ oa) : EvP (M.tru a) ρ (O.tru oa) := ev_bind h fun _ => ev_lift _
theorem ev_asB (h : EvP a ρ oa) : EvP (M.asB a) ρ (O.asB oa) := ev_bind h fun _ => ev_lift _
theorem ev_notB (h : EvP t ρ ot) : EvP (M.notB t) ρ (O.notB ot) := ev_bind h fun _ => ev_ret _
theorem ev_ite {m m' : M α} {o o' : O α} {p : Prop} [Decidable p] (h : EvP m ρ o) (h' : EvP m' ρ o') : EvP (if p then m else m') ρ (if p then o else o') := by
  split
  · exact h
  · exact h'
theorem ev_and (h : EvP t ρ ot) (h' : EvP u ρ ou) : EvP (M.and t u) ρ (O.and ot ou) := ev_bind h fun _ => ev_ite h' (ev_ret _)
theorem ev_or (h : EvP t ρ ot) (h' : EvP u ρ ou) : EvP (M.or t u) ρ (O.or ot ou) := ev_bind h fun _ => ev_ite (ev_ret _) h'
theorem ev_ife {m m' : M α} {o o' : O α} (ht : EvP t ρ ot) (h : EvP m ρ o) (h' : EvP m' ρ o') : EvP (M.ife t m m') ρ (O.ife ot o o') := ev_bind ht fun _ => ev_ite h h'
theorem ev_andV (ha : EvP a ρ oa) (hb : EvP b ρ ob) : EvP (M.andV a b) ρ (O.andV oa ob) := ev_bind ha fun x => by
  cases x <;> first | exact ev_none | (rename_i t; cases t <;> first | exact hb | exact ev_ret _)
theorem ev_orV (ha : EvP a ρ oa) (hb : EvP b ρ ob) : EvP (M.orV a b) ρ (O.orV oa ob) := ev_bind ha fun x => by
  cases x <;> first | exact ev_none | (rename_i t; cases t <;> first | exact hb | exact ev_ret _)
theorem ev_notV (ha : EvP a ρ oa) : EvP (M.notV a) ρ (O.notV oa) := ev_bind ha fun x => by
  cases x <;> first | exact ev_none | exact ev_ret _
theorem ev_chain (ha : EvP a ρ oa) (hb : EvP b ρ ob) (hc : EvP c ρ oc) : EvP (M.chain g g' a b c) ρ (O.chain g g' oa ob oc) := ev_bind ha fun _ => ev_bind hb fun _ => ev_bind (ev_lift _) fun z => by
  cases z <;> first | exact ev_none | (rename_i t; cases t <;> first | exact ev_ret _ | exact ev_bind hc fun _ => ev_lift _)
theorem ev_part (ha : EvP a ρ oa) : EvP (M.part a) ρ (O.part oa) := ev_bind ha fun x => by cases x <;> first | exact ev_none | exact ev_ret _
theorem ev_sl {l h : M (Option Int)} {ol oh : O (Option Int)} (ha : EvP a ρ oa) (hl : EvP l ρ ol) (hh : EvP h ρ oh) : EvP (M.sl a l h) ρ (O.sl oa ol oh) := ev_bind ha fun _ => ev_bind hl fun _ => ev_bind hh fun _ => ev_lift _
theorem ev_slF {l h : M (Option Int)} {ol oh : O (Option Int)} (ha : EvP a ρ oa) (hl : EvP l ρ ol) (hh : EvP h ρ oh) : EvP (M.slF a l h) ρ (O.slF oa ol oh) := ev_bind ha fun _ => ev_bind hl fun _ => ev_bind hh fun _ => ev_lift _
theorem ev_items (h : EvP a ρ oa) : EvP (M.items a) ρ (O.items oa) := ev_bind h fun _ => ev_lift _
theorem ev_itemsL (h : EvP a ρ oa) : EvP (M.itemsL a) ρ (oa.bind fun d => O.lift (DL.itemsL d)) := ev_bind h fun _ => ev_lift _
theorem ev_rng1 (h : EvP ms ρ os) : EvP (M.rng1 ms) ρ (O.rng1 os) := ev_bind h fun _ => ev_lift _
theorem ev_rng2 (h : EvP ms ρ os) : EvP (M.rng2 ms) ρ (O.rng2 os) := ev_bind h fun _ => ev_lift _
theorem ev_rng3 (h : EvP ms ρ os) : EvP (M.rng3 ms) ρ (O.rng3 os) := ev_bind h fun _ => ev_lift _
theorem ev_enum (h : EvP a ρ oa) : EvP (M.enum a) ρ (O.enum oa) := ev_bind h fun _ => ev_lift _
theorem ev_keysF {m : M Cell} {o : O Cell} (h : EvP m ρ o) : EvP (M.keysF m) ρ (O.keysF o) := ev_bind h fun _ => ev_lift _
theorem ev_idx (ha : EvP a ρ oa) (hb : EvP b ρ ob) : EvP (M.idx a b) ρ (O.idx oa ob) := ev_bind ha fun x => by
  cases x <;> first | exact ev_none | exact ev_bind hb fun _ => ev_lift _
theorem ev_isE {i : Nat} {c x : Str} (h : ρ[i]? = some (some (.exc c))) : EvP (M.isE i x) ρ (O.isE c x) := by
  show M.isE i x ρ = _
  unfold M.isE
  rw [h]
theorem ev_ixV {i : Nat} {bb : Bool} {ds : List D} (h : mutL ρ i = some (bb, ds)) (hb : EvP b ρ ob) : EvP (M.ixV i b) ρ (ob.bind fun k => O.lift (ixD (.list ds) k)) := by
  cases ob with
  | bad => trivial
  | exc c =>
    have hb : b ρ = some (.exc c ρ) := hb
    show M.ixV i b ρ = _
    simp [h, hb]
  | ok k =>
    have hb : b ρ = some (.val k ρ) := hb
    have e : M.ixV i b ρ = M.lift (ixD (.list ds) k) ρ := by simp [h, hb]
    have := ev_lift (ρ := ρ) (ixD (.list ds) k)
    show EvP _ ρ (O.lift (ixD (.list ds) k))
    unfold EvP at this ⊢
    rw [e]
    exact this
end
/-! calls -/
def CokR {R : Type} (q : Option FR) (o : O R) (v : R → FR) : Prop := match o with
  | .bad => True
  | .ok r => q = some (v r)
  | .exc c => q = some (.exc c [])
/-- a def's run, as data -/
abbrev Cok (q : Option FR) (o : O D) : Prop := CokR q o fun d => .ret d []
/-- .. as a new object -/
abbrev CokF (q : Option FR) (o : O Cell) : Prop := CokR q o fun d => .retF d []
def callK (F : Fn) (cs : List CArg) : M D := fun ρ => if (slotsOf cs).Nodup then match avs ρ cs with
  | none => none
  | some as => match F as with
    | none => none
    | some (.ret d outs) => some (.val d (putOuts ρ (slotsOf cs) outs))
    | some (.retF c outs) => some (.val (cellD c) (putOuts ρ (slotsOf cs) outs))
    | some (.exc c outs) => some (.exc c (putOuts ρ (slotsOf cs) outs)) else none
theorem callM_eq (F : Fn) (ms : M (List CArg)) : callM F ms = ms.bind (callK F) := rfl
def callKF (F : Fn) (cs : List CArg) : M Cell := fun ρ => if (slotsOf cs).Nodup then match avs ρ cs with
  | none => none
  | some as => match F as with
    | some (.retF c outs) => some (.val c (putOuts ρ (slotsOf cs) outs))
    | some (.exc c outs) => some (.exc c (putOuts ρ (slotsOf cs) outs))
    | _ => none else none
theorem callF_eq (F : Fn) (ms : M (List CArg)) : callF F ms = ms.bind (callKF F) := rfl
theorem callK_at {F : Fn} {cs : List CArg} {as : List Av} (hs : (slotsOf cs).Nodup) (ha : avs ρ cs = some as) : callK F cs ρ = match F as with
    | none => none
    | some (.ret d outs) => some (.val d (putOuts ρ (slotsOf cs) outs))
    | some (.retF c outs) => some (.val (cellD c) (putOuts ρ (slotsOf cs) outs))
    | some (.exc c outs) => some (.exc c (putOuts ρ (slotsOf cs) outs)) := by
  unfold callK
  rw [if_pos hs, ha]
theorem callKF_at {F : Fn} {cs : List CArg} {as : List Av} (hs : (slotsOf cs).Nodup) (ha : avs ρ cs = some as) : callKF F cs ρ = match F as with
    | some (.retF c outs) => some (.val c (putOuts ρ (slotsOf cs) outs))
    | some (.exc c outs) => some (.exc c (putOuts ρ (slotsOf cs) outs))
    | _ => none := by
  unfold callKF
  rw [if_pos hs, ha]
theorem put_nil' (ρ : Rho) (l : List Nat) : putOuts ρ l [] = ρ := by cases l <;> simp [putOuts]
theorem ev_callK {F : Fn} {cs : List CArg} {as : List Av} {o : O D} (h : Cok (F as) o) (hs : slotsOf cs = [] := by rfl) (ha : avs ρ cs = some as := by rfl) : EvP (callK F cs) ρ o := by
  have e := callK_at (F := F) (cs := cs) (as := as) (by rw [hs]; exact List.nodup_nil) ha
  cases o with
  | bad => trivial
  | ok d =>
    have h : F as = _ := h
    show callK F cs ρ = _
    rw [e, h, hs]
    simp
  | exc c =>
    have h : F as = _ := h
    show callK F cs ρ = _
    rw [e, h]
    dsimp only
    rw [put_nil']
theorem ev_callKd {F : Fn} {cs : List CArg} {as : List Av} {o : O Cell} (h : CokF (F as) o) (hs : slotsOf cs = [] := by rfl) (ha : avs ρ cs = some as := by rfl) : EvP (callK F cs) ρ (O.cell o) := by
  have e := callK_at (F := F) (cs := cs) (as := as) (by rw [hs]; exact List.nodup_nil) ha
  cases o with
  | bad => trivial
  | ok d =>
    have h : F as = _ := h
    show callK F cs ρ = _
    rw [e, h, hs]
    simp
  | exc c =>
    have h : F as = _ := h
    show callK F cs ρ = _
    rw [e, h]
    dsimp only
    rw [put_nil']
theorem ev_callKF {F : Fn} {cs : List CArg} {as : List Av} {o : O Cell} (h : CokF (F as) o) (hs : slotsOf cs = [] := by rfl) (ha : avs ρ cs = some as := by rfl) : EvP (callKF F cs) ρ o := by
  have e := callKF_at (F := F) (cs := cs) (as := as) (by rw [hs]; exact List.nodup_nil) ha
  cases o with
  | bad => trivial
  | ok d =>
    have h : F as = _ := h
    show callKF F cs ρ = _
    rw [e, h, hs]
    simp
  | exc c =>
    have h : F as = _ := h
    show callKF F cs ρ = _
    rw [e, h]
    dsimp only
    rw [put_nil']
theorem ev_cdat {m : M D} {ms : M (List CArg)} {o : O D} {K : List CArg → M β} {ok : D → O β} (h : EvP m ρ o) (hk : ∀ a, EvP (M.bind ms fun xs => K (.dat a :: xs)) ρ (ok a)) : EvP (M.bind (M.cdat m ms) K) ρ (o.bind ok) := by
  have e : M.bind (M.cdat m ms) K = M.bind m fun a => M.bind ms fun xs => K (.dat a :: xs) := by
    funext r
    simp only [M.cdat, v_bind, v_ret]
    cases m r with
    | none => rfl
    | some x => cases x with
      | exc c r' => rfl
      | val a r' =>
        dsimp only
        cases ms r' with
        | none => rfl
        | some y => cases y <;> rfl
  rw [e]
  exact ev_bind h hk
theorem ev_cnil {K : List CArg → M β} {o : O β} (h : EvP (K []) ρ o) : EvP (M.bind (M.ret []) K) ρ o := h
/-! blocks -/
/-- a turn of a comprehension -/
def LcT (g : TgM) (mt : M Bool) (me : M D) (vs : List Nat) (ρ : Rho) (d : D) (o : O (Option D)) : Prop := match o with
  | .ok none => ∃ ρ1 ρ2, g d ρ = some ρ1 ∧ mt ρ1 = some (.val false ρ2) ∧ noInn ρ2 vs = true ∧ wipeR ρ2 vs = ρ
  | .ok (some y) => ∃ ρ1 ρ2 ρ3, g d ρ = some ρ1 ∧ mt ρ1 = some (.val true ρ2) ∧ me ρ2 = some (.val y ρ3) ∧ noInn ρ3 vs = true ∧ wipeR ρ3 vs = ρ
  | _ => True
variable {g : TgM} {mt : M Bool} {me : M D} {vs : List Nat} {d : D}
theorem lct (hg : g d ρ = some ρ1) (ht : EvP mt ρ1 (.ok true)) {oe : O D} (he : EvP me ρ1 oe) (hn : noInn ρ1 vs = true) (hw : wipeR ρ1 vs = ρ) : LcT g mt me vs ρ d (O.some' oe) := by
  cases oe with
  | bad => trivial
  | exc c => trivial
  | ok y => exact ⟨ρ1, ρ1, ρ1, hg, ht, he, hn, hw⟩
theorem lctw (hg : g d ρ = some ρ1) {ot : O Bool} (ht : EvP mt ρ1 ot) {oe : O D} (he : EvP me ρ1 oe) (hn : noInn ρ1 vs = true) (hw : wipeR ρ1 vs = ρ) : LcT g mt me vs ρ d (O.when ot oe) := by
  cases ot with
  | bad => trivial
  | exc c => trivial
  | ok t =>
    cases t with
    | false => exact ⟨ρ1, ρ1, hg, ht, hn, hw⟩
    | true =>
      cases oe with
      | bad => trivial
      | exc c => trivial
      | ok y => exact ⟨ρ1, ρ1, ρ1, hg, ht, he, hn, hw⟩
theorem lcL_ok {f : D → O (Option D)} (h : ∀ d, LcT g mt me vs ρ d (f d)) : ∀ (ds acc out : List D), O.lcL f ds acc = .ok out → lcLoop g mt me vs ds acc ρ = some (out, ρ)
  | [], acc, out, e => by
    cases e
    rfl
  | d :: r, acc, out, e => by
    have hd := h d
    unfold O.lcL at e
    cases ef : f d with
    | bad => rw [ef] at e; cases e
    | exc c => rw [ef] at e; cases e
    | ok x =>
      rw [ef] at e hd
      cases x with
      | none =>
        obtain ⟨ρ1, ρ2, h1, h2, h3, h4⟩ := hd
        simp only [lcLoop, h1, h2, h3, if_true, h4]
        exact lcL_ok h r acc out e
      | some y =>
        obtain ⟨ρ1, ρ2, ρ3, h1, h2, h3, h4, h5⟩ := hd
        dsimp only at e
        split at e
        · rename_i hl
          simp only [lcLoop, h1, h2, h3, h4, hl, and_self, if_true, h5]
          exact lcL_ok h r _ out e
        · cases e
theorem lcL_exc {f : D → O (Option D)} {c : Str} : ∀ {ds acc : List D}, O.lcL f ds acc ≠ .exc c
  | [], acc, e => by cases e
  | d :: r, acc, e => by
    unfold O.lcL at e
    cases ef : f d with
    | bad => rw [ef] at e; cases e
    | exc c => rw [ef] at e; cases e
    | ok x =>
      rw [ef] at e
      cases x with
      | none => exact lcL_exc e
      | some y =>
        dsimp only at e
        split at e
        · exact lcL_exc e
        · cases e
theorem ev_lc {ms : M (List D)} {os : O (List D)} {f : D → O (Option D)} (hm : EvP ms ρ os) (hn : noInn ρ vs = true) (hw : wipeR ρ vs = ρ) (h : ∀ d, LcT g mt me vs ρ d (f d)) : EvP (M.lc ms g mt me vs) ρ (O.lc os f) := ev_bind hm fun ds => by
  cases e : O.lcL f ds [] with
  | bad => trivial
  | exc c => exact absurd e lcL_exc
  | ok xs =>
    show (if noInn ρ vs = true then _ else _) = _
    rw [if_pos hn, hw, lcL_ok h ds [] xs e]
    dsimp only
    rw [if_pos hn, hw]
theorem geL_ok {stop : Bool} {f : D → O (Option D)} (h : ∀ d, LcT g mt me vs ρ d (f d)) : ∀ (ds : List D) (t : Bool), O.geL stop f ds = .ok t → geLoop stop g mt me vs ds ρ = some (t, ρ)
  | [], t, e => by
    cases e
    rfl
  | d :: r, t, e => by
    have hd := h d
    unfold O.geL at e
    cases ef : f d with
    | bad => rw [ef] at e; cases e
    | exc c => rw [ef] at e; cases e
    | ok x =>
      rw [ef] at e hd
      cases x with
      | none =>
        obtain ⟨ρ1, ρ2, h1, h2, h3, h4⟩ := hd
        simp only [geLoop, h1, h2, h3, if_true, h4]
        exact geL_ok h r t e
      | some y =>
        obtain ⟨ρ1, ρ2, ρ3, h1, h2, h3, h4, h5⟩ := hd
        cases y <;> try (cases e; done)
        rename_i z
        dsimp only at e
        simp only [geLoop, h1, h2, h3, h4, if_true, h5]
        split at e
        · rename_i hz
          cases e
          rw [if_pos hz]
        · rename_i hz
          rw [if_neg hz]
          exact geL_ok h r t e
theorem geL_exc {stop : Bool} {f : D → O (Option D)} {c : Str} : ∀ {ds : List D}, O.geL stop f ds ≠ .exc c
  | [], e => by cases e
  | d :: r, e => by
    unfold O.geL at e
    cases ef : f d with
    | bad => rw [ef] at e; cases e
    | exc c => rw [ef] at e; cases e
    | ok x =>
      rw [ef] at e
      cases x with
      | none => exact geL_exc e
      | some y =>
        cases y <;> try (cases e; done)
        dsimp only at e
        split at e
        · cases e
        · exact geL_exc e
theorem ev_ge {stop : Bool} {ms : M (List D)} {os : O (List D)} {f : D → O (Option D)} (hm : EvP ms ρ os) (hn : noInn ρ vs = true) (hw : wipeR ρ vs = ρ) (h : ∀ d, LcT g mt me vs ρ d (f d)) : EvP (M.ge stop ms g mt me vs) ρ (O.ge stop os f) := ev_bind hm fun ds => by
  cases e : O.geL stop f ds with
  | bad => trivial
  | exc c => exact absurd e geL_exc
  | ok xs =>
    show (if noInn ρ vs = true then _ else _) = _
    rw [if_pos hn, hw, geL_ok h ds xs e]
    dsimp only
    rw [if_pos hn, hw]
theorem siL_ok {f : D → O (Option D)} (h : ∀ d, LcT g mt me vs ρ d (f d)) : ∀ (ds : List D) (acc out : List Int), O.siL f ds acc = .ok out → siLoop g mt me vs ds acc ρ = some (out, ρ)
  | [], acc, out, e => by
    cases e
    rfl
  | d :: r, acc, out, e => by
    have hd := h d
    unfold O.siL at e
    cases ef : f d with
    | bad => rw [ef] at e; cases e
    | exc c => rw [ef] at e; cases e
    | ok x =>
      rw [ef] at e hd
      cases x with
      | none =>
        obtain ⟨ρ1, ρ2, h1, h2, h3, h4⟩ := hd
        simp only [siLoop, h1, h2, h3, if_true, h4]
        exact siL_ok h r acc out e
      | some y =>
        obtain ⟨ρ1, ρ2, ρ3, h1, h2, h3, h4, h5⟩ := hd
        cases y <;> try (cases e; done)
        rename_i z
        dsimp only at e
        split at e
        · rename_i hl
          simp only [siLoop, h1, h2, h3, h4, hl, and_self, if_true, h5]
          exact siL_ok h r _ out e
        · cases e
theorem siL_exc {f : D → O (Option D)} {c : Str} : ∀ {ds : List D} {acc : List Int}, O.siL f ds acc ≠ .exc c
  | [], acc, e => by cases e
  | d :: r, acc, e => by
    unfold O.siL at e
    cases ef : f d with
    | bad => rw [ef] at e; cases e
    | exc c => rw [ef] at e; cases e
    | ok x =>
      rw [ef] at e
      cases x with
      | none => exact siL_exc e
      | some y =>
        cases y <;> try (cases e; done)
        dsimp only at e
        split at e
        · exact siL_exc e
        · cases e
theorem ev_sset {ms : M (List D)} {os : O (List D)} {f : D → O (Option D)} (hm : EvP ms ρ os) (hn : noInn ρ vs = true) (hw : wipeR ρ vs = ρ) (h : ∀ d, LcT g mt me vs ρ d (f d)) : EvP (M.sset ms g mt me vs) ρ (O.sset os f) := ev_bind hm fun ds => by
  cases e : O.siL f ds [] with
  | bad => trivial
  | exc c => exact absurd e siL_exc
  | ok xs =>
    show EvP _ ρ (if xs.length < 64 then _ else _)
    by_cases hl : xs.length < 64
    · rw [if_pos hl]
      show (if noInn ρ vs = true then _ else _) = _
      rw [if_pos hn, hw, siL_ok h ds [] xs e]
      dsimp only
      rw [if_pos ⟨hn, hl⟩, hw]
    · rw [if_neg hl]
      trivial
end
end DL
namespace DL
open PySem PySem.Spec PyProof.Rows L2

/-! ### evaluations that change slots -/
def EvX {α γ : Type} (XK : Rho → Prop) (m : M α) (ρ : Rho) (o : O γ) (v : γ → α) (s : γ → Rho) : Prop := match o with
  | .bad => True
  | .ok x => m ρ = some (.val (v x) (s x))
  | .exc c => ∃ ρ', m ρ = some (.exc c ρ') ∧ XK ρ'
section
variable {α β γ δ : Type} {ρ ρ1 ρ' : Rho} {XK : Rho → Prop}
theorem evx_conv {m m' : M α} {o : O γ} {v : γ → α} {s : γ → Rho} (e : m' ρ' = m ρ) (h : EvX XK m ρ o v s) : EvX XK m' ρ' o v s := by
  unfold EvX at h ⊢
  cases o with
  | bad => trivial
  | ok x => exact e.trans h
  | exc c =>
    obtain ⟨r, h1, h2⟩ := h
    exact ⟨r, e.trans h1, h2⟩
theorem evx_of {m : M α} {o : O α} (h : EvP m ρ o) (hx : XK ρ) : EvX XK m ρ o id fun _ => ρ := by
  cases o with
  | bad => trivial
  | ok a => exact h
  | exc c => exact ⟨ρ, h, hx⟩
theorem evx_last {m : M α} {o : O α} {mk : α → γ} {v : γ → α} {s : γ → Rho} (h : EvP m ρ o) (hx : XK ρ) (hv : ∀ a, v (mk a) = a) (hs : ∀ a, s (mk a) = ρ) : EvX XK m ρ (o.map mk) v s := by
  cases o with
  | bad => trivial
  | ok a => show m ρ = some (.val (v (mk a)) (s (mk a))); rw [hv, hs]; exact h
  | exc c => exact ⟨ρ, h, hx⟩
theorem evx_bind {m : M α} {k : α → M β} {om : O δ} {vm : δ → α} {sm : δ → Rho} {ok : δ → O γ} {v : γ → β} {s : γ → Rho} (h : EvX XK m ρ om vm sm) (hk : ∀ x, EvX XK (k (vm x)) (sm x) (ok x) v s) : EvX XK (M.bind m k) ρ (om.bind ok) v s := by
  cases om with
  | bad => trivial
  | exc c =>
    obtain ⟨r, h1, h2⟩ := h
    exact ⟨r, by simp [h1], h2⟩
  | ok x =>
    have h : m ρ = _ := h
    exact evx_conv (show M.bind m k ρ = k (vm x) (sm x) by simp [h]) (hk x)
theorem evx_pure {m : M α} {k : α → M β} {om : O α} {ok : α → O γ} {v : γ → β} {s : γ → Rho} (h : EvP m ρ om) (hx : XK ρ) (hk : ∀ x, EvX XK (k x) ρ (ok x) v s) : EvX XK (M.bind m k) ρ (om.bind ok) v s := evx_bind (evx_of h hx) hk
theorem evx_val {m : M α} {k : α → M β} {a : α} {o : O γ} {v : γ → β} {s : γ → Rho} (h : m ρ = some (.val a ρ')) (hk : EvX XK (k a) ρ' o v s) : EvX XK (M.bind m k) ρ o v s := evx_conv (show M.bind m k ρ = k a ρ' by simp [h]) hk
theorem evx_lift {o : Option α} {mk : α → γ} {v : γ → α} {s : γ → Rho} (hv : ∀ a, v (mk a) = a) (hs : ∀ a, s (mk a) = ρ) : EvX XK (M.lift o) ρ ((O.lift o).map mk) v s := by
  cases o with
  | none => trivial
  | some a => show some _ = some (R.val (v (mk a)) (s (mk a))); rw [hv, hs]
theorem evx_ret {a : α} {x : γ} {v : γ → α} {s : γ → Rho} (hv : v x = a) (hs : s x = ρ) : EvX XK (M.ret a) ρ (.ok x) v s := by
  show some _ = some (R.val (v x) (s x))
  rw [hv, hs]
theorem evx_ite {m m' : M α} {o o' : O γ} {v : γ → α} {s : γ → Rho} {p : Prop} [Decidable p] (h : EvX XK m ρ o v s) (h' : EvX XK m' ρ o' v s) : EvX XK (if p then m else m') ρ (if p then o else o') v s := by
  split
  · exact h
  · exact h'
/-! appends, pops -/
theorem evx_app {m : M D} {o : O D} {i : Nat} {b : Bool} {ds : List D} (h : EvP m ρ o) (hi : mutL ρ i = some (b, ds)) (hx : XK ρ) : EvX XK (M.app i m) ρ (o.bind fun d => O.app ds d) (fun _ => .none) (fun xs => ρ.set i (some (.mut b (.lst xs)))) := by
  cases o with
  | bad => trivial
  | exc c =>
    have h : m ρ = _ := h
    exact ⟨ρ, by simp [hi, h], hx⟩
  | ok d =>
    have h : m ρ = _ := h
    show EvX XK _ ρ (O.app ds d) _ _
    unfold O.app
    by_cases hl : ds.length < 16777216
    · rw [if_pos hl]
      show M.app i m ρ = _
      simp [hi, h, hl]
    · rw [if_neg hl]
      trivial
theorem evx_appX {m : M D} {o : O γ} {v : γ → D} {s : γ → Rho} {i : Nat} {b b0 : Bool} {ds0 : List D} {ds : γ → List D} (h : EvX XK m ρ o v s) (hi : mutL ρ i = some (b0, ds0)) (hi' : ∀ x, mutL (s x) i = some (b, ds x)) :
    EvX XK (M.app i m) ρ (o.bind fun x => (O.app (ds x) (v x)).bind fun xs => .ok (x, xs)) (fun _ => .none) (fun y => (s y.1).set i (some (.mut b (.lst y.2)))) := by
  cases o with
  | bad => trivial
  | exc c =>
    obtain ⟨r, h1, h2⟩ := h
    exact ⟨r, by simp [hi, h1], h2⟩
  | ok x =>
    have h : m ρ = _ := h
    show EvX XK _ ρ ((O.app (ds x) (v x)).bind _) _ _
    unfold O.app
    by_cases hl : (ds x).length < 16777216
    · rw [if_pos hl]
      show M.app i m ρ = _
      simp [hi, h, hi' x, hl]
    · rw [if_neg hl]
      trivial
theorem evx_pop {i : Nat} {b : Bool} {ds : List D} (hi : mutL ρ i = some (b, ds)) : EvX XK (M.pop i) ρ (O.pop ds) (fun x => x.1) (fun x => ρ.set i (some (.mut b (.lst x.2)))) := by
  unfold O.pop
  cases e : ds.getLast? with
  | none => trivial
  | some d =>
    show M.pop i ρ = _
    simp [hi, e]
theorem popAt_k {i : Nat} {b : Bool} {ds : List D} {k : D} {m : M D} (h : m ρ = some (.val k ρ1)) {b0 : Bool} {ds0 : List D} (hi : mutL ρ i = some (b0, ds0)) (hi1 : mutL ρ1 i = some (b, ds)) {y : D × List D} (e : O.popAt ds k = .ok y) : M.popAt i m ρ = some (.val y.1 (ρ1.set i (some (.mut b (.lst y.2))))) := by
  unfold O.popAt at e
  split at e <;> try (cases e; done)
  rename_i j
  split at e <;> try (cases e; done)
  rename_i hj
  split at e <;> try (cases e; done)
  rename_i n en
  split at e <;> try (cases e; done)
  rename_i d ed
  cases e
  unfold M.popAt
  simp only [hi, v_bind, h, hi1, hj, and_self, if_true, en, ed]
theorem popAt_exc {ds : List D} {k : D} {c : Str} : O.popAt ds k ≠ .exc c := by
  unfold O.popAt
  intro e
  split at e <;> try (cases e; done)
  split at e <;> try (cases e; done)
  split at e <;> try (cases e; done)
  split at e <;> cases e
theorem evx_popAt {m : M D} {o : O D} {i : Nat} {b : Bool} {ds : List D} (h : EvP m ρ o) (hi : mutL ρ i = some (b, ds)) (hx : XK ρ) : EvX XK (M.popAt i m) ρ (o.bind fun k => O.popAt ds k) (fun x => x.1) (fun x => ρ.set i (some (.mut b (.lst x.2)))) := by
  cases o with
  | bad => trivial
  | exc c =>
    have h : m ρ = _ := h
    exact ⟨ρ, by unfold M.popAt; simp [hi, h], hx⟩
  | ok k =>
    show EvX XK _ ρ (O.popAt ds k) _ _
    cases e : O.popAt ds k with
    | bad => trivial
    | exc c => exact absurd e popAt_exc
    | ok y => exact popAt_k h hi hi e
theorem evx_popAtX {m : M D} {o : O γ} {v : γ → D} {s : γ → Rho} {i : Nat} {b b0 : Bool} {ds0 : List D} {ds : γ → List D} (h : EvX XK m ρ o v s) (hi : mutL ρ i = some (b0, ds0)) (hi' : ∀ x, mutL (s x) i = some (b, ds x)) :
    EvX XK (M.popAt i m) ρ (o.bind fun x => (O.popAt (ds x) (v x)).bind fun y => .ok (x, y)) (fun z => z.2.1) (fun z => (s z.1).set i (some (.mut b (.lst z.2.2)))) := by
  cases o with
  | bad => trivial
  | exc c =>
    obtain ⟨r, h1, h2⟩ := h
    exact ⟨r, by unfold M.popAt; simp [hi, h1], h2⟩
  | ok x =>
    show EvX XK _ ρ ((O.popAt (ds x) (v x)).bind _) _ _
    cases e : O.popAt (ds x) (v x) with
    | bad => trivial
    | exc c => exact absurd e popAt_exc
    | ok y => exact popAt_k h hi (hi' x) e
/-! calls with objects that are changed -/
theorem evx_cdat {m : M D} {ms : M (List CArg)} {o : O D} {K : List CArg → M β} {ok : D → O γ} {v : γ → β} {s : γ → Rho} (h : EvP m ρ o) (hx : XK ρ) (hk : ∀ a, EvX XK (M.bind ms fun xs => K (.dat a :: xs)) ρ (ok a) v s) : EvX XK (M.bind (M.cdat m ms) K) ρ (o.bind ok) v s := by
  refine evx_conv ?_ (evx_pure h hx hk)
  simp only [M.cdat, v_bind, v_ret]
  cases m ρ with
  | none => rfl
  | some x => cases x with
    | exc c r' => rfl
    | val a r' =>
      dsimp only
      cases ms r' with
      | none => rfl
      | some y => cases y <;> rfl
theorem evx_cdatV {m : M D} {ms : M (List CArg)} {a : D} {K : List CArg → M β} {o : O γ} {v : γ → β} {s : γ → Rho} (h : m ρ = some (.val a ρ')) (hk : EvX XK (M.bind ms fun xs => K (.dat a :: xs)) ρ' o v s) : EvX XK (M.bind (M.cdat m ms) K) ρ o v s := by
  refine evx_conv ?_ hk
  simp only [M.cdat, v_bind, v_ret, h]
  cases ms ρ' with
  | none => rfl
  | some y => cases y <;> rfl
theorem evx_cdatX {m : M D} {ms : M (List CArg)} {om : O δ} {vm : δ → D} {sm : δ → Rho} {K : List CArg → M β} {ok : δ → O γ} {v : γ → β} {s : γ → Rho} (h : EvX XK m ρ om vm sm) (hk : ∀ x, EvX XK (M.bind ms fun xs => K (.dat (vm x) :: xs)) (sm x) (ok x) v s) : EvX XK (M.bind (M.cdat m ms) K) ρ (om.bind ok) v s := by
  refine evx_conv ?_ (evx_bind h (k := fun a => M.bind ms fun xs => K (.dat a :: xs)) hk)
  simp only [M.cdat, v_bind, v_ret]
  cases m ρ with
  | none => rfl
  | some x => cases x with
    | exc c r' => rfl
    | val a r' =>
      dsimp only
      cases ms r' with
      | none => rfl
      | some y => cases y <;> rfl
theorem evx_cslot {i : Nat} {ms : M (List CArg)} {K : List CArg → M β} {o : O γ} {v : γ → β} {s : γ → Rho} {b : Bool} {c : Cell} (hi : ρ[i]? = some (some (.mut b c))) (hk : EvX XK (M.bind ms fun xs => K (.slot i :: xs)) ρ o v s) : EvX XK (M.bind (M.cslot i ms) K) ρ o v s := by
  refine evx_conv ?_ hk
  simp only [v_bind, v_cslot, hi, v_ret]
  cases ms ρ with
  | none => rfl
  | some y => cases y <;> rfl
theorem evx_cnil {K : List CArg → M β} {o : O γ} {v : γ → β} {s : γ → Rho} (h : EvX XK (K []) ρ o v s) : EvX XK (M.bind (M.ret []) K) ρ o v s := h
theorem evx_callK {F : Fn} {cs : List CArg} {as : List Av} {o : O γ} {vf : γ → FR} {v : γ → D} {os : γ → List Cell} {s : γ → Rho} (h : CokR (F as) o vf) (hx : XK ρ) (hv : ∀ x, vf x = .ret (v x) (os x)) {sl : List Nat} (hsl : slotsOf cs = sl) (hs : ∀ x, putOuts ρ sl (os x) = s x) (ha : avs ρ cs = some as) (hn : sl.Nodup) : EvX XK (callK F cs) ρ o v s := by
  subst hsl
  have e := callK_at (F := F) (cs := cs) (as := as) hn ha
  cases o with
  | bad => trivial
  | ok x =>
    have h : F as = _ := h
    show callK F cs ρ = _
    rw [e, h, hv]
    dsimp only
    rw [hs]
  | exc c =>
    have h : F as = _ := h
    refine ⟨ρ, ?_, hx⟩
    rw [e, h]
    dsimp only
    rw [put_nil']
theorem evx_callKd {F : Fn} {cs : List CArg} {as : List Av} {o : O γ} {vf : γ → FR} {v : γ → Cell} {os : γ → List Cell} {s : γ → Rho} (h : CokR (F as) o vf) (hx : XK ρ) (hv : ∀ x, vf x = .retF (v x) (os x)) {sl : List Nat} (hsl : slotsOf cs = sl) (hs : ∀ x, putOuts ρ sl (os x) = s x) (ha : avs ρ cs = some as) (hn : sl.Nodup) : EvX XK (callK F cs) ρ o (fun x => cellD (v x)) s := by
  subst hsl
  have e := callK_at (F := F) (cs := cs) (as := as) hn ha
  cases o with
  | bad => trivial
  | ok x =>
    have h : F as = _ := h
    show callK F cs ρ = _
    rw [e, h, hv]
    dsimp only
    rw [hs]
  | exc c =>
    have h : F as = _ := h
    refine ⟨ρ, ?_, hx⟩
    rw [e, h]
    dsimp only
    rw [put_nil']
theorem evx_callKF {F : Fn} {cs : List CArg} {as : List Av} {o : O γ} {vf : γ → FR} {v : γ → Cell} {os : γ → List Cell} {s : γ → Rho} (h : CokR (F as) o vf) (hx : XK ρ) (hv : ∀ x, vf x = .retF (v x) (os x)) {sl : List Nat} (hsl : slotsOf cs = sl) (hs : ∀ x, putOuts ρ sl (os x) = s x) (ha : avs ρ cs = some as) (hn : sl.Nodup) : EvX XK (callKF F cs) ρ o v s := by
  subst hsl
  have e := callKF_at (F := F) (cs := cs) (as := as) hn ha
  cases o with
  | bad => trivial
  | ok x =>
    have h : F as = _ := h
    show callKF F cs ρ = _
    rw [e, h, hv]
    dsimp only
    rw [hs]
  | exc c =>
    have h : F as = _ := h
    refine ⟨ρ, ?_, hx⟩
    rw [e, h]
    dsimp only
    rw [put_nil']
/-! comprehensions that change slots -/
def LcX {T : Type} (g : TgM) (mt : M Bool) (me : M D) (vs : List Nat) (st : T → Rho) (d : D) (t : T) (o : O (Option D × T)) : Prop := match o with
  | .ok (none, t') => ∃ ρ1 ρ2, g d (st t) = some ρ1 ∧ mt ρ1 = some (.val false ρ2) ∧ noInn ρ2 vs = true ∧ wipeR ρ2 vs = st t'
  | .ok (some y, t') => ∃ ρ1 ρ2 ρ3, g d (st t) = some ρ1 ∧ mt ρ1 = some (.val true ρ2) ∧ me ρ2 = some (.val y ρ3) ∧ noInn ρ3 vs = true ∧ wipeR ρ3 vs = st t'
  | _ => True
variable {T : Type} {g : TgM} {mt : M Bool} {me : M D} {vs : List Nat} {d : D} {st : T → Rho} {t : T}
theorem lcx {oe : O γ} {v : γ → D} {s : γ → Rho} {tt : γ → T} (hg : g d (st t) = some ρ1) (ht : EvP mt ρ1 (.ok true)) (he : EvX (fun _ => True) me ρ1 oe v s) (hn : ∀ x, noInn (s x) vs = true) (hw : ∀ x, wipeR (s x) vs = st (tt x)) : LcX g mt me vs st d t (oe.bind fun x => .ok (some (v x), tt x)) := by
  cases oe with
  | bad => trivial
  | exc c => trivial
  | ok x => exact ⟨ρ1, ρ1, s x, hg, ht, he, hn x, hw x⟩
theorem lcxw {ot : O Bool} {oe : O γ} {v : γ → D} {s : γ → Rho} {tt : γ → T} (hg : g d (st t) = some ρ1) (ht : EvP mt ρ1 ot) (he : EvX (fun _ => True) me ρ1 oe v s) (hn1 : noInn ρ1 vs = true) (hw1 : wipeR ρ1 vs = st t) (hn : ∀ x, noInn (s x) vs = true) (hw : ∀ x, wipeR (s x) vs = st (tt x)) :
    LcX g mt me vs st d t (ot.bind fun b => if b = true then oe.bind fun x => .ok (some (v x), tt x) else .ok (none, t)) := by
  cases ot with
  | bad => trivial
  | exc c => trivial
  | ok b =>
    cases b with
    | false => exact ⟨ρ1, ρ1, hg, ht, hn1, hw1⟩
    | true =>
      cases oe with
      | bad => trivial
      | exc c => trivial
      | ok x => exact ⟨ρ1, ρ1, s x, hg, ht, he, hn x, hw x⟩
theorem lcX_ok {f : D → T → O (Option D × T)} (h : ∀ d t, LcX g mt me vs st d t (f d t)) : ∀ (ds acc : List D) (t : T) (out : List D × T), O.lcX f ds acc t = .ok out → lcLoop g mt me vs ds acc (st t) = some (out.1, st out.2)
  | [], acc, t, out, e => by
    cases e
    rfl
  | d :: r, acc, t, out, e => by
    have hd := h d t
    unfold O.lcX at e
    cases ef : f d t with
    | bad => rw [ef] at e; cases e
    | exc c => rw [ef] at e; cases e
    | ok x =>
      rw [ef] at e hd
      obtain ⟨x, t'⟩ := x
      cases x with
      | none =>
        obtain ⟨ρ1, ρ2, h1, h2, h3, h4⟩ := hd
        simp only [lcLoop, h1, h2, h3, if_true, h4]
        exact lcX_ok h r acc t' out e
      | some y =>
        obtain ⟨ρ1, ρ2, ρ3, h1, h2, h3, h4, h5⟩ := hd
        dsimp only at e
        split at e
        · rename_i hl
          simp only [lcLoop, h1, h2, h3, h4, hl, and_self, if_true, h5]
          exact lcX_ok h r _ t' out e
        · cases e
theorem lcX_exc {f : D → T → O (Option D × T)} {c : Str} : ∀ {ds acc : List D} {t : T}, O.lcX f ds acc t ≠ .exc c
  | [], acc, t, e => by cases e
  | d :: r, acc, t, e => by
    unfold O.lcX at e
    cases ef : f d t with
    | bad => rw [ef] at e; cases e
    | exc c => rw [ef] at e; cases e
    | ok x =>
      rw [ef] at e
      obtain ⟨x, t'⟩ := x
      cases x with
      | none => exact lcX_exc e
      | some y =>
        dsimp only at e
        split at e
        · exact lcX_exc e
        · cases e
def lcK (g : TgM) (mt : M Bool) (me : M D) (vs : List Nat) (ds : List D) : M Cell := fun ρ => if noInn ρ vs = true then match lcLoop g mt me vs ds [] (wipeR ρ vs) with
  | some (acc, ρ') => if noInn ρ' vs = true then some (.val (.lst acc) (wipeR ρ' vs)) else none
  | none => none else none
theorem lc_eq (ms : M (List D)) : M.lc ms g mt me vs = M.bind ms (lcK g mt me vs) := rfl
theorem evx_lcK {f : D → T → O (Option D × T)} {ds : List D} (t0 : T) (hn : noInn ρ vs = true) (hw : wipeR ρ vs = st t0) (h : ∀ d t, LcX g mt me vs st d t (f d t)) (hn2 : ∀ t, noInn (st t) vs = true) (hw2 : ∀ t, wipeR (st t) vs = st t) :
    EvX XK (lcK g mt me vs ds) ρ (O.lcX f ds [] t0) (fun x => .lst x.1) (fun x => st x.2) := by
  cases e : O.lcX f ds [] t0 with
  | bad => trivial
  | exc c => exact absurd e lcX_exc
  | ok x =>
    show lcK g mt me vs ds ρ = _
    unfold lcK
    rw [if_pos hn, hw, lcX_ok h ds [] t0 x e]
    dsimp only
    rw [if_pos (hn2 _), hw2]
end

/-! ### statements -/
inductive Y (S B R : Type) where
  | bad
  | nx (s : S)
  | brk (b : B)
  | ct (b : B)
  | ret (r : R)
  | exc (c : Str)
namespace Y
variable {S S' B B' R α : Type}
def of (o : O α) (k : α → Y S B R) : Y S B R := match o with
  | .bad => .bad
  | .exc c => .exc c
  | .ok a => k a
@[simp] theorem of_ok (a : α) (k : α → Y S B R) : of (.ok a) k = k a := rfl
@[simp] theorem of_bad (k : α → Y S B R) : of .bad k = .bad := rfl
@[simp] theorem of_exc (c : Str) (k : α → Y S B R) : of (.exc c) k = .exc c := rfl
@[simp] theorem of_bind {β : Type} (o : O α) (k : α → O β) (l : β → Y S B R) : of (o.bind k) l = of o fun a => of (k a) l := by cases o <;> rfl
def then' (y : Y S B R) (k : S → Y S' B R) : Y S' B R := match y with
  | .bad => .bad
  | .nx s => k s
  | .brk b => .brk b
  | .ct b => .ct b
  | .ret r => .ret r
  | .exc c => .exc c
@[simp] theorem then_nx (s : S) (k : S → Y S' B R) : then' (.nx s) k = k s := rfl
@[simp] theorem then_ret (r : R) (k : S → Y S' B R) : then' (.ret r) k = .ret r := rfl
@[simp] theorem then_bad (k : S → Y S' B R) : then' (.bad : Y S B R) k = .bad := rfl
@[simp] theorem then_exc (c : Str) (k : S → Y S' B R) : then' (.exc c : Y S B R) k = .exc c := rfl
@[simp] theorem then_brk (b : B) (k : S → Y S' B R) : then' (.brk b) k = .brk b := rfl
@[simp] theorem then_ct (b : B) (k : S → Y S' B R) : then' (.ct b) k = .ct b := rfl
@[simp] theorem then_of (o : O α) (l : α → Y S B R) (k : S → Y S' B R) : then' (of o l) k = of o fun a => then' (l a) k := by cases o <;> rfl
def forL (f : D → S → Y S S R) : List D → S → Y S B R
  | [], s => .nx s
  | d :: r, s => match f d s with
    | .bad => .bad
    | .exc c => .exc c
    | .ret x => .ret x
    | .brk s' => .nx s'
    | .nx s' => forL f r s'
    | .ct s' => forL f r s'
@[simp] theorem forL_nil (f : D → S → Y S S R) (s : S) : (forL f [] s : Y S B R) = .nx s := rfl
def whlN (c : S → O Bool) (f : S → Y S S R) : Nat → S → Y S B R
  | 0, _ => .bad
  | k + 1, s => match c s with
    | .bad => .bad
    | .exc x => .exc x
    | .ok false => .nx s
    | .ok true => match f s with
      | .bad => .bad
      | .exc x => .exc x
      | .ret x => .ret x
      | .brk s' => .nx s'
      | .nx s' => whlN c f k s'
      | .ct s' => whlN c f k s'
open Classical in
noncomputable def whl (c : S → O Bool) (f : S → Y S S R) (s : S) : Y S B R := if h : ∃ k, whlN (B := B) c f k s ≠ .bad then whlN c f h.choose s else .bad
theorem whlN_mono {c : S → O Bool} {f : S → Y S S R} : ∀ {k j : Nat} {s : S}, whlN (B := B) c f k s ≠ .bad → k ≤ j → whlN (B := B) c f j s = whlN c f k s
  | 0, _, _, h, _ => absurd rfl h
  | k + 1, 0, _, _, h => by omega
  | k + 1, j + 1, s, h, hj => by
    unfold whlN at h ⊢
    cases ec : c s with
    | bad => rfl
    | exc x => rfl
    | ok t =>
      rw [ec] at h
      cases t with
      | false => rfl
      | true =>
        dsimp only at h ⊢
        cases ef : f s with
        | nx s' => rw [ef] at h; exact whlN_mono h (by omega)
        | ct s' => rw [ef] at h; exact whlN_mono h (by omega)
        | bad => rfl
        | exc x => rfl
        | ret x => rfl
        | brk x => rfl
theorem whl_eq {c : S → O Bool} {f : S → Y S S R} {k : Nat} {s : S} (h : whlN (B := B) c f k s ≠ .bad) : whl (B := B) c f s = whlN c f k s := by
  have hx : ∃ k, whlN (B := B) c f k s ≠ .bad := ⟨k, h⟩
  unfold whl
  rw [dif_pos hx]
  rcases Nat.le_total k hx.choose with q | q
  · exact whlN_mono h q
  · exact (whlN_mono hx.choose_spec q).symm
theorem whl_bad {c : S → O Bool} {f : S → Y S S R} {s : S} (h : ∀ k, whlN (B := B) c f k s = .bad) : whl (B := B) c f s = .bad := by
  unfold whl
  rw [dif_neg]
  rintro ⟨k, hk⟩
  exact hk (h k)
theorem whl_unfold (c : S → O Bool) (f : S → Y S S R) (s : S) : whl (B := B) c f s = of (c s) fun t => if t = true then (match f s with
      | .bad => .bad
      | .exc x => .exc x
      | .ret x => .ret x
      | .brk s' => .nx s'
      | .nx s' => whl c f s'
      | .ct s' => whl c f s') else .nx s := by
  have key : ∀ k, whlN (B := B) c f (k + 1) s = of (c s) fun t => if t = true then (match f s with
      | .bad => .bad
      | .exc x => .exc x
      | .ret x => .ret x
      | .brk s' => .nx s'
      | .nx s' => whlN c f k s'
      | .ct s' => whlN c f k s') else .nx s := fun k => by
    conv => lhs; unfold whlN
    cases c s with
    | bad => rfl
    | exc x => rfl
    | ok t => cases t <;> simp
  cases ec : c s with
  | bad => exact whl_bad fun k => by cases k with
    | zero => rfl
    | succ k => rw [key, ec]; rfl
  | exc x => 
    have := key 0
    rw [ec] at this
    exact (whl_eq (k := 1) (by rw [this]; intro z; cases z)).trans this
  | ok t =>
    cases t with
    | false =>
      have := key 0
      rw [ec] at this
      exact (whl_eq (k := 1) (by rw [this]; intro z; cases z)).trans this
    | true =>
      cases ef : f s with
      | bad => exact whl_bad fun k => by cases k with
        | zero => rfl
        | succ k => rw [key, ec, ef]; rfl
      | exc x =>
        have := key 0
        rw [ec, ef] at this
        exact (whl_eq (k := 1) (by rw [this]; intro z; cases z)).trans this
      | ret x =>
        have := key 0
        rw [ec, ef] at this
        exact (whl_eq (k := 1) (by rw [this]; intro z; cases z)).trans this
      | brk x =>
        have := key 0
        rw [ec, ef] at this
        exact (whl_eq (k := 1) (by rw [this]; intro z; cases z)).trans this
      | nx s' =>
        show _ = whl c f s'
        have k1 : ∀ k, whlN (B := B) c f (k + 1) s = whlN c f k s' := fun k => by rw [key, ec, ef]; rfl
        by_cases hx : ∃ k, whlN (B := B) c f k s' ≠ .bad
        · obtain ⟨k, hk⟩ := hx
          rw [whl_eq hk, whl_eq (k := k + 1) (by rw [k1]; exact hk), k1]
        · have hn : ∀ k, whlN (B := B) c f k s' = .bad := fun k => Classical.byContradiction fun z => hx ⟨k, z⟩
          rw [whl_bad hn]
          exact whl_bad fun k => by cases k with
            | zero => rfl
            | succ k => rw [k1, hn]
      | ct s' =>
        show _ = whl c f s'
        have k1 : ∀ k, whlN (B := B) c f (k + 1) s = whlN c f k s' := fun k => by rw [key, ec, ef]; rfl
        by_cases hx : ∃ k, whlN (B := B) c f k s' ≠ .bad
        · obtain ⟨k, hk⟩ := hx
          rw [whl_eq hk, whl_eq (k := k + 1) (by rw [k1]; exact hk), k1]
        · have hn : ∀ k, whlN (B := B) c f k s' = .bad := fun k => Classical.byContradiction fun z => hx ⟨k, z⟩
          rw [whl_bad hn]
          exact whl_bad fun k => by cases k with
            | zero => rfl
            | succ k => rw [k1, hn]
def tryW (Rs : List Str) (F : Str → Option Str) (mk : D → R) (y : Y S B R) : Y S B R := match y with
  | .exc c => if Rs.contains c = true then match F c with
    | some x => .ret (mk (.str x))
    | none => .bad else .bad
  | .nx _ => .bad
  | y => y
/-- a def's end; e: what it hands back when it runs out -/
def fin (e : S → R) (y : Y S B R) : O R := match y with
  | .nx s => .ok (e s)
  | .ret r => .ok r
  | .exc c => .exc c
  | _ => .bad
/-- .. of one that changes what is handed in -/
def finR (e : S → R) (y : Y S B R) : O R := match y with
  | .nx s => .ok (e s)
  | .ret r => .ok r
  | _ => .bad
/-- .. of one that hands back a new object -/
def finF (y : Y S B R) : O R := match y with
  | .ret r => .ok r
  | .exc c => .exc c
  | _ => .bad
def finRF (y : Y S B R) : O R := match y with
  | .ret r => .ok r
  | _ => .bad
@[simp] theorem finF_ret (r : R) : finF (.ret r : Y S B R) = .ok r := rfl
@[simp] theorem finF_exc (c : Str) : finF (.exc c : Y S B R) = .exc c := rfl
@[simp] theorem finRF_ret (r : R) : finRF (.ret r : Y S B R) = .ok r := rfl
@[simp] theorem tryW_ret (Rs : List Str) (F : Str → Option Str) (mk : D → R) (r : R) : tryW Rs F mk (.ret r : Y S B R) = .ret r := rfl
@[simp] theorem fin_ret (e : S → R) (r : R) : fin e (.ret r : Y S B R) = .ok r := rfl
@[simp] theorem fin_nx (e : S → R) (s : S) : fin e (.nx s : Y S B R) = .ok (e s) := rfl
@[simp] theorem fin_exc (e : S → R) (c : Str) : fin e (.exc c : Y S B R) = .exc c := rfl
@[simp] theorem finR_ret (e : S → R) (r : R) : finR e (.ret r : Y S B R) = .ok r := rfl
@[simp] theorem finR_nx (e : S → R) (s : S) : finR e (.nx s : Y S B R) = .ok (e s) := rfl
end Y
end DL
namespace DL
open PySem PySem.Spec PyProof.Rows L2

/-- how a def ends -/
structure Fr (P : Type) where
  ok : SR → P → Prop
  xk : Rho → Prop
  is : ∀ {q : SR} {r : P}, ok q r → (∃ d ρ, q = .ret d ρ) ∨ ∃ c ρ, q = .retF c ρ
variable {U U' B B' P α γ δ : Type}
def RelF (Z : Fr P) (sn : U → Rho) (sb : B → Rho) (q : Option SR) (y : Y U B P) : Prop := match y with
  | .bad => True
  | .nx s => q = some (.nx (sn s))
  | .brk b => q = some (.brk (sb b))
  | .ct b => q = some (.ct (sb b))
  | .ret r => ∃ q', q = some q' ∧ Z.ok q' r
  | .exc c => ∃ ρ', q = some (.exc c ρ') ∧ Z.xk ρ'
section
variable {Z : Fr P} {sn : U → Rho} {sb : B → Rho} {ρ ρ1 ρ' : Rho} {y y1 y2 : Y U B P} {a b rest n n' : SS} {d : D}
theorem r_conv {q q' : Option SR} (e : q = q') (h : RelF Z sn sb q' y) : RelF Z sn sb q y := e ▸ h
theorem r_last (h : RelF Z sn sb (S.seq a S.nx ρ) y) : RelF Z sn sb (a ρ) y := r_conv (by
  unfold S.seq
  cases a ρ with
  | none => rfl
  | some q => cases q <;> rfl) h
theorem r_assoc (h : RelF Z sn sb (S.seq a (S.seq b rest) ρ) y) : RelF Z sn sb (S.seq (S.seq a b) rest ρ) y := r_conv (by
  unfold S.seq
  cases a ρ with
  | none => rfl
  | some q => cases q <;> rfl) h
theorem r_nx {s : U} (h : ρ = sn s) : RelF Z sn sb (S.nx ρ) (.nx s) := by rw [h]; rfl
theorem r_nxs (h : RelF Z sn sb (rest ρ) y) : RelF Z sn sb (S.seq S.nx rest ρ) y := h
theorem r_brk {s : B} (h : ρ = sb s) : RelF Z sn sb (S.seq S.brk rest ρ) (.brk s) := by rw [h]; rfl
theorem r_ct {s : B} (h : ρ = sb s) : RelF Z sn sb (S.seq S.ct rest ρ) (.ct s) := by rw [h]; rfl
theorem r_fgt {l : List Nat} (e : forget ρ l = ρ') (h : RelF Z sn sb (rest ρ') y) : RelF Z sn sb (S.seq (S.fgt l) rest ρ) y := by
  show RelF Z sn sb (rest (forget ρ l)) y
  rw [e]; exact h
theorem r_frz {i : Nat} (e : frzR ρ i = ρ') (h : RelF Z sn sb (rest ρ') y) : RelF Z sn sb (S.seq (S.frz i) rest ρ) y := by
  show RelF Z sn sb (rest (frzR ρ i)) y
  rw [e]; exact h
/-- what follows an evaluation -/
theorem r_of {m : M α} {K : α → SS} {o : O α} {k : α → Y U B P} (h : EvP m ρ o) (hx : Z.xk ρ) (hk : ∀ a, RelF Z sn sb (K a ρ) (k a)) : RelF Z sn sb (S.of m K ρ) (Y.of o k) := by
  cases o with
  | bad => trivial
  | ok a =>
    have h : m ρ = _ := h
    exact r_conv (by simp [h]) (hk a)
  | exc c =>
    have h : m ρ = _ := h
    exact ⟨ρ, by simp [h], hx⟩
theorem r_ofX {m : M α} {K : α → SS} {o : O γ} {v : γ → α} {s : γ → Rho} {k : γ → Y U B P} (h : EvX Z.xk m ρ o v s) (hk : ∀ x, RelF Z sn sb (K (v x) (s x)) (k x)) : RelF Z sn sb (S.of m K ρ) (Y.of o k) := by
  cases o with
  | bad => trivial
  | ok a =>
    have h : m ρ = _ := h
    exact r_conv (by simp [h]) (hk a)
  | exc c =>
    obtain ⟨r, h1, h2⟩ := h
    exact ⟨r, by simp [h1], h2⟩
theorem r_ofV {m : M α} {K : α → SS} {x : α} (h : m ρ = some (.val x ρ')) (hk : RelF Z sn sb (K x ρ') y) : RelF Z sn sb (S.of m K ρ) y := r_conv (by simp [h]) hk
theorem seq_of {m : M α} {K : α → SS} : S.seq (S.of m K) rest ρ = S.of m (fun a => S.seq (K a) rest) ρ := by
  unfold S.seq S.of
  cases m ρ with
  | none => rfl
  | some x => cases x <;> rfl
def S.tgK (g : TgM) (rest : SS) (d : D) : SS := fun ρ => match g d ρ with
  | some ρ' => rest ρ'
  | none => none
theorem asg_eq {m : M D} {g : TgM} : S.seq (S.asg m g) rest ρ = S.of m (fun d => S.tgK g rest d) ρ := by
  unfold S.asg
  rw [seq_of]
  congr 1
  funext d ρ
  unfold S.seq S.tgK
  dsimp only
  cases g d ρ <;> rfl
theorem r_tg {g : TgM} (h : g d ρ = some ρ') (hk : RelF Z sn sb (rest ρ') y) : RelF Z sn sb (S.tgK g rest d ρ) y := by
  unfold S.tgK
  rw [h]
  exact hk
theorem r_asg {m : M D} {g : TgM} {o : O D} {k : D → Y U B P} (h : EvP m ρ o) (hx : Z.xk ρ) (hk : ∀ d, RelF Z sn sb (S.tgK g rest d ρ) (k d)) : RelF Z sn sb (S.seq (S.asg m g) rest ρ) (Y.of o k) := by
  rw [asg_eq]; exact r_of h hx hk
theorem r_asgV {m : M D} {g : TgM} (h : m ρ = some (.val d ρ')) (hk : RelF Z sn sb (S.tgK g rest d ρ') y) : RelF Z sn sb (S.seq (S.asg m g) rest ρ) y := by
  rw [asg_eq]; exact r_ofV h hk
theorem r_asgX {m : M D} {g : TgM} {o : O γ} {v : γ → D} {s : γ → Rho} {k : γ → Y U B P} (h : EvX Z.xk m ρ o v s) (hk : ∀ x, RelF Z sn sb (S.tgK g rest (v x) (s x)) (k x)) : RelF Z sn sb (S.seq (S.asg m g) rest ρ) (Y.of o k) := by
  rw [asg_eq]; exact r_ofX h hk
def S.setK (i : Nat) (rest : SS) (c : Cell) : SS := fun ρ => if isInn ρ i = true then none else rest (ρ.set i (some (.mut true c)))
theorem setF_eq {m : M Cell} {i : Nat} : S.seq (S.setF m i) rest ρ = S.of m (fun c => S.setK i rest c) ρ := by
  unfold S.setF
  rw [seq_of]
  congr 1
  funext d ρ
  unfold S.seq S.setK
  dsimp only
  by_cases h : isInn ρ i = true
  · rw [if_pos h, if_pos h]
  · rw [if_neg h, if_neg h]
theorem r_setK {i : Nat} {c : Cell} (hi : isInn ρ i = false) (e : ρ.set i (some (.mut true c)) = ρ') (h : RelF Z sn sb (rest ρ') y) : RelF Z sn sb (S.setK i rest c ρ) y := by
  unfold S.setK
  rw [hi, if_neg Bool.false_ne_true, e]
  exact h
theorem r_setF {m : M Cell} {i : Nat} {o : O Cell} {k : List D → Y U B P} (h : EvP m ρ o) (hx : Z.xk ρ) (hk : ∀ xs, RelF Z sn sb (S.setK i rest (.lst xs) ρ) (k xs)) : RelF Z sn sb (S.seq (S.setF m i) rest ρ) (Y.of (o.bind O.asL) k) := by
  rw [setF_eq, Y.of_bind]
  exact r_of h hx fun c => by cases c <;> first | exact hk _ | trivial
theorem r_setFV {m : M Cell} {i : Nat} {c : Cell} (h : m ρ = some (.val c ρ')) (hk : RelF Z sn sb (S.setK i rest c ρ') y) : RelF Z sn sb (S.seq (S.setF m i) rest ρ) y := by
  rw [setF_eq]; exact r_ofV h hk
theorem r_setFX {m : M Cell} {i : Nat} {o : O γ} {v : γ → Cell} {s : γ → Rho} {k : γ → Y U B P} (h : EvX Z.xk m ρ o v s) (hk : ∀ x, RelF Z sn sb (S.setK i rest (v x) (s x)) (k x)) : RelF Z sn sb (S.seq (S.setF m i) rest ρ) (Y.of o k) := by
  rw [setF_eq]; exact r_ofX h hk
theorem drop_eq {m : M D} : S.seq (S.drop m) rest ρ = S.of m (fun _ => rest) ρ := by
  unfold S.drop
  rw [seq_of]
  rfl
theorem r_drop {m : M D} {o : O D} {k : D → Y U B P} (h : EvP m ρ o) (hx : Z.xk ρ) (hk : ∀ d, RelF Z sn sb (rest ρ) (k d)) : RelF Z sn sb (S.seq (S.drop m) rest ρ) (Y.of o k) := by
  rw [drop_eq]; exact r_of h hx hk
theorem r_dropX {m : M D} {o : O γ} {v : γ → D} {s : γ → Rho} {k : γ → Y U B P} (h : EvX Z.xk m ρ o v s) (hk : ∀ x, RelF Z sn sb (rest (s x)) (k x)) : RelF Z sn sb (S.seq (S.drop m) rest ρ) (Y.of o k) := by
  rw [drop_eq]; exact r_ofX h hk
theorem ret_eq {m : M D} : S.seq (S.ret m) rest ρ = S.of m (fun d ρ => some (.ret d ρ)) ρ := by
  unfold S.ret
  rw [seq_of]
  rfl
theorem retF_eq {m : M Cell} : S.seq (S.retF m) rest ρ = S.of m (fun d ρ => some (.retF d ρ)) ρ := by
  unfold S.retF
  rw [seq_of]
  rfl
theorem r_ret {m : M D} {o : O D} {mk : D → P} (h : EvP m ρ o) (hx : Z.xk ρ) (hk : ∀ d, Z.ok (.ret d ρ) (mk d)) : RelF Z sn sb (S.seq (S.ret m) rest ρ) (Y.of o fun d => .ret (mk d)) := by
  rw [ret_eq]; exact r_of h hx fun d => ⟨_, rfl, hk d⟩
theorem r_retV {m : M D} {r : P} (h : m ρ = some (.val d ρ')) (hk : Z.ok (.ret d ρ') r) : RelF Z sn sb (S.seq (S.ret m) rest ρ) (.ret r) := by
  rw [ret_eq]; exact r_ofV h ⟨_, rfl, hk⟩
theorem r_retX {m : M D} {o : O γ} {v : γ → D} {s : γ → Rho} {mk : γ → P} (h : EvX Z.xk m ρ o v s) (hk : ∀ x, Z.ok (.ret (v x) (s x)) (mk x)) : RelF Z sn sb (S.seq (S.ret m) rest ρ) (Y.of o fun x => .ret (mk x)) := by
  rw [ret_eq]; exact r_ofX h fun x => ⟨_, rfl, hk x⟩
theorem r_retN {r : P} (hk : Z.ok (.ret .none ρ) r) : RelF Z sn sb (S.seq S.retN rest ρ) (.ret r) := ⟨_, rfl, hk⟩
theorem r_retF {m : M Cell} {o : O Cell} {mk : Cell → P} (h : EvP m ρ o) (hx : Z.xk ρ) (hk : ∀ d, Z.ok (.retF d ρ) (mk d)) : RelF Z sn sb (S.seq (S.retF m) rest ρ) (Y.of o fun d => .ret (mk d)) := by
  rw [retF_eq]; exact r_of h hx fun d => ⟨_, rfl, hk d⟩
theorem r_retFX {m : M Cell} {o : O γ} {v : γ → Cell} {s : γ → Rho} {mk : γ → P} (h : EvX Z.xk m ρ o v s) (hk : ∀ x, Z.ok (.retF (v x) (s x)) (mk x)) : RelF Z sn sb (S.seq (S.retF m) rest ρ) (Y.of o fun x => .ret (mk x)) := by
  rw [retF_eq]; exact r_ofX h fun x => ⟨_, rfl, hk x⟩
theorem r_raise {c : Str} (hx : Z.xk ρ) : RelF Z sn sb (S.seq (S.raise c) rest ρ) (.exc c) := ⟨ρ, rfl, hx⟩
/-! if -/
theorem ife_eq {mt : M Bool} : S.seq (S.ife mt n n') rest ρ = S.of mt (fun t => if t = true then S.seq n rest else S.seq n' rest) ρ := by
  unfold S.ife
  rw [seq_of]
  congr 1
  funext t ρ
  cases t <;> rfl
theorem r_ite {p : Prop} [Decidable p] {m m' : SS} (h : RelF Z sn sb (m ρ) y1) (h' : RelF Z sn sb (m' ρ) y2) : RelF Z sn sb ((if p then m else m') ρ) (if p then y1 else y2) := by
  split
  · exact h
  · exact h'
theorem r_if {mt : M Bool} {o : O Bool} (h : EvP mt ρ o) (hx : Z.xk ρ) (h1 : RelF Z sn sb (S.seq n rest ρ) y1) (h2 : RelF Z sn sb (S.seq n' rest ρ) y2) : RelF Z sn sb (S.seq (S.ife mt n n') rest ρ) (Y.of o fun t => if t = true then y1 else y2) := by
  rw [ife_eq]; exact r_of h hx fun t => r_ite h1 h2
theorem r_ifX {mt : M Bool} {o : O γ} {v : γ → Bool} {s : γ → Rho} {k1 k2 : γ → Y U B P} (h : EvX Z.xk mt ρ o v s) (h1 : ∀ x, RelF Z sn sb (S.seq n rest (s x)) (k1 x)) (h2 : ∀ x, RelF Z sn sb (S.seq n' rest (s x)) (k2 x)) : RelF Z sn sb (S.seq (S.ife mt n n') rest ρ) (Y.of o fun x => if v x = true then k1 x else k2 x) := by
  rw [ife_eq]; exact r_ofX h fun x => r_ite (h1 x) (h2 x)
/-- a block that comes to a state of its own -/
theorem r_join {st : U' → Rho} {blk : SS} {yb : Y U' B P} {k : U' → Y U B P} (h1 : RelF Z st sb (blk ρ) yb) (h2 : ∀ s, RelF Z sn sb (rest (st s)) (k s)) : RelF Z sn sb (S.seq blk rest ρ) (yb.then' k) := by
  unfold S.seq
  cases yb with
  | bad => trivial
  | nx s =>
    have h1 : blk ρ = _ := h1
    rw [h1]; exact h2 s
  | brk s =>
    have h1 : blk ρ = _ := h1
    rw [h1]; rfl
  | ct s =>
    have h1 : blk ρ = _ := h1
    rw [h1]; rfl
  | ret r =>
    obtain ⟨q, h3, h4⟩ := h1
    rw [h3]
    rcases Z.is h4 with ⟨d, ρ', rfl⟩ | ⟨c, ρ', rfl⟩
    · exact ⟨_, rfl, h4⟩
    · exact ⟨_, rfl, h4⟩
  | exc c =>
    obtain ⟨q, h3, h4⟩ := h1
    rw [h3]
    exact ⟨q, rfl, h4⟩
/-! loops -/
theorem loop_rel {st : U' → Rho} {g : TgM} {body : SS} {f : D → U' → Y U' U' P} (hb : ∀ d s, RelF Z st st (S.tgK g body d (st s)) (f d s)) : ∀ (ds : List D) (s : U'), RelF Z st sb (loopM g body ds (st s)) (Y.forL f ds s)
  | [], s => rfl
  | d :: r, s => by
    have hd := hb d s
    unfold S.tgK at hd
    unfold Y.forL loopM
    cases eg : g d (st s) with
    | none =>
      rw [eg] at hd
      dsimp only at hd ⊢
      cases ef : f d s with
      | bad => trivial
      | nx s' => rw [ef] at hd; cases hd
      | brk s' => rw [ef] at hd; cases hd
      | ct s' => rw [ef] at hd; cases hd
      | ret x => rw [ef] at hd; obtain ⟨q, h, _⟩ := hd; cases h
      | exc x => rw [ef] at hd; obtain ⟨q, h, _⟩ := hd; cases h
    | some ρ1 =>
      rw [eg] at hd
      dsimp only at hd ⊢
      unfold S.turn
      cases ef : f d s with
      | bad => trivial
      | nx s' =>
        rw [ef] at hd
        have hd : body ρ1 = _ := hd
        rw [hd]
        exact loop_rel hb r s'
      | ct s' =>
        rw [ef] at hd
        have hd : body ρ1 = _ := hd
        rw [hd]
        exact loop_rel hb r s'
      | brk s' =>
        rw [ef] at hd
        have hd : body ρ1 = _ := hd
        rw [hd]
        rfl
      | ret x =>
        rw [ef] at hd
        obtain ⟨q, h3, h4⟩ := hd
        rw [h3]
        rcases Z.is h4 with ⟨d, ρ', rfl⟩ | ⟨c, ρ', rfl⟩
        · exact ⟨_, rfl, h4⟩
        · exact ⟨_, rfl, h4⟩
      | exc c =>
        rw [ef] at hd
        obtain ⟨q, h3, h4⟩ := hd
        rw [h3]
        exact ⟨q, rfl, h4⟩
theorem for_eq {ms : M (List D)} {g : TgM} {body : SS} : S.seq (S.forS ms g body) rest ρ = S.of ms (fun ds => S.seq (loopM g body ds) rest) ρ := by
  unfold S.forS
  rw [seq_of]
theorem r_for {st : U' → Rho} {ms : M (List D)} {g : TgM} {body : SS} {o : O (List D)} {f : D → U' → Y U' U' P} {k : U' → Y U B P} (s0 : U') (h : EvP ms ρ o) (hx : Z.xk ρ) (e : ρ = st s0) (hb : ∀ d s, RelF Z st st (S.tgK g body d (st s)) (f d s)) (hk : ∀ s, RelF Z sn sb (rest (st s)) (k s)) :
    RelF Z sn sb (S.seq (S.forS ms g body) rest ρ) (Y.of o fun ds => (Y.forL f ds s0).then' k) := by
  rw [for_eq]
  refine r_of h hx fun ds => r_join (st := st) ?_ hk
  rw [e]
  exact loop_rel hb ds s0
theorem r_forV {st : U' → Rho} {ms : M (List D)} {g : TgM} {body : SS} {ds : List D} {f : D → U' → Y U' U' P} {k : U' → Y U B P} (s0 : U') (h : ms ρ = some (.val ds ρ')) (e : ρ' = st s0) (hb : ∀ d s, RelF Z st st (S.tgK g body d (st s)) (f d s)) (hk : ∀ s, RelF Z sn sb (rest (st s)) (k s)) :
    RelF Z sn sb (S.seq (S.forS ms g body) rest ρ) ((Y.forL f ds s0).then' k) := by
  rw [for_eq]
  refine r_ofV h (r_join (st := st) ?_ hk)
  rw [e]
  exact loop_rel hb ds s0
theorem r_forX {ms : M (List D)} {g : TgM} {body : SS} {o : O γ} {v : γ → List D} {sx : γ → Rho} {f : γ → D → U' → Y U' U' P} {k : γ → U' → Y U B P} (st : γ → U' → Rho) (s0 : γ → U') (h : EvX Z.xk ms ρ o v sx) (e : ∀ x, sx x = st x (s0 x)) (hb : ∀ x d s, RelF Z (st x) (st x) (S.tgK g body d (st x s)) (f x d s)) (hk : ∀ x s, RelF Z sn sb (rest (st x s)) (k x s)) :
    RelF Z sn sb (S.seq (S.forS ms g body) rest ρ) (Y.of o fun x => (Y.forL (f x) (v x) (s0 x)).then' (k x)) := by
  rw [for_eq]
  refine r_ofX h fun x => r_join (st := st x) ?_ (hk x)
  rw [e]
  exact loop_rel (hb x) (v x) (s0 x)
theorem whlN_rel {st : U' → Rho} {mt : M Bool} {body : SS} {c : U' → O Bool} {f : U' → Y U' U' P} (hx : ∀ s, Z.xk (st s)) (hc : ∀ s, EvP mt (st s) (c s)) (hb : ∀ s, RelF Z st st (body (st s)) (f s)) : ∀ (k : Nat) (s : U'), RelF Z st sb (whileM mt body k (st s)) (Y.whlN c f k s)
  | 0, s => trivial
  | k + 1, s => by
    unfold Y.whlN whileM
    have h := hc s
    cases ec : c s with
    | bad => trivial
    | exc x =>
      rw [ec] at h
      have h : mt (st s) = _ := h
      exact ⟨st s, by simp [h], hx s⟩
    | ok t =>
      rw [ec] at h
      have h : mt (st s) = _ := h
      cases t with
      | false => exact r_conv (by simp [h]) (show RelF Z st sb (S.nx (st s)) (.nx s) from rfl)
      | true =>
        refine r_conv (q' := S.turn body (whileM mt body k) (st s)) (by simp [h]) ?_
        have hd := hb s
        unfold S.turn
        dsimp only
        cases ef : f s with
        | bad => trivial
        | nx s' =>
          rw [ef] at hd
          have hd : body (st s) = _ := hd
          rw [hd]
          exact whlN_rel hx hc hb k s'
        | ct s' =>
          rw [ef] at hd
          have hd : body (st s) = _ := hd
          rw [hd]
          exact whlN_rel hx hc hb k s'
        | brk s' =>
          rw [ef] at hd
          have hd : body (st s) = _ := hd
          rw [hd]
          rfl
        | ret x =>
          rw [ef] at hd
          obtain ⟨q, h3, h4⟩ := hd
          rw [h3]
          rcases Z.is h4 with ⟨d, ρ', rfl⟩ | ⟨c, ρ', rfl⟩
          · exact ⟨_, rfl, h4⟩
          · exact ⟨_, rfl, h4⟩
        | exc c =>
          rw [ef] at hd
          obtain ⟨q, h3, h4⟩ := hd
          rw [h3]
          exact ⟨q, rfl, h4⟩
theorem whl_rel {st : U' → Rho} {mt : M Bool} {body : SS} {c : U' → O Bool} {f : U' → Y U' U' P} (hx : ∀ s, Z.xk (st s)) (hc : ∀ s, EvP mt (st s) (c s)) (hb : ∀ s, RelF Z st st (body (st s)) (f s)) (s : U') : RelF Z st sb (S.whl mt body (st s)) (Y.whl c f s) := by
  by_cases h : ∃ k, Y.whlN (B := B) c f k s ≠ .bad
  · obtain ⟨k, hk⟩ := h
    rw [Y.whl_eq hk]
    have r := whlN_rel (sb := sb) hx hc hb k s
    cases e : whileM mt body k (st s) with
    | none =>
      rw [e] at r
      cases ey : Y.whlN (B := B) c f k s with
      | bad => trivial
      | nx s' => rw [ey] at r; cases r
      | brk s' => rw [ey] at r; cases r
      | ct s' => rw [ey] at r; cases r
      | ret x => rw [ey] at r; obtain ⟨q, h, _⟩ := r; cases h
      | exc x => rw [ey] at r; obtain ⟨q, h, _⟩ := r; cases h
    | some q =>
      rw [e] at r
      rw [DL.whl_eq e]
      exact r
  · have hn : ∀ k, Y.whlN (B := B) c f k s = .bad := fun k => Classical.byContradiction fun z => h ⟨k, z⟩
    rw [Y.whl_bad hn]
    trivial
theorem r_whl {st : U' → Rho} {mt : M Bool} {body : SS} {c : U' → O Bool} {f : U' → Y U' U' P} {k : U' → Y U B P} (s0 : U') (e : ρ = st s0) (hx : ∀ s, Z.xk (st s)) (hc : ∀ s, EvP mt (st s) (c s)) (hb : ∀ s, RelF Z st st (body (st s)) (f s)) (hk : ∀ s, RelF Z sn sb (rest (st s)) (k s)) :
    RelF Z sn sb (S.seq (S.whl mt body) rest ρ) ((Y.whl c f s0).then' k) := by
  refine r_join (st := st) ?_ hk
  rw [e]
  exact whl_rel hx hc hb s0
/-! a, b = e, f; x op= e; x[k] = e; a, b, c = xs -/
def S.parK (i j : Nat) (rest : SS) (x y : Sl) : SS := fun ρ => if isInn ρ i = true ∨ isInn ρ j = true ∨ i = j then none else rest ((ρ.set i (some x)).set j (some y))
theorem par_eq {i j : Nat} {ma mb : M D} : S.seq (S.par i j ma mb) rest ρ = S.of ma (fun x => S.of mb fun y => S.parK i j rest (.dat x) (.dat y)) ρ := by
  unfold S.par
  rw [seq_of]
  congr 1
  funext x ρ
  rw [seq_of]
  congr 1
  funext y ρ
  unfold S.seq S.parK
  dsimp only
  by_cases h : isInn ρ i = true ∨ isInn ρ j = true ∨ i = j
  · rw [if_pos h, if_pos h]
  · rw [if_neg h, if_neg h]
theorem parDF_eq {i j : Nat} {ma : M D} {mb : M Cell} : S.seq (S.parDF i j ma mb) rest ρ = S.of ma (fun x => S.of mb fun y => S.parK i j rest (.dat x) (.mut true y)) ρ := by
  unfold S.parDF
  rw [seq_of]
  congr 1
  funext x ρ
  rw [seq_of]
  congr 1
  funext y ρ
  unfold S.seq S.parK
  dsimp only
  by_cases h : isInn ρ i = true ∨ isInn ρ j = true ∨ i = j
  · rw [if_pos h, if_pos h]
  · rw [if_neg h, if_neg h]
theorem r_parK {i j : Nat} {u w : Sl} (hi : isInn ρ i = false) (hj : isInn ρ j = false) (hij : i ≠ j) (e : (ρ.set i (some u)).set j (some w) = ρ') (h : RelF Z sn sb (rest ρ') y) : RelF Z sn sb (S.parK i j rest u w ρ) y := by
  unfold S.parK
  rw [if_neg (by simp [hi, hj, hij]), e]
  exact h
theorem r_par {i j : Nat} {ma mb : M D} (h : RelF Z sn sb (S.of ma (fun x => S.of mb fun y => S.parK i j rest (.dat x) (.dat y)) ρ) y) : RelF Z sn sb (S.seq (S.par i j ma mb) rest ρ) y := by
  rw [par_eq]; exact h
theorem r_parDF {i j : Nat} {ma : M D} {mb : M Cell} (h : RelF Z sn sb (S.of ma (fun x => S.of mb fun y => S.parK i j rest (.dat x) (.mut true y)) ρ) y) : RelF Z sn sb (S.seq (S.parDF i j ma mb) rest ρ) y := by
  rw [parDF_eq]; exact h
def S.fdK (i j : Nat) (mb : M D) (rest : SS) (x : Cell) : SS := fun ρ => match mb ρ with
  | some (.val y ρ) => S.parK i j rest (.mut true x) (.dat y) ρ
  | _ => none
theorem parFD_eq {i j : Nat} {mc : M Cell} {mb : M D} : S.seq (S.parFD i j mc mb) rest ρ = S.of mc (fun x => S.fdK i j mb rest x) ρ := by
  unfold S.parFD
  rw [seq_of]
  congr 1
  funext x ρ
  unfold S.seq S.fdK
  dsimp only
  cases mb ρ with
  | none => rfl
  | some q =>
    cases q with
    | exc c r => rfl
    | val y ρ =>
      unfold S.parK
      dsimp only
      by_cases h : isInn ρ i = true ∨ isInn ρ j = true ∨ i = j
      · rw [if_pos h, if_pos h]
      · rw [if_neg h, if_neg h]
theorem r_parFD {i j : Nat} {mc : M Cell} {mb : M D} (h : RelF Z sn sb (S.of mc (fun x => S.fdK i j mb rest x) ρ) y) : RelF Z sn sb (S.seq (S.parFD i j mc mb) rest ρ) y := by
  rw [parFD_eq]; exact h
theorem r_fdV {i j : Nat} {mb : M D} {x : Cell} {v : D} (h : mb ρ = some (.val v ρ)) (hk : RelF Z sn sb (S.parK i j rest (.mut true x) (.dat v) ρ) y) : RelF Z sn sb (S.fdK i j mb rest x ρ) y := by
  unfold S.fdK
  rw [h]; exact hk
theorem r_fd {i j : Nat} {mb : M D} {x : Cell} {o : O D} {k : D → Y U B P} (h : EvP mb ρ o) (hk : ∀ v, RelF Z sn sb (S.parK i j rest (.mut true x) (.dat v) ρ) (k v)) : RelF Z sn sb (S.fdK i j mb rest x ρ) (Y.of (O.noX o) k) := by
  cases o with
  | bad => trivial
  | exc c => trivial
  | ok v =>
    have h : mb ρ = _ := h
    unfold S.fdK
    rw [h]; exact hk v
theorem r_ofL {m : M Cell} {K : Cell → SS} {o : O Cell} {k : List D → Y U B P} (h : EvP m ρ o) (hx : Z.xk ρ) (hk : ∀ xs, RelF Z sn sb (K (.lst xs) ρ) (k xs)) : RelF Z sn sb (S.of m K ρ) (Y.of (o.bind O.asL) k) := by
  rw [Y.of_bind]
  exact r_of h hx fun c => by cases c <;> first | exact hk _ | trivial
def S.augK (g : D → D → Option D) (i : Nat) (rest : SS) (d e : D) : SS := fun ρ => if isInn ρ i = true then none else match g d e with
    | some z => rest (ρ.set i (some (.dat z)))
    | none => none
theorem aug_eq {g : D → D → Option D} {i : Nat} {m : M D} (hi : ρ[i]? = some (some (.dat d))) : S.seq (S.aug g i m) rest ρ = S.of m (fun e => S.augK g i rest d e) ρ := by
  have e1 : S.aug g i m ρ = S.of m (fun e ρ' => if isInn ρ' i = true then none else match g d e with
    | some z => some (.nx (ρ'.set i (some (.dat z))))
    | none => none) ρ := by
    unfold S.aug
    (rw [hi]) <;> rfl
  have e2 : S.seq (S.aug g i m) rest ρ = S.seq (S.of m (fun e ρ' => if isInn ρ' i = true then none else match g d e with
    | some z => some (.nx (ρ'.set i (some (.dat z))))
    | none => none)) rest ρ := by
    unfold S.seq
    rw [e1]
  rw [e2, seq_of]
  congr 1
  funext x ρ
  unfold S.seq S.augK
  dsimp only
  by_cases h : isInn ρ i = true
  · rw [if_pos h, if_pos h]
  · rw [if_neg h, if_neg h]
    cases g d x <;> rfl
theorem r_augK {g : D → D → Option D} {i : Nat} {e : D} {k : D → Y U B P} (hi : isInn ρ i = false) (h : ∀ z, RelF Z sn sb (rest (ρ.set i (some (.dat z)))) (k z)) : RelF Z sn sb (S.augK g i rest d e ρ) (Y.of (O.lift (g d e)) k) := by
  unfold S.augK
  rw [hi, if_neg Bool.false_ne_true]
  cases g d e with
  | none => trivial
  | some z => exact h z
theorem r_aug {g : D → D → Option D} {i : Nat} {m : M D} {o : O D} {k : D → Y U B P} (hi : ρ[i]? = some (some (.dat d))) (hn : isInn ρ i = false) (h : EvP m ρ o) (hx : Z.xk ρ) (hk : ∀ z, RelF Z sn sb (rest (ρ.set i (some (.dat z)))) (k z)) : RelF Z sn sb (S.seq (S.aug g i m) rest ρ) (Y.of (o.bind fun e => O.lift (g d e)) k) := by
  rw [aug_eq hi, Y.of_bind]
  exact r_of h hx fun e => r_augK hn hk
theorem r_set {i : Nat} {s : Option Sl} (e : ρ.set i s = ρ') (h : RelF Z sn sb (rest ρ') y) : RelF Z sn sb (rest (ρ.set i s)) y := by rw [e]; exact h
theorem r_setIx {i : Nat} {b : Bool} {ds : List D} {mk me : M D} {oe ok : O D} {k : List D → Y U B P} (hi : mutL ρ i = some (b, ds)) (he : EvP me ρ oe) (hk' : EvP mk ρ ok) (hx : Z.xk ρ) (hk : ∀ xs, RelF Z sn sb (rest (ρ.set i (some (.mut b (.lst xs))))) (k xs)) :
    RelF Z sn sb (S.seq (S.setIx i mk me) rest ρ) (Y.of (oe.bind fun d => ok.bind fun j => O.setIx ds j d) k) := by
  unfold S.setIx
  rw [seq_of, Y.of_bind]
  refine r_of he hx fun d => ?_
  rw [Y.of_bind]
  have e1 : S.seq (fun ρ => match mutL ρ i with
      | none => none
      | some _ => S.of mk (fun k ρ' => match k, mutL ρ' i with
        | .int j, some (b, ds) => match ixN ds.length j with
          | some n => some (.nx (ρ'.set i (some (.mut b (.lst (ds.set n d))))))
          | none => none
        | _, _ => none) ρ) rest ρ = S.of mk (fun k => S.seq (fun ρ' => match k, mutL ρ' i with
        | .int j, some (b, ds) => match ixN ds.length j with
          | some n => some (.nx (ρ'.set i (some (.mut b (.lst (ds.set n d))))))
          | none => none
        | _, _ => none) rest) ρ := by
    rw [← seq_of]
    unfold S.seq
    dsimp only
    rw [hi]
  refine r_conv e1 ?_
  refine r_of hk' hx fun j => ?_
  unfold O.setIx S.seq
  cases j <;> try trivial
  rename_i j
  dsimp only
  rw [hi]
  dsimp only
  cases ixN ds.length j with
  | none => trivial
  | some n => exact hk _
/-- d[k] = v -/
def O.putIx (kvs : List (Key × D)) (k d : D) : O (List (Key × D)) := match keyOf k with
  | some kk => if kvs.length < 16777216 then .ok (putD kvs kk d) else .bad
  | none => .bad
theorem r_putIx {i : Nat} {b : Bool} {kvs : List (Key × D)} {mk me : M D} {oe ok : O D} {k : List (Key × D) → Y U B P} (hi : mutK ρ i = some (b, kvs)) (he : EvP me ρ oe) (hk' : EvP mk ρ ok) (hx : Z.xk ρ) (hk : ∀ xs, RelF Z sn sb (rest (ρ.set i (some (.mut b (.dK xs))))) (k xs)) :
    RelF Z sn sb (S.seq (S.putIx i mk me) rest ρ) (Y.of (oe.bind fun d => ok.bind fun j => O.putIx kvs j d) k) := by
  unfold S.putIx
  rw [seq_of, Y.of_bind]
  refine r_of he hx fun d => ?_
  rw [Y.of_bind]
  have e1 : S.seq (fun ρ => match mutK ρ i with
      | none => none
      | some _ => S.of mk (fun k ρ' => match keyOf k, mutK ρ' i with
        | some kk, some (b, kvs) => if kvs.length < 16777216 then some (.nx (ρ'.set i (some (.mut b (.dK (putD kvs kk d)))))) else none
        | _, _ => none) ρ) rest ρ = S.of mk (fun k => S.seq (fun ρ' => match keyOf k, mutK ρ' i with
        | some kk, some (b, kvs) => if kvs.length < 16777216 then some (.nx (ρ'.set i (some (.mut b (.dK (putD kvs kk d)))))) else none
        | _, _ => none) rest) ρ := by
    rw [← seq_of]
    unfold S.seq
    dsimp only
    rw [hi]
  refine r_conv e1 ?_
  refine r_of hk' hx fun j => ?_
  unfold O.putIx S.seq
  cases keyOf j with
  | none => trivial
  | some kk =>
    dsimp only
    rw [hi]
    dsimp only
    by_cases hl : kvs.length < 16777216
    · rw [if_pos hl, if_pos hl]; exact hk _
    · rw [if_neg hl, if_neg hl]; trivial
def S.mtK (g : List D → Rho → Option Rho) (rest : SS) (ds : List D) : SS := fun ρ => match g ds ρ with
    | some ρ' => rest ρ'
    | none => none
theorem r_unpL3 {i : Nat} {g : List D → Rho → Option Rho} {b : Bool} {ds : List D} {k : D → D → D → Y U B P} (hi : mutL ρ i = some (b, ds)) (h : ∀ x y z, RelF Z sn sb (S.mtK g rest [x, y, z] ρ) (k x y z)) : RelF Z sn sb (S.seq (S.unpL i 3 g) rest ρ) (unl3 .bad ds k) := by
  unfold S.seq S.unpL unl3
  rw [hi]
  dsimp only
  match ds with
  | [x, y, z] =>
    dsimp only
    rw [if_pos (by rfl)]
    have := h x y z
    unfold S.mtK at this
    cases e : g [x, y, z] ρ with
    | none => rw [e] at this; exact this
    | some ρ' => rw [e] at this; exact this
  | [] => trivial
  | [x] => trivial
  | [x, y] => trivial
  | x :: y :: z :: u :: r => trivial
theorem r_mt {g : List D → Rho → Option Rho} {ds : List D} (e : g ds ρ = some ρ') (h : RelF Z sn sb (rest ρ') y) : RelF Z sn sb (S.mtK g rest ds ρ) y := by
  unfold S.mtK
  rw [e]; exact h
/-! try -/
theorem r_tryW {Rs : List Str} {F : Str → Option Str} {i : Nat} {m : SS} {mk : D → P} {yb : Y U B P} (h : RelF { ok := Z.ok, xk := fun ρ' => i < ρ'.length ∧ ∀ x, Z.ok (.ret x ρ') (mk x), is := Z.is } sn sb (m ρ) yb) :
    RelF Z sn sb (S.seq (S.tryW Rs F i m) rest ρ) (Y.tryW Rs F mk yb) := by
  unfold S.seq S.tryW
  cases yb with
  | bad => trivial
  | nx s => trivial
  | brk s =>
    have h : m ρ = _ := h
    rw [h]; rfl
  | ct s =>
    have h : m ρ = _ := h
    rw [h]; rfl
  | ret r =>
    obtain ⟨q, h3, h4⟩ := h
    rw [h3]
    rcases Z.is h4 with ⟨d, ρ', rfl⟩ | ⟨c, ρ', rfl⟩
    · exact ⟨_, rfl, h4⟩
    · exact ⟨_, rfl, h4⟩
  | exc c =>
    obtain ⟨ρ', h3, h4, h5⟩ := h
    rw [h3]
    dsimp only
    unfold Y.tryW
    dsimp only
    by_cases hc : Rs.contains c = true
    · rw [if_pos hc, if_pos ⟨hc, h4⟩]
      cases F c with
      | none => trivial
      | some x => exact ⟨_, rfl, h5 _⟩
    · rw [if_neg hc]
      trivial
end
/-! a def -/
def FrD (as : List Av) : Fr D where
  ok := fun q r => ∃ ρ', q = .ret r ρ' ∧ outsOf as ρ' = some []
  xk := fun ρ' => outsOf as ρ' = some []
  is := fun ⟨ρ', e, _⟩ => .inl ⟨_, ρ', e⟩
def FrF (as : List Av) : Fr Cell where
  ok := fun q r => ∃ ρ', q = .retF r ρ' ∧ outsOf as ρ' = some []
  xk := fun ρ' => outsOf as ρ' = some []
  is := fun ⟨ρ', e, _⟩ => .inr ⟨_, ρ', e⟩
/-- it changes what is handed in -/
def FrR {T : Type} (as : List Av) (vo : T → List Cell) : Fr (D × T) where
  ok := fun q r => ∃ ρ', q = .ret r.1 ρ' ∧ outsOf as ρ' = some (vo r.2)
  xk := fun _ => True
  is := fun ⟨ρ', e, _⟩ => .inl ⟨_, ρ', e⟩
def FrRF {T : Type} (as : List Av) (vo : T → List Cell) : Fr (Cell × T) where
  ok := fun q r => ∃ ρ', q = .retF r.1 ρ' ∧ outsOf as ρ' = some (vo r.2)
  xk := fun _ => True
  is := fun ⟨ρ', e, _⟩ => .inr ⟨_, ρ', e⟩
def sbE : Empty → Rho := fun e => nomatch e
section
variable {sn : U → Rho} {n N : Nat} {m : SS} {as : List Av}
theorem cok_d {y : Y U Empty D} (h : RelF (FrD as) sn sbE (m (rho0 N as)) y) (hl : as.length = n ∧ n ≤ N) (hn : ∀ s, outsOf as (sn s) = some []) : Cok (runF n N m as) (y.fin fun _ => .none) := by
  unfold runF
  rw [if_pos hl]
  cases y with
  | bad => trivial
  | brk s => cases s
  | ct s => cases s
  | nx s =>
    have h : m (rho0 N as) = _ := h
    show _ = some _
    rw [h]
    dsimp only
    rw [hn]
    rfl
  | ret r =>
    obtain ⟨q, h1, ρ', rfl, h2⟩ := h
    show _ = some _
    rw [h1]
    dsimp only
    rw [h2]
    rfl
  | exc c =>
    obtain ⟨q, h1, h2⟩ := h
    show _ = some _
    rw [h1]
    dsimp only
    rw [show outsOf as q = some [] from h2]
    rfl
theorem cok_f {y : Y U Empty Cell} (h : RelF (FrF as) sn sbE (m (rho0 N as)) y) (hl : as.length = n ∧ n ≤ N) : CokF (runF n N m as) y.finF := by
  unfold runF
  rw [if_pos hl]
  cases y with
  | bad => trivial
  | brk s => cases s
  | ct s => cases s
  | nx s => trivial
  | ret r =>
    obtain ⟨q, h1, ρ', rfl, h2⟩ := h
    show _ = some _
    rw [h1]
    dsimp only
    rw [h2]
    rfl
  | exc c =>
    obtain ⟨q, h1, h2⟩ := h
    show _ = some _
    rw [h1]
    dsimp only
    rw [show outsOf as q = some [] from h2]
    rfl
theorem cok_r {T : Type} {vo : T → List Cell} {e : U → T} {y : Y U Empty (D × T)} (h : RelF (FrR as vo) sn sbE (m (rho0 N as)) y) (hl : as.length = n ∧ n ≤ N) (hn : ∀ s, outsOf as (sn s) = some (vo (e s))) : CokR (runF n N m as) (y.finR fun s => (.none, e s)) (fun r => .ret r.1 (vo r.2)) := by
  unfold runF
  rw [if_pos hl]
  cases y with
  | bad => trivial
  | brk s => cases s
  | ct s => cases s
  | nx s =>
    have h : m (rho0 N as) = _ := h
    show _ = some _
    rw [h]
    dsimp only
    rw [hn]
    rfl
  | ret r =>
    obtain ⟨q, h1, ρ', rfl, h2⟩ := h
    show _ = some _
    rw [h1]
    dsimp only
    rw [h2]
    rfl
  | exc c => trivial
theorem cok_rf {T : Type} {vo : T → List Cell} {y : Y U Empty (Cell × T)} (h : RelF (FrRF as vo) sn sbE (m (rho0 N as)) y) (hl : as.length = n ∧ n ≤ N) : CokR (runF n N m as) y.finRF (fun r => .retF r.1 (vo r.2)) := by
  unfold runF
  rw [if_pos hl]
  cases y with
  | bad => trivial
  | brk s => cases s
  | ct s => cases s
  | nx s => trivial
  | ret r =>
    obtain ⟨q, h1, ρ', rfl, h2⟩ := h
    show _ = some _
    rw [h1]
    dsimp only
    rw [h2]
    rfl
  | exc c => trivial
end
end DL
namespace DL
open PySem PySem.Spec PyProof.Rows L2
section
variable {α β γ δ : Type} {ρ ρ' : Rho} {XK : Rho → Prop}
theorem ev_callM {F : Fn} {ms : M (List CArg)} {o : O D} (h : EvP (M.bind ms (callK F)) ρ o) : EvP (callM F ms) ρ o := h
theorem ev_callF {F : Fn} {ms : M (List CArg)} {o : O Cell} (h : EvP (M.bind ms (callKF F)) ρ o) : EvP (callF F ms) ρ o := h
theorem ev_cdatV {m : M D} {ms : M (List CArg)} {a : D} {K : List CArg → M β} {o : O β} (h : m ρ = some (.val a ρ)) (hk : EvP (M.bind ms fun xs => K (.dat a :: xs)) ρ o) : EvP (M.bind (M.cdat m ms) K) ρ o := by
  have := ev_cdat (o := .ok a) (ok := fun _ => o) (ms := ms) (K := K) (show EvP m ρ (.ok a) from h)
  have e : M.bind (M.cdat m ms) K ρ = M.bind ms (fun xs => K (.dat a :: xs)) ρ := by
    simp only [M.cdat, v_bind, v_ret, h]
    cases ms ρ with
    | none => rfl
    | some y => cases y <;> rfl
  unfold EvP at hk ⊢
  rw [e]
  exact hk
theorem evx_top {m : M α} {o : O γ} {v : γ → α} {s : γ → Rho} (h : EvX XK (M.bind m M.ret) ρ o v s) : EvX XK m ρ o v s := by
  refine evx_conv ?_ h
  simp only [v_bind]
  cases m ρ with
  | none => rfl
  | some x => cases x <;> rfl
theorem evx_assoc {m : M α} {k : α → M β} {l : β → M δ} {o : O γ} {v : γ → δ} {s : γ → Rho} (h : EvX XK (M.bind m fun a => M.bind (k a) l) ρ o v s) : EvX XK (M.bind (M.bind m k) l) ρ o v s := by
  refine evx_conv ?_ h
  simp only [v_bind]
  cases m ρ with
  | none => rfl
  | some x => cases x <;> rfl
theorem evx_retB {a : α} {k : α → M β} {o : O γ} {v : γ → β} {s : γ → Rho} (h : EvX XK (k a) ρ o v s) : EvX XK (M.bind (M.ret a) k) ρ o v s := h
theorem evx_liftB {x : Option α} {k : α → M β} {ok : α → O γ} {v : γ → β} {s : γ → Rho} (hx : XK ρ) (h : ∀ a, EvX XK (k a) ρ (ok a) v s) : EvX XK (M.bind (M.lift x) k) ρ ((O.lift x).bind ok) v s := evx_pure (ev_lift x) hx h
theorem evx_iteB {m m' : M α} {k : α → M β} {o o' : O γ} {v : γ → β} {s : γ → Rho} {p : Prop} [Decidable p] (h : EvX XK (M.bind m k) ρ o v s) (h' : EvX XK (M.bind m' k) ρ o' v s) : EvX XK (M.bind (if p then m else m') k) ρ (if p then o else o') v s := by
  split
  · exact h
  · exact h'
theorem evx_partB {d : D} {k : Option Int → M β} {ok : Option Int → O γ} {v : γ → β} {s : γ → Rho} (h : ∀ a, EvX XK (k a) ρ (ok a) v s) : EvX XK (M.bind (match d with | .int i => M.ret (some i) | _ => fun _ => none) k) ρ ((O.partD d).bind ok) v s := by
  cases d <;> first | exact h _ | trivial
theorem evx_starB {d : D} {mr : M (List D)} {k : List D → M β} {ok : List D → O γ} {v : γ → β} {s : γ → Rho} (h : ∀ xs, EvX XK (M.bind (M.bind mr fun ys => M.ret (xs ++ ys)) k) ρ (ok xs) v s) :
    EvX XK (M.bind (match d with | .list xs => mr.bind fun ys => .ret (xs ++ ys) | .tuple xs => mr.bind fun ys => .ret (xs ++ ys) | _ => fun _ => none) k) ρ ((O.lift (O.starD d)).bind ok) v s := by
  cases d <;> first | exact h _ | trivial
theorem evx_callM {F : Fn} {ms : M (List CArg)} {k : D → M β} {o : O γ} {v : γ → β} {s : γ → Rho} (h : EvX XK (M.bind ms fun cs => M.bind (callK F cs) k) ρ o v s) : EvX XK (M.bind (callM F ms) k) ρ o v s := evx_assoc (m := ms) (k := callK F) h
theorem evx_callF {F : Fn} {ms : M (List CArg)} {k : Cell → M β} {o : O γ} {v : γ → β} {s : γ → Rho} (h : EvX XK (M.bind ms fun cs => M.bind (callKF F cs) k) ρ o v s) : EvX XK (M.bind (callF F ms) k) ρ o v s := evx_assoc (m := ms) (k := callKF F) h
theorem evx_lcB {ms : M (List D)} {g : TgM} {mt : M Bool} {me : M D} {vs : List Nat} {k : Cell → M β} {o : O γ} {v : γ → β} {s : γ → Rho} (h : EvX XK (M.bind ms fun ds => M.bind (lcK g mt me vs ds) k) ρ o v s) : EvX XK (M.bind (M.lc ms g mt me vs) k) ρ o v s := evx_assoc (m := ms) (k := lcK g mt me vs) h
end
section
variable {U B P : Type} {Z : Fr P} {sn : U → Rho} {sb : B → Rho} {ρ ρ' : Rho} {y : Y U B P} {m : SS}
theorem r_start (e : ρ = ρ') (h : RelF Z sn sb (m ρ') y) : RelF Z sn sb (m ρ) y := e ▸ h
theorem rel_unp2 {g : TgM} {rest : SS} {k : D → D → Y U B P} (w : D → D) (d : D) (h : ∀ a b, RelF Z sn sb (S.tgK g rest (w (.tuple [a, b])) ρ) (k a b)) : RelF Z sn sb (S.tgK g rest (w d) ρ) (unp2 .bad d k) := unp2_rec (z := Y.bad) (C := fun dd oo => RelF Z sn sb (S.tgK g rest (w dd) ρ) oo) (fun _ => trivial) h d
theorem lct_unp2 {g : TgM} {mt : M Bool} {me : M D} {vs : List Nat} {k : D → D → O (Option D)} (w : D → D) (d : D) (h : ∀ a b, LcT g mt me vs ρ (w (.tuple [a, b])) (k a b)) : LcT g mt me vs ρ (w d) (unp2 .bad d k) := unp2_rec (z := O.bad) (C := fun dd oo => LcT g mt me vs ρ (w dd) oo) (fun _ => trivial) h d
theorem lcx_unp2 {T : Type} {st : T → Rho} {tt : T} {g : TgM} {mt : M Bool} {me : M D} {vs : List Nat} {k : D → D → O (Option D × T)} (w : D → D) (d : D) (h : ∀ a b, LcX g mt me vs st (w (.tuple [a, b])) tt (k a b)) : LcX g mt me vs st (w d) tt (unp2 .bad d k) := unp2_rec (z := O.bad) (C := fun dd oo => LcX g mt me vs st (w dd) tt oo) (fun _ => trivial) h d
theorem rel_unp3 {g : TgM} {rest : SS} {k : D → D → D → Y U B P} (w : D → D) (d : D) (h : ∀ a b c, RelF Z sn sb (S.tgK g rest (w (.tuple [a, b, c])) ρ) (k a b c)) : RelF Z sn sb (S.tgK g rest (w d) ρ) (unp3 .bad d k) := unp3_rec (z := Y.bad) (C := fun dd oo => RelF Z sn sb (S.tgK g rest (w dd) ρ) oo) (fun _ => trivial) h d
theorem lct_unp3 {g : TgM} {mt : M Bool} {me : M D} {vs : List Nat} {k : D → D → D → O (Option D)} (w : D → D) (d : D) (h : ∀ a b c, LcT g mt me vs ρ (w (.tuple [a, b, c])) (k a b c)) : LcT g mt me vs ρ (w d) (unp3 .bad d k) := unp3_rec (z := O.bad) (C := fun dd oo => LcT g mt me vs ρ (w dd) oo) (fun _ => trivial) h d
theorem lcx_unp3 {T : Type} {st : T → Rho} {tt : T} {g : TgM} {mt : M Bool} {me : M D} {vs : List Nat} {k : D → D → D → O (Option D × T)} (w : D → D) (d : D) (h : ∀ a b c, LcX g mt me vs st (w (.tuple [a, b, c])) tt (k a b c)) : LcX g mt me vs st (w d) tt (unp3 .bad d k) := unp3_rec (z := O.bad) (C := fun dd oo => LcX g mt me vs st (w dd) tt oo) (fun _ => trivial) h d
theorem rel_unp4 {g : TgM} {rest : SS} {k : D → D → D → D → Y U B P} (w : D → D) (d : D) (h : ∀ a b c e, RelF Z sn sb (S.tgK g rest (w (.tuple [a, b, c, e])) ρ) (k a b c e)) : RelF Z sn sb (S.tgK g rest (w d) ρ) (unp4 .bad d k) := unp4_rec (z := Y.bad) (C := fun dd oo => RelF Z sn sb (S.tgK g rest (w dd) ρ) oo) (fun _ => trivial) h d
theorem lct_unp4 {g : TgM} {mt : M Bool} {me : M D} {vs : List Nat} {k : D → D → D → D → O (Option D)} (w : D → D) (d : D) (h : ∀ a b c e, LcT g mt me vs ρ (w (.tuple [a, b, c, e])) (k a b c e)) : LcT g mt me vs ρ (w d) (unp4 .bad d k) := unp4_rec (z := O.bad) (C := fun dd oo => LcT g mt me vs ρ (w dd) oo) (fun _ => trivial) h d
theorem lcx_unp4 {T : Type} {st : T → Rho} {tt : T} {g : TgM} {mt : M Bool} {me : M D} {vs : List Nat} {k : D → D → D → D → O (Option D × T)} (w : D → D) (d : D) (h : ∀ a b c e, LcX g mt me vs st (w (.tuple [a, b, c, e])) tt (k a b c e)) : LcX g mt me vs st (w d) tt (unp4 .bad d k) := unp4_rec (z := O.bad) (C := fun dd oo => LcX g mt me vs st (w dd) tt oo) (fun _ => trivial) h d
theorem rel_unp5 {g : TgM} {rest : SS} {k : D → D → D → D → D → Y U B P} (w : D → D) (d : D) (h : ∀ a b c e f, RelF Z sn sb (S.tgK g rest (w (.tuple [a, b, c, e, f])) ρ) (k a b c e f)) : RelF Z sn sb (S.tgK g rest (w d) ρ) (unp5 .bad d k) := unp5_rec (z := Y.bad) (C := fun dd oo => RelF Z sn sb (S.tgK g rest (w dd) ρ) oo) (fun _ => trivial) h d
theorem lct_unp5 {g : TgM} {mt : M Bool} {me : M D} {vs : List Nat} {k : D → D → D → D → D → O (Option D)} (w : D → D) (d : D) (h : ∀ a b c e f, LcT g mt me vs ρ (w (.tuple [a, b, c, e, f])) (k a b c e f)) : LcT g mt me vs ρ (w d) (unp5 .bad d k) := unp5_rec (z := O.bad) (C := fun dd oo => LcT g mt me vs ρ (w dd) oo) (fun _ => trivial) h d
theorem lcx_unp5 {T : Type} {st : T → Rho} {tt : T} {g : TgM} {mt : M Bool} {me : M D} {vs : List Nat} {k : D → D → D → D → D → O (Option D × T)} (w : D → D) (d : D) (h : ∀ a b c e f, LcX g mt me vs st (w (.tuple [a, b, c, e, f])) tt (k a b c e f)) : LcX g mt me vs st (w d) tt (unp5 .bad d k) := unp5_rec (z := O.bad) (C := fun dd oo => LcX g mt me vs st (w dd) tt oo) (fun _ => trivial) h d
end
end DL
namespace DL
open PySem PySem.Spec PyProof.Rows L2

/-! ### loops, comprehensions: as folds -/
section
variable {S B R α β T : Type}
theorem forL_map {f : D → S → Y S S R} {emb : α → D} {st : β → S} {step : β → α → β} : ∀ {xs : List α} {I : List α → β → Prop} {a : β}, (∀ x r a, x ∈ xs → I (x :: r) a → f (emb x) (st a) = .nx (st (step a x)) ∧ I r (step a x)) → I xs a → (Y.forL f (xs.map emb) (st a) : Y S B R) = .nx (st (xs.foldl step a))
  | [], I, a, _, _ => rfl
  | x :: r, I, a, h, h0 => by
    obtain ⟨h1, h2⟩ := h x r a (by simp) h0
    show (match f (emb x) (st a) with | .bad => _ | .exc c => _ | .ret x => _ | .brk s' => _ | .nx s' => _ | .ct s' => _) = _
    rw [h1]
    exact forL_map (I := I) (fun y r' a hy hi => h y r' a (by simp [hy]) hi) h2
/-- .. with no condition -/
theorem forL_all {f : D → S → Y S S R} {emb : α → D} {st : β → S} {step : β → α → β} {xs : List α} (a : β) (h : ∀ x ∈ xs, ∀ a, f (emb x) (st a) = .nx (st (step a x))) : (Y.forL f (xs.map emb) (st a) : Y S B R) = .nx (st (xs.foldl step a)) :=
  forL_map (I := fun _ _ => True) (fun x r a hx _ => ⟨h x hx a, trivial⟩) trivial
/-- .. by what stays true -/
theorem forL_inv {f : D → S → Y S S R} {I : S → Prop} {ds : List D} {s : S} (h : ∀ d ∈ ds, ∀ s, I s → ∃ s', f d s = .nx s' ∧ I s') (h0 : I s) : ∃ s', (Y.forL f ds s : Y S B R) = .nx s' ∧ I s' := by
  induction ds generalizing s with
  | nil => exact ⟨s, rfl, h0⟩
  | cons d r ih =>
    obtain ⟨s1, h1, h2⟩ := h d (by simp) s h0
    obtain ⟨s2, h3, h4⟩ := ih (fun d hd s hs => h d (by simp [hd]) s hs) h2
    refine ⟨s2, ?_, h4⟩
    show (match f d s with | .bad => _ | .exc c => _ | .ret x => _ | .brk s' => _ | .nx s' => _ | .ct s' => _) = _
    rw [h1]
    exact h3
/-- .. by what stays true, of what is left -/
theorem forL_inv' {f : D → S → Y S S R} {I : List D → S → Prop} {ds : List D} {s : S} (h : ∀ d r s, d ∈ ds → I (d :: r) s → ∃ s', f d s = .nx s' ∧ I r s') (h0 : I ds s) : ∃ s', (Y.forL f ds s : Y S B R) = .nx s' ∧ I [] s' := by
  induction ds generalizing s with
  | nil => exact ⟨s, rfl, h0⟩
  | cons d r ih =>
    obtain ⟨s1, h1, h2⟩ := h d r s (by simp) h0
    obtain ⟨s2, h3, h4⟩ := ih (fun d r' s hd hs => h d r' s (by simp [hd]) hs) h2
    refine ⟨s2, ?_, h4⟩
    show (match f d s with | .bad => _ | .exc c => _ | .ret x => _ | .brk s' => _ | .nx s' => _ | .ct s' => _) = _
    rw [h1]
    exact h3
/-- a loop that changes nothing -/
theorem forL_same {f : D → S → Y S S R} {s : S} {ds : List D} (h : ∀ d ∈ ds, f d s = .nx s) : (Y.forL f ds s : Y S B R) = .nx s := by
  obtain ⟨s', h1, rfl⟩ := forL_inv (B := B) (f := f) (ds := ds) (s := s) (I := fun t => t = s) (fun d hd t ht => ⟨s, by rw [ht]; exact h d hd, rfl⟩) rfl
  exact h1
theorem forL_cons {f : D → S → Y S S R} {d : D} {r : List D} {s s' : S} (h : f d s = .nx s') : (Y.forL f (d :: r) s : Y S B R) = Y.forL f r s' := by
  show (match f d s with | .bad => _ | .exc c => _ | .ret x => _ | .brk s' => _ | .nx s' => _ | .ct s' => _) = _
  rw [h]
theorem forL_cons_ret {f : D → S → Y S S R} {d : D} {r : List D} {s : S} {x : R} (h : f d s = .ret x) : (Y.forL f (d :: r) s : Y S B R) = .ret x := by
  show (match f d s with | .bad => _ | .exc c => _ | .ret x => _ | .brk s' => _ | .nx s' => _ | .ct s' => _) = _
  rw [h]
theorem forL_cons_brk {f : D → S → Y S S R} {d : D} {r : List D} {s s' : S} (h : f d s = .brk s') : (Y.forL f (d :: r) s : Y S B R) = .nx s' := by
  show (match f d s with | .bad => _ | .exc c => _ | .ret x => _ | .brk s' => _ | .nx s' => _ | .ct s' => _) = _
  rw [h]
theorem forL_append {f : D → S → Y S S R} {s s' : S} {r : List D} : ∀ {ds : List D} {s : S}, (Y.forL f ds s : Y S S R) = .nx s' → (∀ d ∈ ds, ∀ s t, f d s ≠ .brk t) → (Y.forL f (ds ++ r) s : Y S B R) = Y.forL f r s'
  | [], s, h, _ => by cases h; rfl
  | d :: ds, s, h, hb => by
    show (match f d s with | .bad => _ | .exc c => _ | .ret x => _ | .brk s' => _ | .nx s' => _ | .ct s' => _) = _
    have h : (match f d s with | .bad => _ | .exc c => _ | .ret x => _ | .brk s' => _ | .nx s' => _ | .ct s' => _) = _ := h
    cases e : f d s with
    | bad => rw [e] at h; cases h
    | exc c => rw [e] at h; cases h
    | ret c => rw [e] at h; cases h
    | brk c => exact absurd e (hb d (by simp) s c)
    | nx c => rw [e] at h; exact forL_append (s := s) h fun d hd => hb d (by simp [hd])
    | ct c => rw [e] at h; exact forL_append (s := s) h fun d hd => hb d (by simp [hd])
theorem lcL_map {f : D → O (Option D)} {emb : α → D} {p : α → Bool} {g : α → D} : ∀ {xs : List α} {acc : List D}, (∀ x ∈ xs, f (emb x) = .ok (if p x = true then some (g x) else none)) → acc.length + xs.length ≤ 16777216 → O.lcL f (xs.map emb) acc = .ok (acc ++ (xs.filter p).map g)
  | [], acc, _, _ => by simp [O.lcL]
  | x :: r, acc, h, hl => by
    have h1 := h x (by simp)
    simp only [List.length_cons] at hl
    rw [List.map_cons, O.lcL, h1]
    cases hp : p x with
    | false =>
      simp only [hp, Bool.false_eq_true, if_false]
      rw [lcL_map (fun y hy => h y (by simp [hy])) (by omega)]
      simp [hp]
    | true =>
      have hl2 : acc.length < 16777216 := by omega
      simp only [if_true, hl2]
      rw [lcL_map (fun y hy => h y (by simp [hy])) (by rw [List.length_append]; simp; omega)]
      simp [hp]
theorem lcL_all {f : D → O (Option D)} {emb : α → D} {g : α → D} {xs : List α} (h : ∀ x ∈ xs, f (emb x) = .ok (some (g x))) (hl : xs.length ≤ 16777216) : O.lcL f (xs.map emb) [] = .ok (xs.map g) := by
  rw [lcL_map (p := fun _ => true) (g := g) (fun x hx => by rw [h x hx]; rfl) (by simpa using hl)]
  rw [List.filter_eq_self.mpr (by simp)]
  simp
theorem lcL_nil {f : D → O (Option D)} {ds : List D} (h : ∀ d ∈ ds, f d = .ok none) (hl : ds.length ≤ 16777216) : O.lcL f ds [] = .ok [] := by
  have := lcL_map (f := f) (emb := id) (p := fun _ => false) (g := fun d => d) (xs := ds) (acc := []) (fun x hx => by rw [show f (id x) = _ from h x hx]; rfl) (by simpa using hl)
  rw [List.map_id, List.filter_eq_nil_iff.mpr (by simp)] at this
  simpa using this
theorem geL_map {stop : Bool} {f : D → O (Option D)} {emb : α → D} {p t : α → Bool} : ∀ {xs : List α}, (∀ x ∈ xs, f (emb x) = .ok (if p x = true then some (.bool (t x)) else none)) → O.geL stop f (xs.map emb) = .ok (if (xs.filter p).any (fun x => t x == stop) = true then stop else !stop)
  | [], _ => by simp [O.geL]
  | x :: r, h => by
    have h1 := h x (by simp)
    rw [List.map_cons, O.geL, h1]
    cases hp : p x with
    | false =>
      simp only [hp, Bool.false_eq_true, if_false]
      rw [geL_map fun y hy => h y (by simp [hy])]
      simp [hp]
    | true =>
      simp only [if_true]
      by_cases ht : t x = stop
      · simp [ht, hp]
      · rw [if_neg ht, geL_map fun y hy => h y (by simp [hy])]
        simp [hp, ht]
theorem geL_all {f : D → O (Option D)} {emb : α → D} {t : α → Bool} {xs : List α} (h : ∀ x ∈ xs, f (emb x) = .ok (some (.bool (t x)))) : O.geL false f (xs.map emb) = .ok (xs.all t) := by
  rw [geL_map (p := fun _ => true) (t := t) fun x hx => by rw [h x hx]; rfl]
  congr 1
  rw [List.filter_eq_self.mpr (by simp)]
  induction xs with
  | nil => rfl
  | cons x xs ih =>
    have ih := ih fun y hy => h y (by simp [hy])
    rw [List.any_cons, List.all_cons]
    cases t x <;> simp [ih]
    simpa using ih
theorem geL_any {f : D → O (Option D)} {emb : α → D} {t : α → Bool} {xs : List α} (h : ∀ x ∈ xs, f (emb x) = .ok (some (.bool (t x)))) : O.geL true f (xs.map emb) = .ok (xs.any t) := by
  rw [geL_map (p := fun _ => true) (t := t) fun x hx => by rw [h x hx]; rfl]
  congr 1
  rw [List.filter_eq_self.mpr (by simp)]
  induction xs with
  | nil => rfl
  | cons x xs ih =>
    have ih := ih fun y hy => h y (by simp [hy])
    rw [List.any_cons, List.any_cons]
    cases t x <;> simp [ih]
    simpa using ih
/-- a comprehension that draws -/
theorem lcX_inv {f : D → T → O (Option D × T)} {I : T → Prop} {Q : D → D → Prop} {ds acc : List D} {t : T} (h : ∀ d ∈ ds, ∀ t, I t → ∃ y t', f d t = .ok (some y, t') ∧ Q d y ∧ I t') (h0 : I t) (hl : acc.length + ds.length ≤ 16777216) : ∃ ys t', O.lcX f ds acc t = .ok (acc ++ ys, t') ∧ Paired Q ds ys ∧ I t' := by
  induction ds generalizing acc t with
  | nil => exact ⟨[], t, by simp [O.lcX], .nil, h0⟩
  | cons d r ih =>
    obtain ⟨y, t1, h1, h2, h3⟩ := h d (by simp) t h0
    simp only [List.length_cons] at hl
    have hl2 : acc.length < 16777216 := by omega
    obtain ⟨ys, t2, h4, h5, h6⟩ := ih (acc := acc ++ [y]) (fun d hd => h d (by simp [hd])) h3 (by rw [List.length_append]; simp; omega)
    refine ⟨y :: ys, t2, ?_, .cons h2 h5, h6⟩
    rw [O.lcX, h1]
    simp only [hl2, if_true]
    rw [h4]
    simp
end

/-! ### draws -/
abbrev dI (ns : List Int) : List D := ns.map PyData.int
theorem dI_len (ns : List Int) : (dI ns).length = ns.length := by simp
theorem absD_int (i : Int) : absD (.int i) = some (.int (if i < 0 then -i else i)) := rfl
@[simp] theorem O_app {xs : List D} {d : D} (h : xs.length < 16777216) : O.app xs d = .ok (xs ++ [d]) := by simp [O.app, h]
theorem rangeL_rng (lo hi : Int) : rangeL lo hi = (rngI lo hi).map PyData.int := rangeL_eq lo hi
theorem rng1_int {j : Int} (h : okR j = true) : rng1D [.int j] = some ((rngI 0 j).map PyData.int) := by simp only [rng1D, h, if_true, rangeL_eq]
end DL
namespace DL
open PySem PySem.Spec PyProof.Rows L2
@[simp] theorem isT_i {p : D → Bool} (i : Int) : isT p (.int i) = some (.bool (p (.int i))) := isT_ok rfl
@[simp] theorem isT_b {p : D → Bool} (b : Bool) : isT p (.bool b) = some (.bool (p (.bool b))) := isT_ok rfl
@[simp] theorem isT_n {p : D → Bool} : isT p .none = some (.bool (p .none)) := isT_ok rfl
@[simp] theorem isT_s {p : D → Bool} (s : Str) : isT p (.str s) = some (.bool (p (.str s))) := isT_ok rfl
@[simp] theorem neD_bb (a b : Bool) : neD (.bool a) (.bool b) = some (.bool (!(a == b))) := by cases a <;> cases b <;> rfl
@[simp] theorem eqD_bb (a b : Bool) : eqD (.bool a) (.bool b) = some (.bool (a == b)) := by cases a <;> cases b <;> rfl
@[simp] theorem eqD_ss (a b : Str) : eqD (.str a) (.str b) = some (.bool (a == b)) := by
  have h : ∀ s : Str, okD 60 (.str s) = true := fun _ => rfl
  simp only [eqD, h, and_self, if_true, PyData.eqv]
@[simp] theorem neD_ss (a b : Str) : neD (.str a) (.str b) = some (.bool (!(a == b))) := by
  have h : ∀ s : Str, okD 60 (.str s) = true := fun _ => rfl
  simp only [neD, h, and_self, if_true, PyData.eqv]
@[simp] theorem eqD_nil : eqD (.list []) (.list []) = some (.bool true) := rfl
@[simp] theorem neD_nil : neD (.list []) (.list []) = some (.bool false) := rfl
@[simp] theorem lstF_nil : lstF [] = some (.lst []) := rfl
theorem lstF_ok {xs : List D} (h : xs.length ≤ 16777216) : lstF xs = some (.lst xs) := by simp [lstF, h]
theorem tupD_ok {xs : List D} (h : xs.length ≤ 16777216) : tupD xs = some (.tuple xs) := by simp [tupD, h]
@[simp] theorem isI_i (i : Int) : PyData.isInt (.int i) = true := rfl
@[simp] theorem isI_b (i : Bool) : PyData.isInt (.bool i) = true := rfl
@[simp] theorem isI_n : PyData.isInt .none = false := rfl
@[simp] theorem isI_s (s : Str) : PyData.isInt (.str s) = false := rfl
@[simp] theorem isI_l (s : List D) : PyData.isInt (.list s) = false := rfl
@[simp] theorem isI_t (s : List D) : PyData.isInt (.tuple s) = false := rfl
@[simp] theorem isB_i (i : Int) : PyData.isBool (.int i) = false := rfl
@[simp] theorem isB_b (i : Bool) : PyData.isBool (.bool i) = true := rfl
@[simp] theorem isB_n : PyData.isBool .none = false := rfl
@[simp] theorem isB_s (s : Str) : PyData.isBool (.str s) = false := rfl
@[simp] theorem isB_l (s : List D) : PyData.isBool (.list s) = false := rfl
@[simp] theorem isB_t (s : List D) : PyData.isBool (.tuple s) = false := rfl
@[simp] theorem isS_i (i : Int) : PyData.isStr (.int i) = false := rfl
@[simp] theorem isS_b (i : Bool) : PyData.isStr (.bool i) = false := rfl
@[simp] theorem isS_n : PyData.isStr .none = false := rfl
@[simp] theorem isS_s (s : Str) : PyData.isStr (.str s) = true := rfl
@[simp] theorem isS_l (s : List D) : PyData.isStr (.list s) = false := rfl
@[simp] theorem isS_t (s : List D) : PyData.isStr (.tuple s) = false := rfl
@[simp] theorem isL_i (i : Int) : PyData.isList (.int i) = false := rfl
@[simp] theorem isL_b (i : Bool) : PyData.isList (.bool i) = false := rfl
@[simp] theorem isL_n : PyData.isList .none = false := rfl
@[simp] theorem isL_s (s : Str) : PyData.isList (.str s) = false := rfl
@[simp] theorem isL_l (s : List D) : PyData.isList (.list s) = true := rfl
@[simp] theorem isL_t (s : List D) : PyData.isList (.tuple s) = false := rfl
@[simp] theorem isT_i' (i : Int) : PyData.isTuple (.int i) = false := rfl
@[simp] theorem isT_b' (i : Bool) : PyData.isTuple (.bool i) = false := rfl
@[simp] theorem isT_n' : PyData.isTuple .none = false := rfl
@[simp] theorem isT_s' (s : Str) : PyData.isTuple (.str s) = false := rfl
@[simp] theorem isT_l' (s : List D) : PyData.isTuple (.list s) = false := rfl
@[simp] theorem isT_t' (s : List D) : PyData.isTuple (.tuple s) = true := rfl
@[simp] theorem isD_none (d : D) : isD d .none = some (.bool (isNoneD d)) := rfl
@[simp] theorem isD_bool (d : D) (b : Bool) : isD d (.bool b) = some (.bool (isBoolD b d)) := rfl
@[simp] theorem nisD_none (d : D) : nisD d .none = some (.bool (!isNoneD d)) := rfl
@[simp] theorem nisD_bool (d : D) (b : Bool) : nisD d (.bool b) = some (.bool (!isBoolD b d)) := rfl
@[simp] theorem isN_n : isNoneD .none = true := rfl
@[simp] theorem isN_i (i : Int) : isNoneD (.int i) = false := rfl
@[simp] theorem isN_b (i : Bool) : isNoneD (.bool i) = false := rfl
@[simp] theorem isN_s (i : Str) : isNoneD (.str i) = false := rfl
@[simp] theorem isN_l (i : List D) : isNoneD (.list i) = false := rfl
@[simp] theorem isN_t (i : List D) : isNoneD (.tuple i) = false := rfl
@[simp] theorem isBo_b (a b : Bool) : isBoolD a (.bool b) = (a == b) := by cases a <;> cases b <;> rfl
@[simp] theorem intOf_b (b : Bool) : intOfD (.bool b) = some (.int (if b then 1 else 0)) := rfl
@[simp] theorem minI_i (i j : Int) : minI (.int i) (.int j) = some (.int (min i j)) := by
  show some (PyData.int _) = _
  congr 2
  omega
@[simp] theorem maxI_i (i j : Int) : maxI (.int i) (.int j) = some (.int (max i j)) := by
  show some (PyData.int _) = _
  congr 2
  omega
@[simp] theorem abs_i (i : Int) : absD (.int i) = some (.int (i.natAbs : Int)) := by
  show some (PyData.int _) = _
  congr 2
  omega
@[simp] theorem tupOf_l (xs : List D) : tupOf (.list xs) = some (.tuple xs) := rfl
@[simp] theorem tupOf_t (xs : List D) : tupOf (.tuple xs) = some (.tuple xs) := rfl
@[simp] theorem lstOf_l (xs : List D) : lstOf (.list xs) = some (.lst xs) := rfl
@[simp] theorem lstOf_t (xs : List D) : lstOf (.tuple xs) = some (.lst xs) := rfl
@[simp] theorem revF_l (xs : List D) : revF (.list xs) = some (.lst xs.reverse) := rfl
@[simp] theorem sum_l (ns : List Int) : sumD (.list (ns.map PyData.int)) = some (.int ns.sum) := by simp [sumD, intsOf_map]
@[simp] theorem sum_t (ns : List Int) : sumD (.tuple (ns.map PyData.int)) = some (.int ns.sum) := by simp [sumD, intsOf_map]
theorem ix_lN {xs : List D} {j : Nat} {v : D} (h : xs[j]? = some v) : ixD (.list xs) (.int (j : Int)) = some v := L2.atI_nat h
theorem ix_tN {xs : List D} {j : Nat} {v : D} (h : xs[j]? = some v) : ixD (.tuple xs) (.int (j : Int)) = some v := L2.atI_nat h
@[simp] theorem cellD_l (xs : List D) : cellD (.lst xs) = .list xs := rfl
@[simp] theorem powD_i {i j : Int} (h : 0 ≤ j ∧ j ≤ 1000000 ∧ i.natAbs < 2 ^ 64) : powD (.int i) (.int j) = some (.int (i ^ j.toNat)) := by
  simp [powD, intD, okPow, h]
theorem fdiv_i {i j : Int} (h : 0 < j) (h2 : j < 2 ^ 4000) : fdivD (.int i) (.int j) = some (.int (i / j)) := fdivD_int h (by
  have := log2_le (n := j.natAbs) (k := 4000) (by omega) (by decide)
  omega)
theorem fdiv_s {i j : Int} (h : 0 < j) (h2 : j < 18446744073709551616) : fdivD (.int i) (.int j) = some (.int (i / j)) := fdivD_int h (by
  have := log2_le (n := j.natAbs) (k := 64) (by omega) (by decide)
  omega)
/-- data without dicts, not too deep, as the law's comparison takes it -/
def okA : Nat → D → Bool
  | _, .none => true
  | _, .bool _ => true
  | _, .int _ => true
  | _, .str _ => true
  | n + 1, .list xs => decide (xs.length ≤ 16777216) && xs.all (okA n)
  | n + 1, .tuple xs => decide (xs.length ≤ 16777216) && xs.all (okA n)
  | 0, .list _ => false
  | 0, .tuple _ => false
  | _, .dict _ => false
theorem okA_okD : ∀ {n m : Nat} {d : D}, okA n d = true → n ≤ m → okD m d = true
  | n, m, .none, _, _ => by cases m <;> rfl
  | n, m, .bool _, _, _ => by cases m <;> rfl
  | n, m, .int _, _, _ => by cases m <;> rfl
  | n, m, .str _, _, _ => by cases m <;> rfl
  | n + 1, m + 1, .list xs, h, hm => by
    simp only [okA, okD, Bool.and_eq_true, List.all_eq_true] at h ⊢
    exact fun x hx => okA_okD (h.2 x hx) (by omega)
  | n + 1, m + 1, .tuple xs, h, hm => by
    simp only [okA, okD, Bool.and_eq_true, List.all_eq_true] at h ⊢
    exact fun x hx => okA_okD (h.2 x hx) (by omega)
  | n + 1, 0, _, _, hm => by omega
  | 0, _, .list _, h, _ => by simp [okA] at h
  | 0, _, .tuple _, h, _ => by simp [okA] at h
  | n, _, .dict _, h, _ => by cases n <;> simp [okA] at h
theorem okR_nat {n : Nat} (h : n ≤ 16777216) : okR ((n : Nat) : Int) = true := okR_of (by omega) (by omega)
theorem rng1_nat {n : Nat} (h : n ≤ 16777216) : rng1D [.int (n : Int)] = some ((List.range n).map fun i => PyData.int (i : Nat)) := by
  simp only [rng1D, okR_nat h, if_true, rangeL]
  simp
section
variable {S B R : Type}
theorem whl_iter {c : S → O Bool} {f : S → Y S S R} : ∀ (k : Nat) (st : Nat → S), (∀ i, i < k → c (st i) = .ok true ∧ f (st i) = .nx (st (i + 1))) → c (st k) = .ok false → (Y.whl c f (st 0) : Y S B R) = .nx (st k)
  | 0, st, _, h => by
    rw [Y.whl_unfold, h]
    simp
  | k + 1, st, h, hk => by
    obtain ⟨h1, h2⟩ := h 0 (by omega)
    rw [Y.whl_unfold, h1]
    simp only [Y.of_ok, if_true, h2]
    exact whl_iter k (fun i => st (i + 1)) (fun i hi => h (i + 1) (by omega)) hk
end
theorem whl_then {S S' B R : Type} {c : S → O Bool} {f : S → Y S S R} {s0 : S} {kk : S → Y S' B R} (Q : Y S' B R → Prop) (k : Nat) (st : Nat → S) (h0 : st 0 = s0) (h : ∀ i, i < k → c (st i) = .ok true ∧ f (st i) = .nx (st (i + 1))) (hk : c (st k) = .ok false) (hq : Q (kk (st k))) : Q ((Y.whl c f s0).then' kk) := by
  subst h0
  rw [whl_iter k st h hk]
  exact hq
/-- the first that is not so -/
theorem least_not (p : Nat → Prop) [DecidablePred p] (N : Nat) (h : ¬ p N) : ∃ k, k ≤ N ∧ (∀ i, i < k → p i) ∧ ¬ p k := by
  induction N with
  | zero => exact ⟨0, Nat.le_refl _, fun i hi => by omega, h⟩
  | succ N ih =>
    by_cases hp : p N
    · by_cases ha : ∃ i, i < N ∧ ¬ p i
      · by_cases hx : ∀ i, i < N → p i
        · obtain ⟨i, h1, h2⟩ := ha
          exact absurd (hx i h1) h2
        · -- a smaller one
          have : ∃ k, k ≤ N ∧ (∀ i, i < k → p i) ∧ ¬ p k := by
            obtain ⟨i, h1, h2⟩ := ha
            clear ih hx h hp
            induction i using Nat.strongRecOn with
            | ind i ih =>
              by_cases hq : ∀ j, j < i → p j
              · exact ⟨i, by omega, hq, h2⟩
              · obtain ⟨j, hj⟩ := Classical.not_forall.mp hq
                have hj' : j < i ∧ ¬ p j := by
                  by_cases hji : j < i
                  · exact ⟨hji, fun z => hj fun _ => z⟩
                  · exact absurd (fun z => absurd z hji) hj
                exact ih j hj'.1 (by omega) hj'.2
          obtain ⟨k, h1, h2, h3⟩ := this
          exact ⟨k, by omega, h2, h3⟩
      · have hx : ∀ i, i < N → p i := fun i hi => Classical.byContradiction fun z => ha ⟨i, hi, z⟩
        exact ⟨N + 1, Nat.le_refl _, fun i hi => by
          rcases Nat.lt_or_ge i N with z | z
          · exact hx i z
          · have : i = N := by omega
            subst this
            exact hp, h⟩
    · obtain ⟨k, h1, h2, h3⟩ := ih hp
      exact ⟨k, by omega, h2, h3⟩
theorem lc_e {o : O (List D)} {f : D → O (Option D)} {l r : List D} (h : o = .ok l) (h2 : O.lcL f l [] = .ok r) : O.lc o f = .ok (.lst r) := by
  subst h
  show (O.lcL f l []).bind _ = _
  rw [h2]
  rfl
theorem cell_lc {o : O (List D)} {f : D → O (Option D)} {l r : List D} (h : o = .ok l) (h2 : O.lcL f l [] = .ok r) : O.cell (O.lc o f) = .ok (.list r) := by
  rw [lc_e h h2]
  rfl
theorem un_cell_lc {g : D → Option D} {o : O (List D)} {f : D → O (Option D)} {l r : List D} {v : D} (h : o = .ok l) (h2 : O.lcL f l [] = .ok r) (h3 : g (.list r) = some v) : O.un g (O.cell (O.lc o f)) = .ok v := by
  rw [cell_lc h h2]
  show O.lift (g (.list r)) = _
  rw [h3]
  rfl
theorem items_e (l : List D) : O.items (O.ok (.list l)) = .ok l := rfl
/-! ### step by step through a law -/
section
variable {α S U B R : Type} {e : S → R} {res : O R}
theorem st {o : O α} (a : α) {k : α → Y S B R} (h : o = .ok a) (hk : Y.fin e (k a) = res) : Y.fin e (Y.of o k) = res := by
  subst h
  exact hk
theorem stF {o : O Bool} {A Bq : Y S B R} (h : o = .ok false) (hk : Y.fin e Bq = res) : Y.fin e (Y.of o fun t => if t = true then A else Bq) = res := by
  subst h
  exact hk
theorem stT {o : O Bool} {A Bq : Y S B R} (h : o = .ok true) (hk : Y.fin e A = res) : Y.fin e (Y.of o fun t => if t = true then A else Bq) = res := by
  subst h
  exact hk
theorem stS {y : Y U B R} (s : U) {k : U → Y S B R} (h : y = .nx s) (hk : Y.fin e (k s) = res) : Y.fin e (y.then' k) = res := by
  subst h
  exact hk
theorem stI {f : D → U → Y U U R} {I : List D → U → Prop} {ds : List D} {s : U} {k : U → Y S B R} (h : ∀ d r s, d ∈ ds → I (d :: r) s → ∃ s', f d s = .nx s' ∧ I r s') (h0 : I ds s) (hk : ∀ s', I [] s' → Y.fin e (k s') = res) : Y.fin e ((Y.forL f ds s).then' k) = res := by
  obtain ⟨s', h1, h2⟩ := forL_inv' (B := B) h h0
  rw [h1]
  exact hk s' h2
end
end DL
namespace K87
open PySem PySem.Spec PyProof.Rows L2 DL
noncomputable section

def topS (i : Nat) : Stmt := PySem.Challenge.pw_sawheld_k87_whole_heaps_of_logs.main.body.getD i (.Pass ⟨0, 0, 0, 0⟩)
def k_MOST_LOGS : D := .int 100000
def RS : List Str := ["OutOfRange"]
abbrev s_is_number : Stmt := topS 8
abbrev n_is_number : List Str := ["value", "least", "most"]
theorem sc_is_number : FnScope n_is_number ["value", "least", "most"] (defScope s_is_number) := ⟨rfl, rfl, rfl, by decide +kernel, rfl, by decide +kernel, by decide +kernel⟩
def m_is_number : SS :=
    (S.ret (M.andV (M.un (isT PyData.isInt) (pkM 0)) (M.andV (M.notV (M.un (isT PyData.isBool) (pkM 0))) (M.chain leD leD (varM 1) (varM 0) (varM 2)))))
def F_is_number : Fn := runF 3 3 m_is_number
abbrev s_logs_of : Stmt := topS 11
abbrev n_logs_of : List Str := ["heap", "top", "rows"]
theorem sc_logs_of : FnScope n_logs_of ["heap"] (defScope s_logs_of) := ⟨rfl, rfl, rfl, by decide +kernel, rfl, by decide +kernel, by decide +kernel⟩
def m_logs_of : SS :=
    (S.seq (S.asg (varM 0) (tgT 2 (tgCons (tgN 1) (tgCons (tgN 2) tgNil))))
    (S.ret (M.bin addD (M.bin mulID (varM 2) (pkM 1)) (M.bin fdivD (M.bin mulID (varM 2) (M.bin subD (varM 2) (M.ret (.int 1)))) (M.ret (.int 2))))))
def F_logs_of : Fn := runF 1 3 m_logs_of
abbrev s_is_heap : Stmt := topS 12
abbrev n_is_heap : List Str := ["value", "one"]
theorem sc_is_heap : FnScope n_is_heap ["value"] (defScope s_is_heap) := ⟨rfl, rfl, rfl, by decide +kernel, rfl, by decide +kernel, by decide +kernel⟩
def m_is_heap : SS :=
    (S.seq (S.ife (M.or (M.notB (M.tru (M.un (isT PyData.isTuple) (pkM 0)))) (M.or (M.asB (M.bin neD (M.un lenD (pkM 0)) (M.ret (.int 2)))) (M.notB (M.tru (M.ge false (M.items (varM 0)) (tgN 1) M.yes (callM F_is_number (M.cdat (varM 1) (M.cdat (M.ret (.int 1)) (M.cdat (M.ret k_MOST_LOGS) (M.ret []))))) [1]))))) (S.ret (M.ret (.bool false))) S.nx)
    (S.ret (M.bin leD (callM F_logs_of (M.cdat (varM 0) (M.ret []))) (M.ret k_MOST_LOGS))))
def F_is_heap : Fn := runF 1 2 m_is_heap
abbrev s_check_logs : Stmt := topS 13
abbrev n_check_logs : List Str := ["n"]
theorem sc_check_logs : FnScope n_check_logs ["n"] (defScope s_check_logs) := ⟨rfl, rfl, rfl, by decide +kernel, rfl, by decide +kernel, by decide +kernel⟩
def m_check_logs : SS :=
    (S.ife (M.notB (M.tru (callM F_is_number (M.cdat (varM 0) (M.cdat (M.ret (.int 1)) (M.cdat (M.ret k_MOST_LOGS) (M.ret []))))))) (S.raise "OutOfRange") S.nx)
def F_check_logs : Fn := runF 1 1 m_check_logs
abbrev s_heaps_of : Stmt := topS 14
abbrev n_heaps_of : List Str := ["n", "found", "rows", "rest"]
theorem sc_heaps_of : FnScope n_heaps_of ["n"] (defScope s_heaps_of) := ⟨rfl, rfl, rfl, by decide +kernel, rfl, by decide +kernel, by decide +kernel⟩
def m_heaps_of : SS :=
    (S.seq (S.drop (callM F_check_logs (M.cdat (varM 0) (M.ret []))))
    (S.seq (S.setF (M.lst (M.ret [])) 1)
    (S.seq (S.asg (M.ret (.int 1)) (tgN 2))
    (S.seq (S.seq (S.fgt [3]) (S.seq (S.whl (M.asB (M.bin leD (M.bin mulID (varM 2) (M.bin addD (varM 2) (M.ret (.int 1)))) (M.bin mulID (M.ret (.int 2)) (pkM 0)))) (S.seq (S.seq (S.asg (M.bin subD (varM 0) (M.bin fdivD (M.bin mulID (varM 2) (M.bin subD (varM 2) (M.ret (.int 1)))) (M.ret (.int 2)))) (tgN 3))
    (S.seq (S.ife (M.asB (M.bin eqD (M.bin modD (varM 3) (pkM 2)) (M.ret (.int 0)))) (S.drop (M.app 1 (M.tup (M.cons (M.bin fdivD (varM 3) (pkM 2)) (M.cons (varM 2) (M.ret [])))))) S.nx)
    (S.aug (intD0 fun i j => i + j) 2 (M.ret (.int 1))))) (S.fgt [3]))) (S.fgt [2])))
    (S.ret (M.un tupOf (pkM 1)))))))
def F_heaps_of : Fn := runF 1 4 m_heaps_of
abbrev s_tallest_of : Stmt := topS 15
abbrev n_tallest_of : List Str := ["n"]
theorem sc_tallest_of : FnScope n_tallest_of ["n"] (defScope s_tallest_of) := ⟨rfl, rfl, rfl, by decide +kernel, rfl, by decide +kernel, by decide +kernel⟩
def m_tallest_of : SS :=
    (S.ret (M.bin ixD (callM F_heaps_of (M.cdat (varM 0) (M.ret []))) (M.un negD (M.ret (.int 1)))))
def F_tallest_of : Fn := runF 1 1 m_tallest_of
abbrev s_joined : Stmt := topS 17
abbrev n_joined : List Str := ["upper", "lower"]
theorem sc_joined : FnScope n_joined ["upper", "lower"] (defScope s_joined) := ⟨rfl, rfl, rfl, by decide +kernel, rfl, by decide +kernel, by decide +kernel⟩
def m_joined : SS :=
    (S.seq (S.ife (M.asB (M.bin neD (M.bin addD (M.bin ixD (varM 0) (M.ret (.int 0))) (M.bin ixD (varM 0) (M.ret (.int 1)))) (M.bin ixD (varM 1) (M.ret (.int 0))))) (S.ret (M.ret .none)) S.nx)
    (S.ret (M.tup (M.cons (M.bin ixD (varM 0) (M.ret (.int 0))) (M.cons (M.bin addD (M.bin ixD (varM 0) (M.ret (.int 1))) (M.bin ixD (varM 1) (M.ret (.int 1)))) (M.ret []))))))
def F_joined : Fn := runF 2 2 m_joined
abbrev s_cuts_of : Stmt := topS 18
abbrev n_cuts_of : List Str := ["heap", "top", "rows", "many"]
theorem sc_cuts_of : FnScope n_cuts_of ["heap"] (defScope s_cuts_of) := ⟨rfl, rfl, rfl, by decide +kernel, rfl, by decide +kernel, by decide +kernel⟩
def m_cuts_of : SS :=
    (S.seq (S.asg (varM 0) (tgT 2 (tgCons (tgN 1) (tgCons (tgN 2) tgNil))))
    (S.ret (M.un tupOf (M.cell (M.lc (M.rng2 (M.cons (M.ret (.int 1)) (M.cons (varM 2) (M.ret [])))) (tgN 3) M.yes (M.tup (M.cons (M.tup (M.cons (varM 1) (M.cons (varM 3) (M.ret [])))) (M.cons (M.tup (M.cons (M.bin addD (varM 1) (pkM 3)) (M.cons (M.bin subD (varM 2) (pkM 3)) (M.ret [])))) (M.ret [])))) [3])))))
def F_cuts_of : Fn := runF 1 4 m_cuts_of
abbrev s_heaps_to : Stmt := topS 19
abbrev n_heaps_to : List Str := ["n", "found", "rows"]
theorem sc_heaps_to : FnScope n_heaps_to ["n"] (defScope s_heaps_to) := ⟨rfl, rfl, rfl, by decide +kernel, rfl, by decide +kernel, by decide +kernel⟩
def m_heaps_to : SS :=
    (S.seq (S.ife (M.notB (M.tru (callM F_is_number (M.cdat (varM 0) (M.cdat (M.ret (.int 0)) (M.cdat (M.ret k_MOST_LOGS) (M.ret []))))))) (S.raise "OutOfRange") S.nx)
    (S.seq (S.asg (M.ret (.int 0)) (tgN 1))
    (S.seq (S.asg (M.ret (.int 1)) (tgN 2))
    (S.seq (S.seq (S.whl (M.asB (M.bin leD (M.bin mulID (varM 2) (M.bin addD (varM 2) (M.ret (.int 1)))) (M.bin mulID (M.ret (.int 2)) (pkM 0)))) (S.seq (S.aug (intD0 fun i j => i + j) 1 (M.bin fdivD (M.bin subD (varM 0) (M.bin fdivD (M.bin mulID (varM 2) (M.bin subD (varM 2) (M.ret (.int 1)))) (M.ret (.int 2)))) (pkM 2)))
    (S.aug (intD0 fun i j => i + j) 2 (M.ret (.int 1))))) (S.fgt [2]))
    (S.ret (varM 1))))))
def F_heaps_to : Fn := runF 1 3 m_heaps_to
abbrev s__law_draws : Stmt := topS 21
abbrev n__law_draws : List Str := ["script", "draws", "cell", "number", "first", "k", "seed"]
theorem sc__law_draws : FnScope n__law_draws ["script"] (defScope s__law_draws) := ⟨rfl, rfl, rfl, by decide +kernel, rfl, by decide +kernel, by decide +kernel⟩
def m__law_draws : SS :=
    (S.seq (S.setF (M.lst (M.ret [])) 1)
    (S.seq (S.seq (S.fgt [2, 3, 4, 5]) (S.forS (M.items (varM 0)) (tgN 2) (S.seq (S.seq (S.asg (M.un absD (pkM 2)) (tgN 3))
    (S.seq (S.seq (S.ife (M.asB (M.bin ltD (varM 3) (M.bin powD (M.ret (.int 10)) (M.ret (.int 18))))) (S.seq (S.asg (M.bin modD (M.un intOfD (M.bin addD (M.bin mulID (varM 3) (M.ret (.int 48271))) (M.ret (.int 11)))) (M.ret (.int 2147483647))) (tgN 4))
    (S.seq (S.drop (M.app 1 (M.bin modD (M.un intOfD (M.bin addD (M.bin mulID (varM 4) (M.ret (.int 69621))) (pkM 3))) (M.ret (.int 2147483629)))))
    (S.seq (S.drop (M.app 1 (M.bin modD (M.un intOfD (M.bin addD (varM 4) (M.bin fdivD (varM 3) (M.ret (.int 7))))) (M.ret (.int 1000003)))))
    (S.asg (M.ret (.int 0)) (tgN 3))))) S.nx) (S.fgt [4]))
    (S.seq (S.fgt [5]) (S.seq (S.forS (M.rng1 (M.cons (M.ret (.int 60)) (M.ret []))) (tgN 5) (S.seq (S.ife (M.asB (M.bin gtD (varM 3) (M.ret (.int 0)))) (S.seq (S.drop (M.app 1 (M.bin modD (M.un intOfD (pkM 3)) (M.ret (.int 997)))))
    (S.asg (M.bin fdivD (varM 3) (M.ret (.int 997))) (tgN 3))) S.nx) (S.fgt [5]))) (S.fgt [3]))))) (S.fgt [2, 3, 4, 5]))))
    (S.seq (S.asg (M.ret (.int 1)) (tgN 6))
    (S.seq (S.ife (M.asB (M.bin gtD (M.un lenD (pkM 0)) (M.ret (.int 0)))) (S.asg (M.bin addD (M.ret (.int 1)) (M.un absD (M.bin ixD (varM 0) (M.ret (.int 0))))) (tgN 6)) S.nx)
    (S.seq (S.seq (S.fgt [5]) (S.seq (S.forS (M.rng1 (M.cons (M.ret (.int 900)) (M.ret []))) (tgN 5) (S.seq (S.seq (S.asg (M.bin modD (M.un intOfD (M.bin addD (M.bin mulID (varM 6) (M.ret (.int 48271))) (M.ret (.int 69621)))) (M.ret (.int 2147483647))) (tgN 6))
    (S.drop (M.app 1 (M.bin fdivD (varM 6) (M.ret (.int 5)))))) (S.fgt [5]))) (S.fgt [6])))
    (S.retF (M.unF revF (pkM 1))))))))
def F__law_draws : Fn := runF 1 7 m__law_draws
abbrev s__law_take : Stmt := topS 22
abbrev n__law_take : List Str := ["draws", "bound"]
theorem sc__law_take : FnScope n__law_take ["draws", "bound"] (defScope s__law_take) := ⟨rfl, rfl, rfl, by decide +kernel, rfl, by decide +kernel, by decide +kernel⟩
def m__law_take : SS :=
    (S.seq (S.ife (M.asB (M.bin eqD (M.un lenD (pkM 0)) (M.ret (.int 0)))) (S.ret (M.ret (.int 0))) S.nx)
    (S.ret (M.bin modD (M.un intOfD (M.pop 0)) (pkM 1))))
def F__law_take : Fn := runF 2 2 m__law_take
abbrev s__law_alike : Stmt := topS 23
abbrev n__law_alike : List Str := ["found", "due", "k"]
theorem sc__law_alike : FnScope n__law_alike ["found", "due"] (defScope s__law_alike) := ⟨rfl, rfl, rfl, by decide +kernel, rfl, by decide +kernel, by decide +kernel⟩
def m__law_alike (R : Fn) : SS :=
    (S.seq (S.ife (M.or (M.tru (M.un (isT PyData.isList) (pkM 1))) (M.tru (M.un (isT PyData.isTuple) (pkM 1)))) (S.seq (S.ife (M.or (M.asB (M.bin neD (M.un (isT PyData.isList) (pkM 0)) (M.un (isT PyData.isList) (pkM 1)))) (M.asB (M.bin neD (M.un (isT PyData.isTuple) (pkM 0)) (M.un (isT PyData.isTuple) (pkM 1))))) (S.ret (M.ret (.bool false))) S.nx)
    (S.ret (M.andV (M.bin eqD (M.un lenD (pkM 0)) (M.un lenD (pkM 1))) (M.bin eqD (M.cell (M.lc (M.rng1 (M.cons (M.un lenD (pkM 1)) (M.ret []))) (tgN 2) (M.notB (M.tru (callM R (M.cdat (M.bin ixD (varM 0) (pkM 2)) (M.cdat (M.bin ixD (varM 1) (pkM 2)) (M.ret [])))))) (varM 2) [2])) (M.cell (M.lst (M.ret []))))))) S.nx)
    (S.seq (S.ife (M.asB (M.bin isD (varM 1) (M.ret .none))) (S.ret (M.bin isD (varM 0) (M.ret .none))) S.nx)
    (S.seq (S.ife (M.or (M.tru (M.un (isT PyData.isBool) (pkM 1))) (M.tru (M.un (isT PyData.isBool) (pkM 0)))) (S.ret (M.andV (M.un (isT PyData.isBool) (pkM 0)) (M.andV (M.un (isT PyData.isBool) (pkM 1)) (M.bin eqD (varM 0) (pkM 1))))) S.nx)
    (S.seq (S.ife (M.tru (M.un (isT PyData.isInt) (pkM 1))) (S.ret (M.andV (M.un (isT PyData.isInt) (pkM 0)) (M.bin eqD (varM 0) (pkM 1)))) S.nx)
    (S.ret (M.andV (M.un (isT PyData.isStr) (pkM 0)) (M.bin eqD (varM 0) (pkM 1))))))))
def F__law_alike : Fn := recF 2 3 m__law_alike 8
abbrev s__law_says : Stmt := topS 24
abbrev n__law_says : List Str := ["told", "due"]
theorem sc__law_says : FnScope n__law_says ["told", "due"] (defScope s__law_says) := ⟨rfl, rfl, rfl, by decide +kernel, rfl, by decide +kernel, by decide +kernel⟩
def m__law_says : SS :=
    (S.ret (M.andV (M.un (isT PyData.isBool) (pkM 0)) (M.bin eqD (varM 0) (pkM 1))))
def F__law_says : Fn := runF 2 2 m__law_says
abbrev s__law_word : Stmt := topS 25
abbrev n__law_word : List Str := ["e", "kinds", "one"]
theorem sc__law_word : FnScope n__law_word ["e"] (defScope s__law_word) := ⟨rfl, rfl, rfl, by decide +kernel, rfl, by decide +kernel, by decide +kernel⟩
def m__law_word : SS :=
    (S.seq (S.asg (M.cell (M.lst (M.cons (M.isE 0 "OutOfRange") (M.cons (M.isE 0 "Malformed") (M.cons (M.isE 0 "NotThere") (M.cons (M.isE 0 "Refused") (M.cons (M.isE 0 "TooMuch") (M.ret [])))))))) (tgN 1))
    (S.seq (S.ife (M.asB (M.bin neD (M.un lenD (M.cell (M.lc (M.itemsL (varM 1)) (tgN 2) (M.tru (pkM 2)) (varM 2) [2]))) (M.ret (.int 1)))) (S.ret (M.ret (.str "many"))) S.nx)
    (S.ret (M.bin ixD (M.cell (M.lst (M.cons (M.ret (.str "range")) (M.cons (M.ret (.str "form")) (M.cons (M.ret (.str "none")) (M.cons (M.ret (.str "refused")) (M.cons (M.ret (.str "much")) (M.ret [])))))))) (M.idx (varM 1) (M.ret (.bool true)))))))
def W__law_word : Str → Option Str := runW RS 3 m__law_word
abbrev s__law_told : Stmt := topS 26
abbrev n__law_told : List Str := ["which", "n", "e"]
theorem sc__law_told : FnScope n__law_told ["which", "n"] (defScope s__law_told) := ⟨rfl, rfl, rfl, by decide +kernel, rfl, by decide +kernel, by decide +kernel⟩
def m__law_told : SS :=
    (S.tryW RS W__law_word 2 (S.seq (S.ife (M.asB (M.bin eqD (varM 0) (M.ret (.int 0)))) (S.ret (callM F_heaps_of (M.cdat (varM 1) (M.ret [])))) S.nx)
    (S.ret (M.ife (M.asB (M.bin eqD (varM 0) (M.ret (.int 1)))) (callM F_tallest_of (M.cdat (varM 1) (M.ret []))) (callM F_heaps_to (M.cdat (varM 1) (M.ret [])))))))
def F__law_told : Fn := runF 2 3 m__law_told
abbrev s__law_logs : Stmt := topS 27
abbrev n__law_logs : List Str := ["top", "rows", "row"]
theorem sc__law_logs : FnScope n__law_logs ["top", "rows"] (defScope s__law_logs) := ⟨rfl, rfl, rfl, by decide +kernel, rfl, by decide +kernel, by decide +kernel⟩
def m__law_logs : SS :=
    (S.ret (M.un sumD (M.cell (M.lc (M.rng1 (M.cons (varM 1) (M.ret []))) (tgN 2) M.yes (M.bin addD (varM 0) (pkM 2)) [2]))))
def F__law_logs : Fn := runF 2 3 m__law_logs
abbrev s__law_heaps : Stmt := topS 28
abbrev n__law_heaps : List Str := ["n", "found", "steps", "rows"]
theorem sc__law_heaps : FnScope n__law_heaps ["n"] (defScope s__law_heaps) := ⟨rfl, rfl, rfl, by decide +kernel, rfl, by decide +kernel, by decide +kernel⟩
def m__law_heaps : SS :=
    (S.seq (S.setF (M.lst (M.ret [])) 1)
    (S.seq (S.asg (M.tup (M.cons (M.ret (.int 0)) (M.cons (M.ret (.int 1)) (M.ret [])))) (tgT 2 (tgCons (tgN 2) (tgCons (tgN 3) tgNil))))
    (S.seq (S.seq (S.whl (M.asB (M.bin geD (M.bin subD (varM 0) (pkM 2)) (pkM 3))) (S.seq (S.ife (M.asB (M.bin eqD (M.bin mulID (M.bin fdivD (M.bin subD (varM 0) (pkM 2)) (pkM 3)) (pkM 3)) (M.bin subD (varM 0) (pkM 2)))) (S.drop (M.app 1 (M.tup (M.cons (M.bin fdivD (M.bin subD (varM 0) (pkM 2)) (pkM 3)) (M.cons (varM 3) (M.ret [])))))) S.nx)
    (S.seq (S.asg (M.bin addD (varM 2) (pkM 3)) (tgN 2))
    (S.asg (M.bin addD (varM 3) (M.ret (.int 1))) (tgN 3))))) (S.fgt [2, 3]))
    (S.ret (M.un tupOf (pkM 1))))))
def F__law_heaps : Fn := runF 1 4 m__law_heaps
abbrev s__law_odds : Stmt := topS 29
abbrev n__law_odds : List Str := ["n", "found", "part"]
theorem sc__law_odds : FnScope n__law_odds ["n"] (defScope s__law_odds) := ⟨rfl, rfl, rfl, by decide +kernel, rfl, by decide +kernel, by decide +kernel⟩
def m__law_odds : SS :=
    (S.seq (S.whl (M.asB (M.bin eqD (M.bin mulID (M.bin fdivD (varM 0) (M.ret (.int 2))) (M.ret (.int 2))) (pkM 0))) (S.asg (M.bin fdivD (varM 0) (M.ret (.int 2))) (tgN 0)))
    (S.seq (S.setF M.dct0 1)
    (S.seq (S.asg (M.ret (.int 1)) (tgN 2))
    (S.seq (S.seq (S.whl (M.asB (M.bin leD (M.bin mulID (varM 2) (pkM 2)) (pkM 0))) (S.seq (S.ife (M.asB (M.bin eqD (M.bin mulID (M.bin fdivD (varM 0) (pkM 2)) (pkM 2)) (pkM 0))) (S.seq (S.putIx 1 (varM 2) (M.ret (.bool true)))
    (S.putIx 1 (M.bin fdivD (varM 0) (pkM 2)) (M.ret (.bool true)))) S.nx)
    (S.asg (M.bin addD (varM 2) (M.ret (.int 2))) (tgN 2)))) (S.fgt [2]))
    (S.ret (M.un lenD (pkM 1)))))))
def F__law_odds : Fn := runF 1 3 m__law_odds
abbrev s_law : Stmt := topS 30
abbrev n_law : List Str := ["script", "draws", "turn", "n", "due", "rows", "top", "middle", "cuts", "upper", "lower", "one", "other", "both", "few", "far", "odd", "k", "which", "bad", "value"]
theorem sc_law : FnScope n_law ["script"] (defScope s_law) := ⟨rfl, rfl, rfl, by decide +kernel, rfl, by decide +kernel, by decide +kernel⟩
def m_law : SS :=
    (S.seq (S.setF (callF F__law_draws (M.cdat (varM 0) (M.ret []))) 1)
    (S.seq (S.seq (S.fgt [2, 3, 4, 5, 6, 7]) (S.forS (M.rng1 (M.cons (M.ret (.int 5)) (M.ret []))) (tgN 2) (S.seq (S.seq (S.asg (M.bin addD (M.ret (.int 1)) (callM F__law_take (M.cslot 1 (M.cdat (M.bin ixD (M.cell (M.lst (M.cons (M.ret (.int 30)) (M.cons (M.ret (.int 1000)) (M.cons (M.ret (.int 100000)) (M.ret [])))))) (callM F__law_take (M.cslot 1 (M.cdat (M.ret (.int 3)) (M.ret []))))) (M.ret []))))) (tgN 3))
    (S.seq (S.ife (M.asB (M.bin eqD (varM 2) (M.ret (.int 0)))) (S.asg (M.bin shlD (M.ret (.int 1)) (callM F__law_take (M.cslot 1 (M.cdat (M.ret (.int 17)) (M.ret []))))) (tgN 3)) (S.ife (M.asB (M.bin eqD (varM 2) (M.ret (.int 1)))) (S.asg (M.bin mulID (M.bin ixD (M.cell (M.lst (M.cons (M.ret (.int 3)) (M.cons (M.ret (.int 5)) (M.cons (M.ret (.int 9)) (M.cons (M.ret (.int 15)) (M.cons (M.ret (.int 45)) (M.cons (M.ret (.int 105)) (M.cons (M.ret (.int 315)) (M.cons (M.ret (.int 945)) (M.ret []))))))))))) (callM F__law_take (M.cslot 1 (M.cdat (M.ret (.int 8)) (M.ret []))))) (M.bin addD (M.ret (.int 1)) (callM F__law_take (M.cslot 1 (M.cdat (M.ret (.int 100)) (M.ret [])))))) (tgN 3)) S.nx))
    (S.seq (S.asg (callM F__law_heaps (M.cdat (varM 3) (M.ret []))) (tgN 4))
    (S.seq (S.ife (M.or (M.notB (M.tru (callM F__law_alike (M.cdat (M.cell (M.lst (M.cons (callM F__law_told (M.cdat (M.ret (.int 0)) (M.cdat (varM 3) (M.ret [])))) (M.cons (callM F__law_told (M.cdat (M.ret (.int 1)) (M.cdat (varM 3) (M.ret [])))) (M.ret []))))) (M.cdat (M.cell (M.lst (M.cons (varM 4) (M.cons (M.bin ixD (varM 4) (M.un negD (M.ret (.int 1)))) (M.ret []))))) (M.ret [])))))) (M.or (M.asB (M.bin neD (M.un lenD (pkM 4)) (callM F__law_odds (M.cdat (varM 3) (M.ret []))))) (M.asB (M.bin neD (M.bin ixD (varM 4) (M.ret (.int 0))) (M.tup (M.cons (varM 3) (M.cons (M.ret (.int 1)) (M.ret [])))))))) (S.ret (M.ret (.bool false))) S.nx)
    (S.seq (S.asg (M.bin ixD (M.bin ixD (varM 4) (M.un negD (M.ret (.int 1)))) (M.ret (.int 1))) (tgN 5))
    (S.seq (S.ife (M.asB (M.bin gtD (M.bin mulID (varM 5) (M.bin addD (varM 5) (M.ret (.int 1)))) (M.bin mulID (M.ret (.int 2)) (pkM 3)))) (S.ret (M.ret (.bool false))) S.nx)
    (S.seq (S.fgt [5, 6, 7]) (S.forS (M.items (M.sl (varM 4) (M.ret none) (M.part (M.ret (.int 6))))) (tgT 2 (tgCons (tgN 6) (tgCons (tgN 5) tgNil))) (S.seq (S.seq (S.ife (M.or (M.notB (M.tru (callM F__law_says (M.cdat (callM F_is_heap (M.cdat (M.tup (M.cons (varM 6) (M.cons (varM 5) (M.ret [])))) (M.ret []))) (M.cdat (M.ret (.bool true)) (M.ret [])))))) (M.notB (M.tru (callM F__law_alike (M.cdat (callM F_logs_of (M.cdat (M.tup (M.cons (varM 6) (M.cons (varM 5) (M.ret [])))) (M.ret []))) (M.cdat (varM 3) (M.ret []))))))) (S.ret (M.ret (.bool false))) S.nx)
    (S.seq (S.asg (M.cell (M.lst (M.cons (M.bin addD (varM 6) (M.bin fdivD (M.bin subD (varM 5) (M.ret (.int 1))) (M.ret (.int 2)))) (M.cons (M.bin addD (varM 6) (M.bin fdivD (varM 5) (M.ret (.int 2)))) (M.ret []))))) (tgN 7))
    (S.seq (S.ife (M.or (M.and (M.asB (M.bin ltD (M.bin mulID (M.bin fdivD (varM 5) (M.ret (.int 2))) (M.ret (.int 2))) (pkM 5))) (M.asB (M.bin neD (M.bin mulID (varM 5) (M.bin ixD (varM 7) (M.ret (.int 0)))) (pkM 3)))) (M.and (M.asB (M.bin eqD (M.bin mulID (M.bin fdivD (varM 5) (M.ret (.int 2))) (M.ret (.int 2))) (pkM 5))) (M.asB (M.bin neD (M.bin mulID (M.bin fdivD (varM 5) (M.ret (.int 2))) (M.un sumD (pkM 7))) (pkM 3))))) (S.ret (M.ret (.bool false))) S.nx)
    (S.ife (M.and (M.asB (M.bin leD (M.bin addD (varM 3) (pkM 5)) (M.ret (.int 100000)))) (M.asB (M.bin ninD (M.tup (M.cons (M.bin addD (varM 6) (M.ret (.int 1))) (M.cons (varM 5) (M.ret [])))) (callM F_heaps_of (M.cdat (M.bin addD (varM 3) (pkM 5)) (M.ret [])))))) (S.ret (M.ret (.bool false))) S.nx)))) (S.fgt [5, 6, 7])))))))))) (S.fgt [2, 3, 4, 5, 6, 7]))))
    (S.seq (S.asg (M.tup (M.cons (M.bin addD (M.ret (.int 1)) (callM F__law_take (M.cslot 1 (M.cdat (M.ret (.int 40)) (M.ret []))))) (M.cons (M.bin addD (M.ret (.int 1)) (callM F__law_take (M.cslot 1 (M.cdat (M.ret (.int 30)) (M.ret []))))) (M.ret [])))) (tgT 2 (tgCons (tgN 6) (tgCons (tgN 5) tgNil))))
    (S.seq (S.asg (callM F_cuts_of (M.cdat (M.tup (M.cons (varM 6) (M.cons (varM 5) (M.ret [])))) (M.ret []))) (tgN 8))
    (S.seq (S.seq (S.setF (M.lc (M.rng2 (M.cons (M.ret (.int 1)) (M.cons (varM 5) (M.ret [])))) (tgN 17) M.yes (M.tup (M.cons (M.tup (M.cons (varM 6) (M.cons (varM 17) (M.ret [])))) (M.cons (M.tup (M.cons (M.bin addD (varM 6) (pkM 17)) (M.cons (M.bin subD (varM 5) (pkM 17)) (M.ret [])))) (M.ret [])))) [17]) 4) (S.frz 4))
    (S.seq (S.ife (M.or (M.notB (M.tru (callM F__law_alike (M.cdat (varM 8) (M.cdat (M.un tupOf (pkM 4)) (M.ret [])))))) (M.notB (M.tru (callM F__law_alike (M.cdat (callM F_logs_of (M.cdat (M.tup (M.cons (varM 6) (M.cons (varM 5) (M.ret [])))) (M.ret []))) (M.cdat (callM F__law_logs (M.cdat (varM 6) (M.cdat (varM 5) (M.ret [])))) (M.ret []))))))) (S.ret (M.ret (.bool false))) S.nx)
    (S.seq (S.seq (S.fgt [9, 10]) (S.forS (M.items (varM 4)) (tgT 2 (tgCons (tgN 9) (tgCons (tgN 10) tgNil))) (S.seq (S.ife (M.or (M.notB (M.tru (callM F__law_alike (M.cdat (callM F_joined (M.cdat (varM 9) (M.cdat (varM 10) (M.ret [])))) (M.cdat (M.tup (M.cons (varM 6) (M.cons (varM 5) (M.ret [])))) (M.ret [])))))) (M.asB (M.bin neD (M.bin addD (callM F_logs_of (M.cdat (varM 9) (M.ret []))) (callM F_logs_of (M.cdat (varM 10) (M.ret [])))) (callM F_logs_of (M.cdat (M.tup (M.cons (varM 6) (M.cons (varM 5) (M.ret [])))) (M.ret [])))))) (S.ret (M.ret (.bool false))) S.nx) (S.fgt [9, 10]))))
    (S.seq (S.seq (S.fgt [2, 11, 12, 13]) (S.forS (M.rng1 (M.cons (M.ret (.int 4)) (M.ret []))) (tgN 2) (S.seq (S.seq (S.par 11 12 (M.tup (M.cons (M.bin addD (M.ret (.int 1)) (callM F__law_take (M.cslot 1 (M.cdat (M.ret (.int 6)) (M.ret []))))) (M.cons (M.bin addD (M.ret (.int 1)) (callM F__law_take (M.cslot 1 (M.cdat (M.ret (.int 4)) (M.ret []))))) (M.ret [])))) (M.tup (M.cons (M.bin addD (M.ret (.int 1)) (callM F__law_take (M.cslot 1 (M.cdat (M.ret (.int 8)) (M.ret []))))) (M.cons (M.bin addD (M.ret (.int 1)) (callM F__law_take (M.cslot 1 (M.cdat (M.ret (.int 4)) (M.ret []))))) (M.ret [])))))
    (S.seq (S.asg (M.ife (M.asB (M.bin eqD (M.bin addD (M.bin ixD (varM 11) (M.ret (.int 0))) (M.bin ixD (varM 11) (M.ret (.int 1)))) (M.bin ixD (varM 12) (M.ret (.int 0))))) (M.tup (M.cons (M.bin ixD (varM 11) (M.ret (.int 0))) (M.cons (M.bin addD (M.bin ixD (varM 11) (M.ret (.int 1))) (M.bin ixD (varM 12) (M.ret (.int 1)))) (M.ret [])))) (M.ret .none)) (tgN 13))
    (S.ife (M.notB (M.tru (callM F__law_alike (M.cdat (callM F_joined (M.cdat (varM 11) (M.cdat (varM 12) (M.ret [])))) (M.cdat (varM 13) (M.ret [])))))) (S.ret (M.ret (.bool false))) S.nx))) (S.fgt [2, 11, 12, 13]))))
    (S.seq (S.asg (callM F__law_take (M.cslot 1 (M.cdat (M.ret (.int 60)) (M.ret [])))) (tgN 14))
    (S.seq (S.ife (M.notB (M.tru (callM F__law_alike (M.cdat (callM F__law_told (M.cdat (M.ret (.int 2)) (M.cdat (varM 14) (M.ret [])))) (M.cdat (M.un sumD (M.cell (M.lc (M.rng2 (M.cons (M.ret (.int 1)) (M.cons (M.bin addD (varM 14) (M.ret (.int 1))) (M.ret [])))) (tgN 3) M.yes (M.un lenD (callM F__law_heaps (M.cdat (varM 3) (M.ret [])))) [3]))) (M.ret [])))))) (S.ret (M.ret (.bool false))) S.nx)
    (S.seq (S.asg (callM F__law_take (M.cslot 1 (M.cdat (M.bin ixD (M.cell (M.lst (M.cons (M.ret (.int 1000)) (M.cons (M.ret (.int 100001)) (M.ret []))))) (callM F__law_take (M.cslot 1 (M.cdat (M.ret (.int 2)) (M.ret []))))) (M.ret [])))) (tgN 15))
    (S.seq (S.ife (M.and (M.asB (M.bin ltD (varM 15) (M.ret (.int 3000)))) (M.asB (M.bin neD (callM F__law_told (M.cdat (M.ret (.int 2)) (M.cdat (varM 15) (M.ret [])))) (M.un sumD (M.cell (M.lc (M.rng3 (M.cons (M.ret (.int 1)) (M.cons (M.bin addD (varM 15) (M.ret (.int 1))) (M.cons (M.ret (.int 2)) (M.ret []))))) (tgN 16) M.yes (M.bin fdivD (varM 15) (pkM 16)) [16])))))) (S.ret (M.ret (.bool false))) S.nx)
    (S.seq (S.ife (M.and (M.asB (M.bin geD (varM 15) (M.ret (.int 3000)))) (M.asB (M.bin neD (M.bin subD (callM F__law_told (M.cdat (M.ret (.int 2)) (M.cdat (varM 15) (M.ret [])))) (callM F__law_told (M.cdat (M.ret (.int 2)) (M.cdat (M.bin subD (varM 15) (M.ret (.int 1))) (M.ret []))))) (callM F__law_odds (M.cdat (varM 15) (M.ret [])))))) (S.ret (M.ret (.bool false))) S.nx)
    (S.seq (S.ife (M.or (M.asB (M.bin neD (M.cell (M.lc (M.items (M.cell (M.lst (M.cons (M.tup (M.cons (M.ret (.int 0)) (M.cons (M.ret (.int 0)) (M.ret [])))) (M.cons (M.tup (M.cons (M.ret (.int 0)) (M.cons (M.ret (.int 100001)) (M.ret [])))) (M.cons (M.tup (M.cons (M.ret (.int 1)) (M.cons (M.ret (.int 0)) (M.ret [])))) (M.cons (M.tup (M.cons (M.ret (.int 1)) (M.cons (M.ret (.int 100001)) (M.ret [])))) (M.cons (M.tup (M.cons (M.ret (.int 2)) (M.cons (M.un negD (M.ret (.int 1))) (M.ret [])))) (M.cons (M.tup (M.cons (M.ret (.int 2)) (M.cons (M.ret (.int 100001)) (M.ret [])))) (M.ret [])))))))))) (tgT 2 (tgCons (tgN 18) (tgCons (tgN 19) tgNil))) M.yes (callM F__law_told (M.cdat (varM 18) (M.cdat (varM 19) (M.ret [])))) [18, 19])) (M.cell (M.binF mulF (M.cell (M.lst (M.cons (M.ret (.str "range")) (M.ret [])))) (M.ret (.int 6)))))) (M.asB (M.bin neD (callM F_heaps_to (M.cdat (M.ret (.int 0)) (M.ret []))) (M.ret (.int 0))))) (S.ret (M.ret (.bool false))) S.nx)
    (S.seq (S.asg (M.cell (M.lst (M.cons (M.ret .none) (M.cons (M.cell (M.lst (M.cons (M.ret (.int 1)) (M.cons (M.ret (.int 2)) (M.ret []))))) (M.cons (M.tup (M.cons (M.ret (.int 1)) (M.ret []))) (M.cons (M.tup (M.cons (M.ret (.int 0)) (M.cons (M.ret (.int 1)) (M.ret [])))) (M.cons (M.tup (M.cons (M.ret (.int 1)) (M.cons (M.ret (.int 0)) (M.ret [])))) (M.cons (M.tup (M.cons (M.ret (.int 100001)) (M.cons (M.ret (.int 1)) (M.ret [])))) (M.cons (M.tup (M.cons (M.ret (.int 1)) (M.cons (M.ret (.int 447)) (M.ret [])))) (M.cons (M.tup (M.cons (M.ret (.bool true)) (M.cons (M.ret (.int 1)) (M.ret [])))) (M.cons (M.tup (M.cons (M.ret (.int 1)) (M.cons (M.ret .none) (M.ret [])))) (M.cons (M.tup (M.cons (M.ret (.int 1)) (M.cons (M.ret (.int 2)) (M.cons (M.ret (.int 3)) (M.ret []))))) (M.ret []))))))))))))) (tgN 16))
    (S.ret (M.andV (M.bin isD (callM F_is_heap (M.cdat (M.tup (M.cons (M.ret (.int 1)) (M.cons (M.ret (.int 446)) (M.ret [])))) (M.ret []))) (M.ret (.bool true))) (M.bin eqD (M.cell (M.lc (M.items (varM 16)) (tgN 20) (M.notB (M.tru (callM F__law_says (M.cdat (callM F_is_heap (M.cdat (varM 20) (M.ret []))) (M.cdat (M.ret (.bool false)) (M.ret [])))))) (varM 20) [20])) (M.cell (M.lst (M.ret [])))))))))))))))))))))
def F_law : Fn := runF 1 21 m_law
section
variable {P : Program} {w : World} {K : PySem.W.Frag} {mg : Str → Option Value} {base : Heap} {T : Addr → Prop}
theorem ok_is_number {f : Addr} {fd : FuncData} (F : L2.Fun K "is_number" "is_number" s_is_number f fd) (z_isinstance : mg "isinstance" = none) (z_bool : mg "bool" = none) (z_int : mg "int" = none) : FnOk P w K mg base (L2N.CX P w) 1 f fd ["value", "least", "most"] (spF K mg T F_is_number) := by
  have nd := (sc_is_number).nd
  exact fn_body F sc_is_number fun cdv A outer s H E gA gH gi gq hr => by
    exact (dss_one (ds_ret (de_and (de_isa isa_int (dpk 0) z_isinstance z_int) (de_and (de_not (de_isa isa_bool (dpk 0) z_isinstance z_bool)) (de_one (de_chain (op_leR (units64 hr)) (op_leR (units64 hr)) od_r od_r (dv 1) (dv 0) (dv 2)))))))
theorem ok_logs_of {f : Addr} {fd : FuncData} (F : L2.Fun K "logs_of" "logs_of" s_logs_of f fd) : FnOk P w K mg base (L2N.CX P w) 1 f fd ["heap"] (spF K mg T F_logs_of) := by
  have nd := (sc_logs_of).nd
  exact fn_body F sc_logs_of fun cdv A outer s H E gA gH gi gq hr => by
    exact (dss_cons (ds_asg (dv 0) (dg_tup rfl (dgs_cons (dg_name 1 nd) (dgs_cons (dg_name 2 nd) dgs_nil))))
    (dss_one (ds_ret (de_add (de_mul (dv 2) (dpk 1)) (dk (de_fdiv (de_mul (dv 2) (dk (de_sub (dv 2) (dk de_int)))) (dk de_int)))))))
theorem ok_is_heap {f c q : Addr} {fd : FuncData} (F : L2.Fun K "is_heap" "is_heap" s_is_heap f fd) (d_logs_of : Def P w K mg base T 1 "logs_of" F_logs_of) (d_is_number : Def P w K mg base T 1 "is_number" F_is_number) (z_all : mg "all" = none) (z_len : mg "len" = none) (z_isinstance : mg "isinstance" = none) (z_tuple : mg "tuple" = none) (c_MOST_LOGS : Con K mg "MOST_LOGS" k_MOST_LOGS) (hc : fd.code = .ref c) (tb : GxR.TabB base mg c q) (hq : T q) : FnOk P w K mg base (L2N.CX P w) 3 f fd ["value"] (spF K mg T F_is_heap) := by
  have nd := (sc_is_heap).nd
  exact fn_bodyG F sc_is_heap hc fun A outer s H E gA gH gi gq hr => by
    have go : GenOk (cxOf (L2N.CX P w) P w K mg base n_is_heap "is_heap" (defScope s_is_heap) f (.ref c) A outer s H E) ⟨K, mg, gA, gH, gi, gq, T⟩ := ⟨c, q, tb, rfl, hq⟩
    exact (dss_cons (ds_if (dt_w (dw_or (dt_not (dt_tru (dk (de_isa isa_tup (dpk 0) z_isinstance z_tuple)))) (dw_or (dt_cmp (op_neR (units64 hr)) od_r (de_b1 cb_len (dpk 0) (hm := z_len)) (dk de_int) (nomark _)) (dw_or1 (dt_not (dt_tru (dk (de_all [("one", 1)] rfl nd go hr (blkOk_by (N := n_is_heap) (sc := defScope s_is_heap) (by decide +kernel)) z_all (di_items (dv 0)) (fun _ _ _ _ _ _ hr => (dgv_name 1 nd)) (fun _ _ _ _ _ _ hr => dts_nil) (fun _ _ _ _ _ _ hr => (de_call d_is_number hr (by decide) takes00 (dc_dat (dv 1) (dc_dat de_int (dc_dat (de_con c_MOST_LOGS) dc_nil))))))))))))) (dss_one (ds_ret de_bl)) dss_nil)
    (dss_one (ds_ret (de_le hr (de_call d_logs_of hr (by decide) (L2N.takes_of rfl rfl rfl rfl) (dc_dat (dv 0) dc_nil)) (dk (de_con c_MOST_LOGS))))))
theorem ok_check_logs {f : Addr} {fd : FuncData} (F : L2.Fun K "check_logs" "check_logs" s_check_logs f fd) (d_is_number : Def P w K mg base T 1 "is_number" F_is_number) (c_MOST_LOGS : Con K mg "MOST_LOGS" k_MOST_LOGS) (e_OutOfRange : ExC K mg "OutOfRange") : FnOk P w K mg base (L2N.CX P w) 2 f fd ["n"] (spF K mg T F_check_logs) := by
  have nd := (sc_check_logs).nd
  exact fn_body F sc_check_logs fun cdv A outer s H E gA gH gi gq hr => by
    exact (dss_one (ds_if (dt_not (dt_tru (dk (de_call d_is_number hr (by decide) (L2N.takes_of rfl rfl rfl rfl) (dc_dat (dv 0) (dc_dat de_int (dc_dat (de_con c_MOST_LOGS) dc_nil))))))) (dss_one (ds_raiseC rfl (L2N.takes_of rfl rfl rfl rfl) e_OutOfRange)) dss_nil))
theorem ok_heaps_of {f : Addr} {fd : FuncData} (F : L2.Fun K "heaps_of" "heaps_of" s_heaps_of f fd) (d_check_logs : Def P w K mg base T 2 "check_logs" F_check_logs) (z_tuple : mg "tuple" = none) : FnOk P w K mg base (L2N.CX P w) 3 f fd ["n"] (spF K mg T F_heaps_of) := by
  have nd := (sc_heaps_of).nd
  exact fn_body F sc_heaps_of fun cdv A outer s H E gA gH gi gq hr => by
    exact (dss_cons (ds_expr (de_call d_check_logs hr (by decide) (L2N.takes_of rfl rfl rfl rfl) (dc_dat (dv 0) dc_nil)))
    (dss_cons (ds_setF 1 nd (df_lst da_nil))
    (dss_cons (ds_set 2 nd de_int)
    (dss_cons (ds_pre [3] (ds_fgt [2] (ds_while (passes_of rfl) (dt_cmp (op_leR (units64 hr)) od_r (de_mul (dv 2) (dk (de_add (dv 2) (dk de_int)))) (dk (de_mul de_int (dpk 0))) (nomark _)) (dss_fgt [3] (dss_cons (ds_set 3 nd (de_sub (dv 0) (dk (de_fdiv (de_mul (dv 2) (dk (de_sub (dv 2) (dk de_int)))) (dk de_int)))))
    (dss_cons (ds_if (dt_cmp (op_eqR (units64 hr)) od_r (de_mod (dv 3) (dpk 2)) (dk de_int) (nomark _)) (dss_one (ds_expr (de_append 1 (de_tup (da_cons (de_fdiv (dv 3) (dpk 2)) (da_cons (dv 2) da_nil)))))) dss_nil)
    (dss_one (ds_aug 2 nd iop_add od_int0 de_int))))))))
    (dss_one (ds_ret (de_t1 cb_tup (dpk 1) (hm := z_tuple))))))))
theorem ok_tallest_of {f : Addr} {fd : FuncData} (F : L2.Fun K "tallest_of" "tallest_of" s_tallest_of f fd) (d_heaps_of : Def P w K mg base T 3 "heaps_of" F_heaps_of) : FnOk P w K mg base (L2N.CX P w) 4 f fd ["n"] (spF K mg T F_tallest_of) := by
  have nd := (sc_tallest_of).nd
  exact fn_body F sc_tallest_of fun cdv A outer s H E gA gH gi gq hr => by
    exact (dss_one (ds_ret (de_ix (de_call d_heaps_of hr (by decide) (L2N.takes_of rfl rfl rfl rfl) (dc_dat (dv 0) dc_nil)) (dk (de_neg (dk de_int))))))
theorem ok_joined {f : Addr} {fd : FuncData} (F : L2.Fun K "joined" "joined" s_joined f fd) : FnOk P w K mg base (L2N.CX P w) 1 f fd ["upper", "lower"] (spF K mg T F_joined) := by
  have nd := (sc_joined).nd
  exact fn_body F sc_joined fun cdv A outer s H E gA gH gi gq hr => by
    exact (dss_cons (ds_if (dt_cmp (op_neR (units64 hr)) od_r (de_add (de_ix (dv 0) (dk de_int)) (dk (de_ix (dv 0) (dk de_int)))) (dk (de_ix (dv 1) (dk de_int))) (nomark _)) (dss_one (ds_ret de_non)) dss_nil)
    (dss_one (ds_ret (de_tup (da_cons (de_ix (dv 0) (dk de_int)) (da_cons (de_add (de_ix (dv 0) (dk de_int)) (dk (de_ix (dv 1) (dk de_int)))) da_nil))))))
theorem ok_cuts_of {f : Addr} {fd : FuncData} (F : L2.Fun K "cuts_of" "cuts_of" s_cuts_of f fd) (z_range : mg "range" = none) (z_tuple : mg "tuple" = none) : FnOk P w K mg base (L2N.CX P w) 1 f fd ["heap"] (spF K mg T F_cuts_of) := by
  have nd := (sc_cuts_of).nd
  exact fn_body F sc_cuts_of fun cdv A outer s H E gA gH gi gq hr => by
    exact (dss_cons (ds_asg (dv 0) (dg_tup rfl (dgs_cons (dg_name 1 nd) (dgs_cons (dg_name 2 nd) dgs_nil))))
    (dss_one (ds_ret (de_t1 cb_tup (dk (de_f (df_lc [("many", 3)] rfl nd (blkOk_by (N := n_cuts_of) (sc := defScope s_cuts_of) (by decide +kernel)) (di_range2 z_range (da_cons de_int (da_cons (dv 2) da_nil))) (fun _ _ _ _ _ _ _ => (dgv_name 3 nd)) (fun _ _ _ _ _ _ _ => dts_nil) (fun _ _ _ _ _ _ _ => (de_tup (da_cons (de_tup (da_cons (dv 1) (da_cons (dv 3) da_nil))) (da_cons (de_tup (da_cons (de_add (dv 1) (dpk 3)) (da_cons (de_sub (dv 2) (dpk 3)) da_nil))) da_nil))))))) (hm := z_tuple)))))
theorem ok_heaps_to {f : Addr} {fd : FuncData} (F : L2.Fun K "heaps_to" "heaps_to" s_heaps_to f fd) (d_is_number : Def P w K mg base T 1 "is_number" F_is_number) (c_MOST_LOGS : Con K mg "MOST_LOGS" k_MOST_LOGS) (e_OutOfRange : ExC K mg "OutOfRange") : FnOk P w K mg base (L2N.CX P w) 2 f fd ["n"] (spF K mg T F_heaps_to) := by
  have nd := (sc_heaps_to).nd
  exact fn_body F sc_heaps_to fun cdv A outer s H E gA gH gi gq hr => by
    exact (dss_cons (ds_if (dt_not (dt_tru (dk (de_call d_is_number hr (by decide) (L2N.takes_of rfl rfl rfl rfl) (dc_dat (dv 0) (dc_dat de_int (dc_dat (de_con c_MOST_LOGS) dc_nil))))))) (dss_one (ds_raiseC rfl (L2N.takes_of rfl rfl rfl rfl) e_OutOfRange)) dss_nil)
    (dss_cons (ds_set 1 nd de_int)
    (dss_cons (ds_set 2 nd de_int)
    (dss_cons (ds_fgt [2] (ds_while (passes_of rfl) (dt_cmp (op_leR (units64 hr)) od_r (de_mul (dv 2) (dk (de_add (dv 2) (dk de_int)))) (dk (de_mul de_int (dpk 0))) (nomark _)) (dss_cons (ds_aug 1 nd iop_add od_int0 (de_fdiv (de_sub (dv 0) (dk (de_fdiv (de_mul (dv 2) (dk (de_sub (dv 2) (dk de_int)))) (dk de_int)))) (dpk 2)))
    (dss_one (ds_aug 2 nd iop_add od_int0 de_int)))))
    (dss_one (ds_ret (dv 1)))))))
theorem ok__law_draws {f : Addr} {fd : FuncData} (F : L2.Fun K "_law_draws" "_law_draws" s__law_draws f fd) (z_list : mg "list" = none) (z_reversed : mg "reversed" = none) (z_range : mg "range" = none) (z_int : mg "int" = none) (z_len : mg "len" = none) (z_abs : mg "abs" = none) : FnOk P w K mg base (L2N.CX P w) 1 f fd ["script"] (spF K mg T F__law_draws) := by
  have nd := (sc__law_draws).nd
  exact fn_body F sc__law_draws fun cdv A outer s H E gA gH gi gq hr => by
    exact (dss_cons (ds_setF 1 nd (df_lst da_nil))
    (dss_cons (ds_pre [2, 3, 4, 5] (ds_for (passes_of rfl) rfl (di_items (dv 0)) (dg_name 2 nd) (dss_fgt [2, 3, 4, 5] (dss_cons (ds_set 3 nd (de_b1 cb_abs (dpk 2) (hm := z_abs)))
    (dss_cons (ds_fgt [4] (ds_if (dt_cmp (op_ltR (units64 hr)) od_r (dv 3) (dk (de_pow de_int (dk de_int))) (nomark _)) (dss_cons (ds_set 4 nd (de_mod (de_t1 cb_int (dk (de_add (de_mul (dv 3) (dk de_int)) (dk de_int))) (hm := z_int)) (dk de_int)))
    (dss_cons (ds_expr (de_append 1 (de_mod (de_t1 cb_int (dk (de_add (de_mul (dv 4) (dk de_int)) (dpk 3))) (hm := z_int)) (dk de_int))))
    (dss_cons (ds_expr (de_append 1 (de_mod (de_t1 cb_int (dk (de_add (dv 4) (dk (de_fdiv (dv 3) (dk de_int))))) (hm := z_int)) (dk de_int))))
    (dss_one (ds_set 3 nd de_int))))) dss_nil))
    (dss_one (ds_pre [5] (ds_fgt [3] (ds_for (passes_of rfl) rfl (di_range1 z_range (da_cons de_int da_nil)) (dg_name 5 nd) (dss_fgt [5] (dss_one (ds_if (dt_cmp (op_gtR (units64 hr)) od_r (dv 3) (dk de_int) (nomark _)) (dss_cons (ds_expr (de_append 1 (de_mod (de_t1 cb_int (dpk 3) (hm := z_int)) (dk de_int))))
    (dss_one (ds_set 3 nd (de_fdiv (dv 3) (dk de_int))))) dss_nil))))))))))))
    (dss_cons (ds_set 6 nd de_int)
    (dss_cons (ds_if (dt_cmp (op_gtR (units64 hr)) od_r (de_b1 cb_len (dpk 0) (hm := z_len)) (dk de_int) (nomark _)) (dss_one (ds_set 6 nd (de_add de_int (dk (de_b1 cb_abs (dk (de_ix (dv 0) (dk de_int))) (hm := z_abs)))))) dss_nil)
    (dss_cons (ds_pre [5] (ds_fgt [6] (ds_for (passes_of rfl) rfl (di_range1 z_range (da_cons de_int da_nil)) (dg_name 5 nd) (dss_fgt [5] (dss_cons (ds_set 6 nd (de_mod (de_t1 cb_int (dk (de_add (de_mul (dv 6) (dk de_int)) (dk de_int))) (hm := z_int)) (dk de_int)))
    (dss_one (ds_expr (de_append 1 (de_fdiv (dv 6) (dk de_int))))))))))
    (dss_one (ds_retF (df_listRev rfl z_list z_reversed (dpk 1)))))))))
theorem ok__law_take {f : Addr} {fd : FuncData} (F : L2.Fun K "_law_take" "_law_take" s__law_take f fd) (z_int : mg "int" = none) (z_len : mg "len" = none) : FnOk P w K mg base (L2N.CX P w) 1 f fd ["draws", "bound"] (spF K mg T F__law_take) := by
  have nd := (sc__law_take).nd
  exact fn_body F sc__law_take fun cdv A outer s H E gA gH gi gq hr => by
    exact (dss_cons (ds_if (dt_cmp (op_eqR (units64 hr)) od_r (de_b1 cb_len (dpk 0) (hm := z_len)) (dk de_int) (nomark _)) (dss_one (ds_ret de_int)) dss_nil)
    (dss_one (ds_ret (de_mod (de_t1 cb_int (dk (de_pop 0)) (hm := z_int)) (dpk 1)))))
theorem ok__law_alike {f : Addr} {fd : FuncData} (F : L2.Fun K "_law_alike" "_law_alike" s__law_alike f fd) (z_isinstance : mg "isinstance" = none) (z_str : mg "str" = none) (z_int : mg "int" = none) (z_bool : mg "bool" = none) (z_tuple : mg "tuple" = none) (z_list : mg "list" = none) (z_len : mg "len" = none) (z_range : mg "range" = none) {k : Nat} {R : Fn} (hk : 0 ≤ k) (d_R : Def P w K mg base T k "_law_alike" R) : FnOk P w K mg base (L2N.CX P w) (k + 1) f fd ["found", "due"] (spF K mg T (runF 2 3 (m__law_alike R))) := by
  have nd := (sc__law_alike).nd
  exact fn_body F sc__law_alike fun cdv A outer s H E gA gH gi gq hr => by
    exact (dss_cons (ds_if (dt_w (dw_or (dt_tru (dk (de_isa isa_list (dpk 1) z_isinstance z_list))) (dw_or1 (dt_tru (dk (de_isa isa_tup (dpk 1) z_isinstance z_tuple)))))) (dss_cons (ds_if (dt_w (dw_or (dt_cmp (op_neR (units64 hr)) od_r (de_isa isa_list (dpk 0) z_isinstance z_list) (dk (de_isa isa_list (dpk 1) z_isinstance z_list)) (nomark _)) (dw_or1 (dt_cmp (op_neR (units64 hr)) od_r (de_isa isa_tup (dpk 0) z_isinstance z_tuple) (dk (de_isa isa_tup (dpk 1) z_isinstance z_tuple)) (nomark _))))) (dss_one (ds_ret de_bl)) dss_nil)
    (dss_one (ds_ret (de_and (de_eq hr (de_b1 cb_len (dpk 0) (hm := z_len)) (dk (de_b1 cb_len (dpk 1) (hm := z_len)))) (de_one (de_eq hr (de_f (df_lc [("k", 2)] rfl nd (blkOk_by (N := n__law_alike) (sc := defScope s__law_alike) (by decide +kernel)) (di_range1 z_range (da_cons (de_b1 cb_len (dpk 1) (hm := z_len)) da_nil)) (fun _ _ _ _ _ _ _ => (dgv_name 2 nd)) (fun _ _ _ _ _ _ _ => (dts_one (dt_not (dt_tru (dk (de_call d_R hr (Nat.le_refl _) takes00 (dc_dat (de_ix (dv 0) (dpk 2)) (dc_dat (de_ix (dv 1) (dpk 2)) dc_nil)))))))) (fun _ _ _ _ _ _ _ => (dv 2)))) (dk (de_f (df_lst da_nil))))))))) dss_nil)
    (dss_cons (ds_if (dt_cmp (op_isR) od_r (dv 1) (dk de_non) (nomark _)) (dss_one (ds_ret (de_is (dv 0) (dk de_non)))) dss_nil)
    (dss_cons (ds_if (dt_w (dw_or (dt_tru (dk (de_isa isa_bool (dpk 1) z_isinstance z_bool))) (dw_or1 (dt_tru (dk (de_isa isa_bool (dpk 0) z_isinstance z_bool)))))) (dss_one (ds_ret (de_and (de_isa isa_bool (dpk 0) z_isinstance z_bool) (de_and (de_isa isa_bool (dpk 1) z_isinstance z_bool) (de_one (de_eq hr (dv 0) (dpk 1))))))) dss_nil)
    (dss_cons (ds_if (dt_tru (dk (de_isa isa_int (dpk 1) z_isinstance z_int))) (dss_one (ds_ret (de_and (de_isa isa_int (dpk 0) z_isinstance z_int) (de_one (de_eq hr (dv 0) (dpk 1)))))) dss_nil)
    (dss_one (ds_ret (de_and (de_isa isa_str (dpk 0) z_isinstance z_str) (de_one (de_eq hr (dv 0) (dpk 1))))))))))
theorem ok__law_says {f : Addr} {fd : FuncData} (F : L2.Fun K "_law_says" "_law_says" s__law_says f fd) (z_isinstance : mg "isinstance" = none) (z_bool : mg "bool" = none) : FnOk P w K mg base (L2N.CX P w) 1 f fd ["told", "due"] (spF K mg T F__law_says) := by
  have nd := (sc__law_says).nd
  exact fn_body F sc__law_says fun cdv A outer s H E gA gH gi gq hr => by
    exact (dss_one (ds_ret (de_and (de_isa isa_bool (dpk 0) z_isinstance z_bool) (de_one (de_eq hr (dv 0) (dpk 1))))))
theorem okW__law_word {f : Addr} {fd : FuncData} (F : L2.Fun K "_law_word" "_law_word" s__law_word f fd) (s_OutOfRange : ErrS K mg RS "OutOfRange") (s_Malformed : ErrS K mg RS "Malformed") (s_NotThere : ErrS K mg RS "NotThere") (s_Refused : ErrS K mg RS "Refused") (s_TooMuch : ErrS K mg RS "TooMuch") (z_len : mg "len" = none) (z_isinstance : mg "isinstance" = none) : FnW P w K mg base 1 f fd ["e"] (spW K mg RS W__law_word) := by
  have nd := (sc__law_word).nd
  exact fn_bodyW F sc__law_word fun cdv A outer s H E p hc hr hq => by
    exact (dss_cons (ds_set 1 nd (de_f (df_lst (da_cons (de_isE 0 hq s_OutOfRange z_isinstance) (da_cons (de_isE 0 hq s_Malformed z_isinstance) (da_cons (de_isE 0 hq s_NotThere z_isinstance) (da_cons (de_isE 0 hq s_Refused z_isinstance) (da_cons (de_isE 0 hq s_TooMuch z_isinstance) da_nil))))))))
    (dss_cons (ds_if (dt_cmp (op_neR (unitsH hr)) od_r (de_b1 cb_len (dk (de_f (df_lcH [("one", 2)] hc nd (blkOk_by (N := n__law_word) (sc := defScope s__law_word) (by decide +kernel)) (di_itemsH (dv 1)) (fun _ _ _ _ _ _ _ => (dgv_name 2 nd)) (fun _ _ _ _ _ _ _ => (dts_one (dt_tru (dpk 2)))) (fun _ _ _ _ _ _ _ => (dv 2))))) (hm := z_len)) (dk de_int) (nomark _)) (dss_one (ds_ret de_str)) dss_nil)
    (dss_one (ds_ret (de_ix (de_f (df_lst (da_cons de_str (da_cons de_str (da_cons de_str (da_cons de_str (da_cons de_str da_nil))))))) (dk (de_index (dv 1) de_bl)))))))
theorem ok__law_told {f : Addr} {fd : FuncData} (F : L2.Fun K "_law_told" "_law_told" s__law_told f fd) (d_tallest_of : Def P w K mg base T 4 "tallest_of" F_tallest_of) (d_heaps_to : Def P w K mg base T 2 "heaps_to" F_heaps_to) (d_heaps_of : Def P w K mg base T 3 "heaps_of" F_heaps_of) (dW__law_word : DefW P w K mg base RS 1 "_law_word" W__law_word) (eR : ErrR K mg RS) (eX : ErrX K mg RS "SawError") : FnOk P w K mg base (L2N.CX P w) 5 f fd ["which", "n"] (spF K mg T F__law_told) := by
  have nd := (sc__law_told).nd
  exact fn_body F sc__law_told fun cdv A outer s H E gA gH gi gq hr => by
    exact (dss_one (ds_tryW 2 (L2N.takes_of rfl rfl rfl rfl) nd dW__law_word eR eX hr (by decide) (fun W pn xe tk po => (dss_cons (ds_if (dt_cmp (op_eqR (units64 hr)) od_r (dv 0) (dk de_int) (nomark _)) (dss_one (ds_ret (de_call d_heaps_of hr (by decide) tk (dc_dat (dv 1) dc_nil)))) dss_nil)
    (dss_one (ds_ret (de_if (dt_cmp (op_eqR (units64 hr)) od_r (dv 0) (dk de_int) (nomark _)) (de_call d_tallest_of hr (by decide) tk (dc_dat (dv 1) dc_nil)) (de_call d_heaps_to hr (by decide) tk (dc_dat (dv 1) dc_nil)))))))))
theorem ok__law_logs {f : Addr} {fd : FuncData} (F : L2.Fun K "_law_logs" "_law_logs" s__law_logs f fd) (z_range : mg "range" = none) (z_sum : mg "sum" = none) : FnOk P w K mg base (L2N.CX P w) 1 f fd ["top", "rows"] (spF K mg T F__law_logs) := by
  have nd := (sc__law_logs).nd
  exact fn_body F sc__law_logs fun cdv A outer s H E gA gH gi gq hr => by
    exact (dss_one (ds_ret (de_b1 (cb_sum rfl) (dk (de_f (df_lc [("row", 2)] rfl nd (blkOk_by (N := n__law_logs) (sc := defScope s__law_logs) (by decide +kernel)) (di_range1 z_range (da_cons (dv 1) da_nil)) (fun _ _ _ _ _ _ _ => (dgv_name 2 nd)) (fun _ _ _ _ _ _ _ => dts_nil) (fun _ _ _ _ _ _ _ => (de_add (dv 0) (dpk 2)))))) (hm := z_sum))))
theorem ok__law_heaps {f : Addr} {fd : FuncData} (F : L2.Fun K "_law_heaps" "_law_heaps" s__law_heaps f fd) (z_tuple : mg "tuple" = none) : FnOk P w K mg base (L2N.CX P w) 1 f fd ["n"] (spF K mg T F__law_heaps) := by
  have nd := (sc__law_heaps).nd
  exact fn_body F sc__law_heaps fun cdv A outer s H E gA gH gi gq hr => by
    exact (dss_cons (ds_setF 1 nd (df_lst da_nil))
    (dss_cons (ds_asg (de_tup (da_cons de_int (da_cons de_int da_nil))) (dg_tup rfl (dgs_cons (dg_name 2 nd) (dgs_cons (dg_name 3 nd) dgs_nil))))
    (dss_cons (ds_fgt [2, 3] (ds_while (passes_of rfl) (dt_cmp (op_geR (units64 hr)) od_r (de_sub (dv 0) (dpk 2)) (dpk 3) (nomark _)) (dss_cons (ds_if (dt_cmp (op_eqR (units64 hr)) od_r (de_mul (de_fdiv (de_sub (dv 0) (dpk 2)) (dpk 3)) (dpk 3)) (dk (de_sub (dv 0) (dpk 2))) (nomark _)) (dss_one (ds_expr (de_append 1 (de_tup (da_cons (de_fdiv (de_sub (dv 0) (dpk 2)) (dpk 3)) (da_cons (dv 3) da_nil)))))) dss_nil)
    (dss_cons (ds_set 2 nd (de_add (dv 2) (dpk 3)))
    (dss_one (ds_set 3 nd (de_add (dv 3) (dk de_int))))))))
    (dss_one (ds_ret (de_t1 cb_tup (dpk 1) (hm := z_tuple)))))))
theorem ok__law_odds {f : Addr} {fd : FuncData} (F : L2.Fun K "_law_odds" "_law_odds" s__law_odds f fd) (z_len : mg "len" = none) : FnOk P w K mg base (L2N.CX P w) 1 f fd ["n"] (spF K mg T F__law_odds) := by
  have nd := (sc__law_odds).nd
  exact fn_body F sc__law_odds fun cdv A outer s H E gA gH gi gq hr => by
    exact (dss_cons (ds_while (passes_of rfl) (dt_cmp (op_eqR (units64 hr)) od_r (de_mul (de_fdiv (dv 0) (dk de_int)) (dk de_int)) (dpk 0) (nomark _)) (dss_one (ds_set 0 nd (de_fdiv (dv 0) (dk de_int)))))
    (dss_cons (ds_setF 1 nd df_dct0)
    (dss_cons (ds_set 2 nd de_int)
    (dss_cons (ds_fgt [2] (ds_while (passes_of rfl) (dt_cmp (op_leR (units64 hr)) od_r (de_mul (dv 2) (dpk 2)) (dpk 0) (nomark _)) (dss_cons (ds_if (dt_cmp (op_eqR (units64 hr)) od_r (de_mul (de_fdiv (dv 0) (dpk 2)) (dpk 2)) (dpk 0) (nomark _)) (dss_cons (ds_putIx hr 1 de_bl (dv 2))
    (dss_one (ds_putIx hr 1 de_bl (de_fdiv (dv 0) (dpk 2))))) dss_nil)
    (dss_one (ds_set 2 nd (de_add (dv 2) (dk de_int)))))))
    (dss_one (ds_ret (de_b1 cb_len (dpk 1) (hm := z_len))))))))
theorem ok_law {f : Addr} {fd : FuncData} (F : L2.Fun K "law" "law" s_law f fd) (d_is_heap : Def P w K mg base T 3 "is_heap" F_is_heap) (d__law_says : Def P w K mg base T 1 "_law_says" F__law_says) (d_heaps_to : Def P w K mg base T 2 "heaps_to" F_heaps_to) (d__law_told : Def P w K mg base T 5 "_law_told" F__law_told) (d__law_odds : Def P w K mg base T 1 "_law_odds" F__law_odds) (d__law_take : Def P w K mg base T 1 "_law_take" F__law_take) (d__law_heaps : Def P w K mg base T 1 "_law_heaps" F__law_heaps) (d__law_alike : Def P w K mg base T 8 "_law_alike" F__law_alike) (d_joined : Def P w K mg base T 1 "joined" F_joined) (d_logs_of : Def P w K mg base T 1 "logs_of" F_logs_of) (d__law_logs : Def P w K mg base T 1 "_law_logs" F__law_logs) (d_cuts_of : Def P w K mg base T 1 "cuts_of" F_cuts_of) (d_heaps_of : Def P w K mg base T 3 "heaps_of" F_heaps_of) (d__law_draws : Def P w K mg base T 1 "_law_draws" F__law_draws) (z_range : mg "range" = none) (z_sum : mg "sum" = none) (z_len : mg "len" = none) (z_tuple : mg "tuple" = none) (sp : Sp) (hsp : ∀ vs H Q E, sp vs H Q E → spF K mg T F_law vs H Q E0) : FnOk P w K mg base CX0 9 f fd ["script"] sp := by
  have nd := (sc_law).nd
  exact fn_body0 F sc_law (fun cdv A outer s H E gA gH gi gq hr => by
    exact (dss_cons (ds_setF 1 nd (df_call d__law_draws hr (by decide) takes00 (dc_dat (dv 0) dc_nil)))
    (dss_cons (ds_pre [2, 3, 4, 5, 6, 7] (ds_for PassesOwn.never rfl (di_range1 z_range (da_cons de_int da_nil)) (dg_name 2 nd) (dss_fgt [2, 3, 4, 5, 6, 7] (dss_cons (ds_set 3 nd (de_add de_int (dk (de_call d__law_take hr (by decide) takes00 (dc_slot 1 (dc_dat (de_ix (de_f (df_lst (da_cons de_int (da_cons de_int (da_cons de_int da_nil))))) (dk (de_call d__law_take hr (by decide) takes00 (dc_slot 1 (dc_dat de_int dc_nil))))) dc_nil))))))
    (dss_cons (ds_if (dt_cmp (op_eqR (units64 hr)) od_r (dv 2) (dk de_int) (nomark _)) (dss_one (ds_set 3 nd (de_shl de_int (dk (de_call d__law_take hr (by decide) takes00 (dc_slot 1 (dc_dat de_int dc_nil))))))) (dss_one (ds_if (dt_cmp (op_eqR (units64 hr)) od_r (dv 2) (dk de_int) (nomark _)) (dss_one (ds_set 3 nd (de_mul (de_ix (de_f (df_lst (da_cons de_int (da_cons de_int (da_cons de_int (da_cons de_int (da_cons de_int (da_cons de_int (da_cons de_int (da_cons de_int da_nil)))))))))) (dk (de_call d__law_take hr (by decide) takes00 (dc_slot 1 (dc_dat de_int dc_nil))))) (dk (de_add de_int (dk (de_call d__law_take hr (by decide) takes00 (dc_slot 1 (dc_dat de_int dc_nil))))))))) dss_nil)))
    (dss_cons (ds_set 4 nd (de_call d__law_heaps hr (by decide) takes00 (dc_dat (dv 3) dc_nil)))
    (dss_cons (ds_if (dt_w (dw_or (dt_not (dt_tru (dk (de_call d__law_alike hr (by decide) takes00 (dc_dat (de_f (df_lst (da_cons (de_call d__law_told hr (by decide) takes00 (dc_dat de_int (dc_dat (dv 3) dc_nil))) (da_cons (de_call d__law_told hr (by decide) takes00 (dc_dat de_int (dc_dat (dv 3) dc_nil))) da_nil)))) (dc_dat (de_f (df_lst (da_cons (dv 4) (da_cons (de_ix (dv 4) (dk (de_neg (dk de_int)))) da_nil)))) dc_nil)))))) (dw_or (dt_cmp (op_neR (units64 hr)) od_r (de_b1 cb_len (dpk 4) (hm := z_len)) (dk (de_call d__law_odds hr (by decide) takes00 (dc_dat (dv 3) dc_nil))) (nomark _)) (dw_or1 (dt_cmp (op_neR (units64 hr)) od_r (de_ix (dv 4) (dk de_int)) (dk (de_tup (da_cons (dv 3) (da_cons de_int da_nil)))) (nomark _)))))) (dss_one (ds_ret de_bl)) dss_nil)
    (dss_cons (ds_set 5 nd (de_ix (de_ix (dv 4) (dk (de_neg (dk de_int)))) (dk de_int)))
    (dss_cons (ds_if (dt_cmp (op_gtR (units64 hr)) od_r (de_mul (dv 5) (dk (de_add (dv 5) (dk de_int)))) (dk (de_mul de_int (dpk 3))) (nomark _)) (dss_one (ds_ret de_bl)) dss_nil)
    (dss_one (ds_pre [5, 6, 7] (ds_for PassesOwn.never rfl (di_items (de_slice (dv 4) dp_none (dp_some de_int))) (dg_tup rfl (dgs_cons (dg_name 6 nd) (dgs_cons (dg_name 5 nd) dgs_nil))) (dss_fgt [5, 6, 7] (dss_cons (ds_if (dt_w (dw_or (dt_not (dt_tru (dk (de_call d__law_says hr (by decide) takes00 (dc_dat (de_call d_is_heap hr (by decide) takes00 (dc_dat (de_tup (da_cons (dv 6) (da_cons (dv 5) da_nil))) dc_nil)) (dc_dat de_bl dc_nil)))))) (dw_or1 (dt_not (dt_tru (dk (de_call d__law_alike hr (by decide) takes00 (dc_dat (de_call d_logs_of hr (by decide) takes00 (dc_dat (de_tup (da_cons (dv 6) (da_cons (dv 5) da_nil))) dc_nil)) (dc_dat (dv 3) dc_nil))))))))) (dss_one (ds_ret de_bl)) dss_nil)
    (dss_cons (ds_set 7 nd (de_f (df_lst (da_cons (de_add (dv 6) (dk (de_fdiv (de_sub (dv 5) (dk de_int)) (dk de_int)))) (da_cons (de_add (dv 6) (dk (de_fdiv (dv 5) (dk de_int)))) da_nil)))))
    (dss_cons (ds_if (dt_w (dw_or (dt_w (dw_and (dt_cmp (op_ltR (units64 hr)) od_r (de_mul (de_fdiv (dv 5) (dk de_int)) (dk de_int)) (dpk 5) (nomark _)) (dw_and1 (dt_cmp (op_neR (units64 hr)) od_r (de_mul (dv 5) (dk (de_ix (dv 7) (dk de_int)))) (dpk 3) (nomark _))))) (dw_or1 (dt_w (dw_and (dt_cmp (op_eqR (units64 hr)) od_r (de_mul (de_fdiv (dv 5) (dk de_int)) (dk de_int)) (dpk 5) (nomark _)) (dw_and1 (dt_cmp (op_neR (units64 hr)) od_r (de_mul (de_fdiv (dv 5) (dk de_int)) (dk (de_b1 (cb_sum rfl) (dpk 7) (hm := z_sum)))) (dpk 3) (nomark _)))))))) (dss_one (ds_ret de_bl)) dss_nil)
    (dss_one (ds_if (dt_w (dw_and (dt_cmp (op_leR (units64 hr)) od_r (de_add (dv 3) (dpk 5)) (dk de_int) (nomark _)) (dw_and1 (dt_cmp (op_ninR (units70 hr)) od_r (de_tup (da_cons (de_add (dv 6) (dk de_int)) (da_cons (dv 5) da_nil))) (dk (de_call d_heaps_of hr (by decide) takes00 (dc_dat (de_add (dv 3) (dpk 5)) dc_nil))) (by rfl))))) (dss_one (ds_ret de_bl)) dss_nil))))))))))))))))))
    (dss_cons (ds_asg (de_tup (da_cons (de_add de_int (dk (de_call d__law_take hr (by decide) takes00 (dc_slot 1 (dc_dat de_int dc_nil))))) (da_cons (de_add de_int (dk (de_call d__law_take hr (by decide) takes00 (dc_slot 1 (dc_dat de_int dc_nil))))) da_nil))) (dg_tup rfl (dgs_cons (dg_name 6 nd) (dgs_cons (dg_name 5 nd) dgs_nil))))
    (dss_cons (ds_set 8 nd (de_call d_cuts_of hr (by decide) takes00 (dc_dat (de_tup (da_cons (dv 6) (da_cons (dv 5) da_nil))) dc_nil)))
    (dss_cons (ds_frz 4 (ds_setLc 4 [("k", 17)] rfl nd (blkOk_by (N := n_law) (sc := defScope s_law) (by decide +kernel)) (di_range2 z_range (da_cons de_int (da_cons (dv 5) da_nil))) (fun _ _ _ _ _ _ _ => (dgv_name 17 nd)) (fun _ _ _ _ _ _ _ => dts_nil) (fun _ _ _ _ _ _ _ => (de_tup (da_cons (de_tup (da_cons (dv 6) (da_cons (dv 17) da_nil))) (da_cons (de_tup (da_cons (de_add (dv 6) (dpk 17)) (da_cons (de_sub (dv 5) (dpk 17)) da_nil))) da_nil))))))
    (dss_cons (ds_if (dt_w (dw_or (dt_not (dt_tru (dk (de_call d__law_alike hr (by decide) takes00 (dc_dat (dv 8) (dc_dat (de_t1 cb_tup (dpk 4) (hm := z_tuple)) dc_nil)))))) (dw_or1 (dt_not (dt_tru (dk (de_call d__law_alike hr (by decide) takes00 (dc_dat (de_call d_logs_of hr (by decide) takes00 (dc_dat (de_tup (da_cons (dv 6) (da_cons (dv 5) da_nil))) dc_nil)) (dc_dat (de_call d__law_logs hr (by decide) takes00 (dc_dat (dv 6) (dc_dat (dv 5) dc_nil))) dc_nil))))))))) (dss_one (ds_ret de_bl)) dss_nil)
    (dss_cons (ds_pre [9, 10] (ds_for PassesOwn.never rfl (di_items (dv 4)) (dg_tup rfl (dgs_cons (dg_name 9 nd) (dgs_cons (dg_name 10 nd) dgs_nil))) (dss_fgt [9, 10] (dss_one (ds_if (dt_w (dw_or (dt_not (dt_tru (dk (de_call d__law_alike hr (by decide) takes00 (dc_dat (de_call d_joined hr (by decide) takes00 (dc_dat (dv 9) (dc_dat (dv 10) dc_nil))) (dc_dat (de_tup (da_cons (dv 6) (da_cons (dv 5) da_nil))) dc_nil)))))) (dw_or1 (dt_cmp (op_neR (units64 hr)) od_r (de_add (de_call d_logs_of hr (by decide) takes00 (dc_dat (dv 9) dc_nil)) (dk (de_call d_logs_of hr (by decide) takes00 (dc_dat (dv 10) dc_nil)))) (dk (de_call d_logs_of hr (by decide) takes00 (dc_dat (de_tup (da_cons (dv 6) (da_cons (dv 5) da_nil))) dc_nil))) (nomark _))))) (dss_one (ds_ret de_bl)) dss_nil)))))
    (dss_cons (ds_pre [2, 11, 12, 13] (ds_for PassesOwn.never rfl (di_range1 z_range (da_cons de_int da_nil)) (dg_name 2 nd) (dss_fgt [2, 11, 12, 13] (dss_cons (ds_par 11 12 rfl nd (de_tup (da_cons (de_add de_int (dk (de_call d__law_take hr (by decide) takes00 (dc_slot 1 (dc_dat de_int dc_nil))))) (da_cons (de_add de_int (dk (de_call d__law_take hr (by decide) takes00 (dc_slot 1 (dc_dat de_int dc_nil))))) da_nil))) (de_tup (da_cons (de_add de_int (dk (de_call d__law_take hr (by decide) takes00 (dc_slot 1 (dc_dat de_int dc_nil))))) (da_cons (de_add de_int (dk (de_call d__law_take hr (by decide) takes00 (dc_slot 1 (dc_dat de_int dc_nil))))) da_nil))))
    (dss_cons (ds_set 13 nd (de_if (dt_cmp (op_eqR (units64 hr)) od_r (de_add (de_ix (dv 11) (dk de_int)) (dk (de_ix (dv 11) (dk de_int)))) (dk (de_ix (dv 12) (dk de_int))) (nomark _)) (de_tup (da_cons (de_ix (dv 11) (dk de_int)) (da_cons (de_add (de_ix (dv 11) (dk de_int)) (dk (de_ix (dv 12) (dk de_int)))) da_nil))) de_non))
    (dss_one (ds_if (dt_not (dt_tru (dk (de_call d__law_alike hr (by decide) takes00 (dc_dat (de_call d_joined hr (by decide) takes00 (dc_dat (dv 11) (dc_dat (dv 12) dc_nil))) (dc_dat (dv 13) dc_nil)))))) (dss_one (ds_ret de_bl)) dss_nil)))))))
    (dss_cons (ds_set 14 nd (de_call d__law_take hr (by decide) takes00 (dc_slot 1 (dc_dat de_int dc_nil))))
    (dss_cons (ds_if (dt_not (dt_tru (dk (de_call d__law_alike hr (by decide) takes00 (dc_dat (de_call d__law_told hr (by decide) takes00 (dc_dat de_int (dc_dat (dv 14) dc_nil))) (dc_dat (de_b1 (cb_sum rfl) (dk (de_f (df_lc [("n", 3)] rfl nd (blkOk_by (N := n_law) (sc := defScope s_law) (by decide +kernel)) (di_range2 z_range (da_cons de_int (da_cons (de_add (dv 14) (dk de_int)) da_nil))) (fun _ _ _ _ _ _ _ => (dgv_name 3 nd)) (fun _ _ _ _ _ _ _ => dts_nil) (fun _ _ _ _ _ _ _ => (de_b1 cb_len (dk (de_call d__law_heaps hr (by decide) takes00 (dc_dat (dv 3) dc_nil))) (hm := z_len)))))) (hm := z_sum)) dc_nil)))))) (dss_one (ds_ret de_bl)) dss_nil)
    (dss_cons (ds_set 15 nd (de_call d__law_take hr (by decide) takes00 (dc_slot 1 (dc_dat (de_ix (de_f (df_lst (da_cons de_int (da_cons de_int da_nil)))) (dk (de_call d__law_take hr (by decide) takes00 (dc_slot 1 (dc_dat de_int dc_nil))))) dc_nil))))
    (dss_cons (ds_if (dt_w (dw_and (dt_cmp (op_ltR (units64 hr)) od_r (dv 15) (dk de_int) (nomark _)) (dw_and1 (dt_cmp (op_neR (units64 hr)) od_r (de_call d__law_told hr (by decide) takes00 (dc_dat de_int (dc_dat (dv 15) dc_nil))) (dk (de_b1 (cb_sum rfl) (dk (de_f (df_lc [("odd", 16)] rfl nd (blkOk_by (N := n_law) (sc := defScope s_law) (by decide +kernel)) (di_range3 z_range (da_cons de_int (da_cons (de_add (dv 15) (dk de_int)) (da_cons de_int da_nil)))) (fun _ _ _ _ _ _ _ => (dgv_name 16 nd)) (fun _ _ _ _ _ _ _ => dts_nil) (fun _ _ _ _ _ _ _ => (de_fdiv (dv 15) (dpk 16)))))) (hm := z_sum))) (nomark _))))) (dss_one (ds_ret de_bl)) dss_nil)
    (dss_cons (ds_if (dt_w (dw_and (dt_cmp (op_geR (units64 hr)) od_r (dv 15) (dk de_int) (nomark _)) (dw_and1 (dt_cmp (op_neR (units64 hr)) od_r (de_sub (de_call d__law_told hr (by decide) takes00 (dc_dat de_int (dc_dat (dv 15) dc_nil))) (dk (de_call d__law_told hr (by decide) takes00 (dc_dat de_int (dc_dat (de_sub (dv 15) (dk de_int)) dc_nil))))) (dk (de_call d__law_odds hr (by decide) takes00 (dc_dat (dv 15) dc_nil))) (nomark _))))) (dss_one (ds_ret de_bl)) dss_nil)
    (dss_cons (ds_if (dt_w (dw_or (dt_cmp (op_neR (units64 hr)) od_r (de_f (df_lc [("which", 18), ("bad", 19)] rfl nd (blkOk_by (N := n_law) (sc := defScope s_law) (by decide +kernel)) (di_items (de_f (df_lst (da_cons (de_tup (da_cons de_int (da_cons de_int da_nil))) (da_cons (de_tup (da_cons de_int (da_cons de_int da_nil))) (da_cons (de_tup (da_cons de_int (da_cons de_int da_nil))) (da_cons (de_tup (da_cons de_int (da_cons de_int da_nil))) (da_cons (de_tup (da_cons de_int (da_cons (de_neg (dk de_int)) da_nil))) (da_cons (de_tup (da_cons de_int (da_cons de_int da_nil))) da_nil))))))))) (fun _ _ _ _ _ _ _ => (dgv_tup rfl (dgvs_cons (dgv_name 18 nd) (dgvs_cons (dgv_name 19 nd) dgvs_nil)))) (fun _ _ _ _ _ _ _ => dts_nil) (fun _ _ _ _ _ _ _ => (de_call d__law_told hr (by decide) takes00 (dc_dat (dv 18) (dc_dat (dv 19) dc_nil)))))) (dk (de_f (df_mul (de_f (df_lst (da_cons de_str da_nil))) (dk de_int)))) (nomark _)) (dw_or1 (dt_cmp (op_neR (units64 hr)) od_r (de_call d_heaps_to hr (by decide) takes00 (dc_dat de_int dc_nil)) (dk de_int) (nomark _))))) (dss_one (ds_ret de_bl)) dss_nil)
    (dss_cons (ds_set 16 nd (de_f (df_lst (da_cons de_non (da_cons (de_f (df_lst (da_cons de_int (da_cons de_int da_nil)))) (da_cons (de_tup (da_cons de_int da_nil)) (da_cons (de_tup (da_cons de_int (da_cons de_int da_nil))) (da_cons (de_tup (da_cons de_int (da_cons de_int da_nil))) (da_cons (de_tup (da_cons de_int (da_cons de_int da_nil))) (da_cons (de_tup (da_cons de_int (da_cons de_int da_nil))) (da_cons (de_tup (da_cons de_bl (da_cons de_int da_nil))) (da_cons (de_tup (da_cons de_int (da_cons de_non da_nil))) (da_cons (de_tup (da_cons de_int (da_cons de_int (da_cons de_int da_nil)))) da_nil)))))))))))))
    (dss_one (ds_ret (de_and (de_is (de_call d_is_heap hr (by decide) takes00 (dc_dat (de_tup (da_cons de_int (da_cons de_int da_nil))) dc_nil)) (dk de_bl)) (de_one (de_eq hr (de_f (df_lc [("value", 20)] rfl nd (blkOk_by (N := n_law) (sc := defScope s_law) (by decide +kernel)) (di_items (dv 16)) (fun _ _ _ _ _ _ _ => (dgv_name 20 nd)) (fun _ _ _ _ _ _ _ => (dts_one (dt_not (dt_tru (dk (de_call d__law_says hr (by decide) takes00 (dc_dat (de_call d_is_heap hr (by decide) takes00 (dc_dat (dv 20) dc_nil)) (dc_dat de_bl dc_nil)))))))) (fun _ _ _ _ _ _ _ => (dv 20)))) (dk (de_f (df_lst da_nil)))))))))))))))))))))))) sp hsp
set_option maxHeartbeats 0 in
theorem all_mk {l : PySem.W.OpenLaw} {w : World} {K : PySem.W.Frag} {h : Heap} {mg : Str → Option Value} {fa : Addr} {q : Program} (hP : ∀ ns : List Int, ns.length ≤ 63 → (∀ z ∈ ns, Builtin.Int.intBits z ≤ 1048576) → F_law [.dat (.list (ns.map PyData.int))] = some (.ret (.bool true) [])) (X : K.In h) (G : h.Ns mainGlobals mg) (hfa : mg "law" = some (.ref fa)) (all : AllTab q K mg h)
    {f0 : Addr} {od0 an0 : Option Addr} {sl0 : Array (Option Value)} {oc0 kV0 dc0 pm0 ct0 : Value} {cd0 : Value} {f1 : Addr} {od1 an1 : Option Addr} {sl1 : Array (Option Value)} {oc1 kV1 dc1 pm1 ct1 : Value} {cd1 : Value} {f2 : Addr} {od2 an2 : Option Addr} {sl2 : Array (Option Value)} {oc2 kV2 dc2 pm2 ct2 : Value} {f3 : Addr} {od3 an3 : Option Addr} {sl3 : Array (Option Value)} {oc3 kV3 dc3 pm3 ct3 : Value} {cd3 : Value} {f4 : Addr} {od4 an4 : Option Addr} {sl4 : Array (Option Value)} {oc4 kV4 dc4 pm4 ct4 : Value} {cd4 : Value} {f5 : Addr} {od5 an5 : Option Addr} {sl5 : Array (Option Value)} {oc5 kV5 dc5 pm5 ct5 : Value} {cd5 : Value} {f6 : Addr} {od6 an6 : Option Addr} {sl6 : Array (Option Value)} {oc6 kV6 dc6 pm6 ct6 : Value} {cd6 : Value} {f7 : Addr} {od7 an7 : Option Addr} {sl7 : Array (Option Value)} {oc7 kV7 dc7 pm7 ct7 : Value} {cd7 : Value} {f8 : Addr} {od8 an8 : Option Addr} {sl8 : Array (Option Value)} {oc8 kV8 dc8 pm8 ct8 : Value} {cd8 : Value} {f9 : Addr} {od9 an9 : Option Addr} {sl9 : Array (Option Value)} {oc9 kV9 dc9 pm9 ct9 : Value} {cd9 : Value} {f10 : Addr} {od10 an10 : Option Addr} {sl10 : Array (Option Value)} {oc10 kV10 dc10 pm10 ct10 : Value} {cd10 : Value} {f11 : Addr} {od11 an11 : Option Addr} {sl11 : Array (Option Value)} {oc11 kV11 dc11 pm11 ct11 : Value} {cd11 : Value} {f12 : Addr} {od12 an12 : Option Addr} {sl12 : Array (Option Value)} {oc12 kV12 dc12 pm12 ct12 : Value} {cd12 : Value} {f13 : Addr} {od13 an13 : Option Addr} {sl13 : Array (Option Value)} {oc13 kV13 dc13 pm13 ct13 : Value} {cd13 : Value} {f14 : Addr} {od14 an14 : Option Addr} {sl14 : Array (Option Value)} {oc14 kV14 dc14 pm14 ct14 : Value} {cd14 : Value} {f15 : Addr} {od15 an15 : Option Addr} {sl15 : Array (Option Value)} {oc15 kV15 dc15 pm15 ct15 : Value} {cd15 : Value} {f16 : Addr} {od16 an16 : Option Addr} {sl16 : Array (Option Value)} {oc16 kV16 dc16 pm16 ct16 : Value} {cd16 : Value} {f17 : Addr} {od17 an17 : Option Addr} {sl17 : Array (Option Value)} {oc17 kV17 dc17 pm17 ct17 : Value} {cd17 : Value} {f18 : Addr} {od18 an18 : Option Addr} {sl18 : Array (Option Value)} {oc18 kV18 dc18 pm18 ct18 : Value} {cd18 : Value} {g2 q2 : Addr} {gd2 : Option Addr} {gv2 : Array Value} {gs2 : Array (Option Value)} {tk_MOST_LOGS : Tok} {C_OutOfRange : Addr} {C_Malformed : Addr} {C_NotThere : Addr} {C_Refused : Addr} {C_TooMuch : Addr} {C_SawError : Addr}
    (a0 : PySem.W.nsIn K mainGlobals "is_number" = some (some (.ref f0))) (l0 : K.lookup f0 = some ⟨oc0, od0, .func (PySem.W.fnOf "is_number" "is_number" (defArgs s_is_number) (defBody s_is_number) (defScope s_is_number) .none kV0 dc0 pm0 an0 cd0 ct0), sl0⟩) (c0 : PySem.W.codeIn K cd0 "is_number" = true) (k0 : PySem.W.keepIn K (.ref f0) = true)
    (a1 : PySem.W.nsIn K mainGlobals "logs_of" = some (some (.ref f1))) (l1 : K.lookup f1 = some ⟨oc1, od1, .func (PySem.W.fnOf "logs_of" "logs_of" (defArgs s_logs_of) (defBody s_logs_of) (defScope s_logs_of) .none kV1 dc1 pm1 an1 cd1 ct1), sl1⟩) (c1 : PySem.W.codeIn K cd1 "logs_of" = true) (k1 : PySem.W.keepIn K (.ref f1) = true)
    (a2 : PySem.W.nsIn K mainGlobals "is_heap" = some (some (.ref f2))) (l2 : K.lookup f2 = some ⟨oc2, od2, .func (PySem.W.fnOf "is_heap" "is_heap" (defArgs s_is_heap) (defBody s_is_heap) (defScope s_is_heap) .none kV2 dc2 pm2 an2 (.ref g2) ct2), sl2⟩) (c2 : PySem.W.codeIn K (.ref g2) "is_heap" = true) (k2 : PySem.W.keepIn K (.ref f2) = true)
    (a3 : PySem.W.nsIn K mainGlobals "check_logs" = some (some (.ref f3))) (l3 : K.lookup f3 = some ⟨oc3, od3, .func (PySem.W.fnOf "check_logs" "check_logs" (defArgs s_check_logs) (defBody s_check_logs) (defScope s_check_logs) .none kV3 dc3 pm3 an3 cd3 ct3), sl3⟩) (c3 : PySem.W.codeIn K cd3 "check_logs" = true) (k3 : PySem.W.keepIn K (.ref f3) = true)
    (a4 : PySem.W.nsIn K mainGlobals "heaps_of" = some (some (.ref f4))) (l4 : K.lookup f4 = some ⟨oc4, od4, .func (PySem.W.fnOf "heaps_of" "heaps_of" (defArgs s_heaps_of) (defBody s_heaps_of) (defScope s_heaps_of) .none kV4 dc4 pm4 an4 cd4 ct4), sl4⟩) (c4 : PySem.W.codeIn K cd4 "heaps_of" = true) (k4 : PySem.W.keepIn K (.ref f4) = true)
    (a5 : PySem.W.nsIn K mainGlobals "tallest_of" = some (some (.ref f5))) (l5 : K.lookup f5 = some ⟨oc5, od5, .func (PySem.W.fnOf "tallest_of" "tallest_of" (defArgs s_tallest_of) (defBody s_tallest_of) (defScope s_tallest_of) .none kV5 dc5 pm5 an5 cd5 ct5), sl5⟩) (c5 : PySem.W.codeIn K cd5 "tallest_of" = true) (k5 : PySem.W.keepIn K (.ref f5) = true)
    (a6 : PySem.W.nsIn K mainGlobals "joined" = some (some (.ref f6))) (l6 : K.lookup f6 = some ⟨oc6, od6, .func (PySem.W.fnOf "joined" "joined" (defArgs s_joined) (defBody s_joined) (defScope s_joined) .none kV6 dc6 pm6 an6 cd6 ct6), sl6⟩) (c6 : PySem.W.codeIn K cd6 "joined" = true) (k6 : PySem.W.keepIn K (.ref f6) = true)
    (a7 : PySem.W.nsIn K mainGlobals "cuts_of" = some (some (.ref f7))) (l7 : K.lookup f7 = some ⟨oc7, od7, .func (PySem.W.fnOf "cuts_of" "cuts_of" (defArgs s_cuts_of) (defBody s_cuts_of) (defScope s_cuts_of) .none kV7 dc7 pm7 an7 cd7 ct7), sl7⟩) (c7 : PySem.W.codeIn K cd7 "cuts_of" = true) (k7 : PySem.W.keepIn K (.ref f7) = true)
    (a8 : PySem.W.nsIn K mainGlobals "heaps_to" = some (some (.ref f8))) (l8 : K.lookup f8 = some ⟨oc8, od8, .func (PySem.W.fnOf "heaps_to" "heaps_to" (defArgs s_heaps_to) (defBody s_heaps_to) (defScope s_heaps_to) .none kV8 dc8 pm8 an8 cd8 ct8), sl8⟩) (c8 : PySem.W.codeIn K cd8 "heaps_to" = true) (k8 : PySem.W.keepIn K (.ref f8) = true)
    (a9 : PySem.W.nsIn K mainGlobals "_law_draws" = some (some (.ref f9))) (l9 : K.lookup f9 = some ⟨oc9, od9, .func (PySem.W.fnOf "_law_draws" "_law_draws" (defArgs s__law_draws) (defBody s__law_draws) (defScope s__law_draws) .none kV9 dc9 pm9 an9 cd9 ct9), sl9⟩) (c9 : PySem.W.codeIn K cd9 "_law_draws" = true) (k9 : PySem.W.keepIn K (.ref f9) = true)
    (a10 : PySem.W.nsIn K mainGlobals "_law_take" = some (some (.ref f10))) (l10 : K.lookup f10 = some ⟨oc10, od10, .func (PySem.W.fnOf "_law_take" "_law_take" (defArgs s__law_take) (defBody s__law_take) (defScope s__law_take) .none kV10 dc10 pm10 an10 cd10 ct10), sl10⟩) (c10 : PySem.W.codeIn K cd10 "_law_take" = true) (k10 : PySem.W.keepIn K (.ref f10) = true)
    (a11 : PySem.W.nsIn K mainGlobals "_law_alike" = some (some (.ref f11))) (l11 : K.lookup f11 = some ⟨oc11, od11, .func (PySem.W.fnOf "_law_alike" "_law_alike" (defArgs s__law_alike) (defBody s__law_alike) (defScope s__law_alike) .none kV11 dc11 pm11 an11 cd11 ct11), sl11⟩) (c11 : PySem.W.codeIn K cd11 "_law_alike" = true) (k11 : PySem.W.keepIn K (.ref f11) = true)
    (a12 : PySem.W.nsIn K mainGlobals "_law_says" = some (some (.ref f12))) (l12 : K.lookup f12 = some ⟨oc12, od12, .func (PySem.W.fnOf "_law_says" "_law_says" (defArgs s__law_says) (defBody s__law_says) (defScope s__law_says) .none kV12 dc12 pm12 an12 cd12 ct12), sl12⟩) (c12 : PySem.W.codeIn K cd12 "_law_says" = true) (k12 : PySem.W.keepIn K (.ref f12) = true)
    (a13 : PySem.W.nsIn K mainGlobals "_law_word" = some (some (.ref f13))) (l13 : K.lookup f13 = some ⟨oc13, od13, .func (PySem.W.fnOf "_law_word" "_law_word" (defArgs s__law_word) (defBody s__law_word) (defScope s__law_word) .none kV13 dc13 pm13 an13 cd13 ct13), sl13⟩) (c13 : PySem.W.codeIn K cd13 "_law_word" = true) (k13 : PySem.W.keepIn K (.ref f13) = true)
    (a14 : PySem.W.nsIn K mainGlobals "_law_told" = some (some (.ref f14))) (l14 : K.lookup f14 = some ⟨oc14, od14, .func (PySem.W.fnOf "_law_told" "_law_told" (defArgs s__law_told) (defBody s__law_told) (defScope s__law_told) .none kV14 dc14 pm14 an14 cd14 ct14), sl14⟩) (c14 : PySem.W.codeIn K cd14 "_law_told" = true) (k14 : PySem.W.keepIn K (.ref f14) = true)
    (a15 : PySem.W.nsIn K mainGlobals "_law_logs" = some (some (.ref f15))) (l15 : K.lookup f15 = some ⟨oc15, od15, .func (PySem.W.fnOf "_law_logs" "_law_logs" (defArgs s__law_logs) (defBody s__law_logs) (defScope s__law_logs) .none kV15 dc15 pm15 an15 cd15 ct15), sl15⟩) (c15 : PySem.W.codeIn K cd15 "_law_logs" = true) (k15 : PySem.W.keepIn K (.ref f15) = true)
    (a16 : PySem.W.nsIn K mainGlobals "_law_heaps" = some (some (.ref f16))) (l16 : K.lookup f16 = some ⟨oc16, od16, .func (PySem.W.fnOf "_law_heaps" "_law_heaps" (defArgs s__law_heaps) (defBody s__law_heaps) (defScope s__law_heaps) .none kV16 dc16 pm16 an16 cd16 ct16), sl16⟩) (c16 : PySem.W.codeIn K cd16 "_law_heaps" = true) (k16 : PySem.W.keepIn K (.ref f16) = true)
    (a17 : PySem.W.nsIn K mainGlobals "_law_odds" = some (some (.ref f17))) (l17 : K.lookup f17 = some ⟨oc17, od17, .func (PySem.W.fnOf "_law_odds" "_law_odds" (defArgs s__law_odds) (defBody s__law_odds) (defScope s__law_odds) .none kV17 dc17 pm17 an17 cd17 ct17), sl17⟩) (c17 : PySem.W.codeIn K cd17 "_law_odds" = true) (k17 : PySem.W.keepIn K (.ref f17) = true)
    (a18 : PySem.W.nsIn K mainGlobals "law" = some (some (.ref f18))) (l18 : K.lookup f18 = some ⟨oc18, od18, .func (PySem.W.fnOf "law" "law" (defArgs s_law) (defBody s_law) (defScope s_law) .none kV18 dc18 pm18 an18 cd18 ct18), sl18⟩) (c18 : PySem.W.codeIn K cd18 "law" = true) (k18 : PySem.W.keepIn K (.ref f18) = true)
    (r2 : K.lookup g2 = some ⟨.type "code", gd2, .fields gv2, gs2⟩) (t2 : CodeW gv2 g2 q2) (u2 : K.lookup q2 = none) (v2 : ((recsOf q).any fun e => e.name == "is_heap") = true)
    (z_isinstance : PySem.W.nsIn K mainGlobals "isinstance" = some none)
    (z_bool : PySem.W.nsIn K mainGlobals "bool" = some none)
    (z_int : PySem.W.nsIn K mainGlobals "int" = some none)
    (z_all : PySem.W.nsIn K mainGlobals "all" = some none)
    (z_len : PySem.W.nsIn K mainGlobals "len" = some none)
    (z_tuple : PySem.W.nsIn K mainGlobals "tuple" = some none)
    (z_range : PySem.W.nsIn K mainGlobals "range" = some none)
    (z_list : PySem.W.nsIn K mainGlobals "list" = some none)
    (z_reversed : PySem.W.nsIn K mainGlobals "reversed" = some none)
    (z_abs : PySem.W.nsIn K mainGlobals "abs" = some none)
    (z_str : PySem.W.nsIn K mainGlobals "str" = some none)
    (z_sum : PySem.W.nsIn K mainGlobals "sum" = some none)
    (h_MOST_LOGS : PySem.W.nsIn K mainGlobals "MOST_LOGS" = some (some (.int 100000 tk_MOST_LOGS)))
    (g_OutOfRange : PySem.W.nsIn K mainGlobals "OutOfRange" = some (some (.ref C_OutOfRange)))
    (g_Malformed : PySem.W.nsIn K mainGlobals "Malformed" = some (some (.ref C_Malformed)))
    (g_NotThere : PySem.W.nsIn K mainGlobals "NotThere" = some (some (.ref C_NotThere)))
    (g_Refused : PySem.W.nsIn K mainGlobals "Refused" = some (some (.ref C_Refused)))
    (g_TooMuch : PySem.W.nsIn K mainGlobals "TooMuch" = some (some (.ref C_TooMuch)))
    (g_SawError : PySem.W.nsIn K mainGlobals "SawError" = some (some (.ref C_SawError)))
    (xq_OutOfRange : PySem.W.excIn K C_OutOfRange [.type "ValueError", .type "Exception", .type "BaseException", .type "object"] "ValueError.__new__" = true)
    (xk_OutOfRange : PySem.W.keepIn K (.ref C_OutOfRange) = true)
    (xt_OutOfRange : PySem.W.typeIn K (.ref C_OutOfRange) = some (.type "type"))
    (hn_E : PySem.W.specialIn K (.builtin "object.__class__") "__get__" = some (some (.builtin "getset_descriptor.__get__")))
    (ht_E : PySem.W.takesIn K (.builtin "object.__class__") = some true)
    (hg_OutOfRange : PySem.W.findIn K (.ref C_OutOfRange) "__getattribute__" = some (some (.builtin "BaseException.__getattribute__")))
    (hk_OutOfRange : PySem.W.findIn K (.ref C_OutOfRange) "__getattr__" = some none)
    (xb_OutOfRange : PySem.W.subIn K (.ref C_OutOfRange) (.type "BaseException") = some true)
    (hd_OutOfRange : PySem.W.hasDictIn K C_OutOfRange = true)
    (ha_OutOfRange : PySem.W.findIn K (.ref C_OutOfRange) "__class__" = some (some (.builtin "object.__class__")))
    (hm_OutOfRange : PySem.W.mroIn K C_OutOfRange (.type "object") = some true)
    (ki_OutOfRange_OutOfRange : PySem.W.kitOne K (.ref C_OutOfRange) (.ref C_OutOfRange) = some true)
    (ki_OutOfRange_Malformed : PySem.W.kitOne K (.ref C_OutOfRange) (.ref C_Malformed) = some false)
    (ki_OutOfRange_NotThere : PySem.W.kitOne K (.ref C_OutOfRange) (.ref C_NotThere) = some false)
    (ki_OutOfRange_Refused : PySem.W.kitOne K (.ref C_OutOfRange) (.ref C_Refused) = some false)
    (ki_OutOfRange_TooMuch : PySem.W.kitOne K (.ref C_OutOfRange) (.ref C_TooMuch) = some false)
    (em_OutOfRange : PySem.W.exmOne K (.ref C_OutOfRange) (.ref C_SawError) = some true) :
    LamX.LawAtS l w K CX0 9 63 "script" mg fa h := by
  have e := hfa.symm.trans (PySem.W.mg_of X G a18)
  cases e
  have tt2 : h.get? q2 = some { cls := .none, data := .fields #[] } := all "is_heap" f2 v2 (PySem.W.mg_of X G a2) g2 q2 _ _ _ _ _ _ l2 rfl rfl r2 t2.e11
  have cc2 : PySem.W.CodeHd h g2 q2 := code_of X r2 t2
  refine ⟨PySem.W.fnOf "law" "law" (defArgs s_law) (defBody s_law) (defScope s_law) .none kV18 dc18 pm18 an18 cd18 ct18, [(g2, q2)], spL K (fun a => a ∈ [q2]) 63, ?_, ?_, ?_, fun s v => .of_eq rfl, ?_, ?_⟩
  · intro p hp; simp only [List.mem_cons, List.not_mem_nil, or_false] at hp; subst hp; exact tt2
  · intro p hp; simp only [List.mem_cons, List.not_mem_nil, or_false] at hp; subst hp; exact u2
  · intro p hp; simp only [List.mem_cons, List.not_mem_nil, or_false] at hp; subst hp; exact cc2
  · intro H a ns hl hb ht hS
    refine ⟨a, ns, rfl, hS, hl, hb, fun P hP => ?_, fun _ => rfl⟩
    obtain ⟨p, hp, e⟩ : ∃ p ∈ ([(g2, q2)] : List (Addr × Addr)), p.2 = P := by simpa [eq_comm] using hP
    rw [← e]; exact ht p hp
  · intro base _ _ tb
    have F0 := fun_mk (st := s_is_number) l0 c0 k0
    have b0 := F0.binds (ps := ["value", "least", "most"]) fun _ _ _ _ _ _ us hl => match us, hl with | [_, _, _], _ => rfl
    have F1 := fun_mk (st := s_logs_of) l1 c1 k1
    have b1 := F1.binds (ps := ["heap"]) fun _ _ _ _ _ _ us hl => match us, hl with | [_], _ => rfl
    have F2 := fun_mk (st := s_is_heap) l2 c2 k2
    have b2 := F2.binds (ps := ["value"]) fun _ _ _ _ _ _ us hl => match us, hl with | [_], _ => rfl
    have F3 := fun_mk (st := s_check_logs) l3 c3 k3
    have b3 := F3.binds (ps := ["n"]) fun _ _ _ _ _ _ us hl => match us, hl with | [_], _ => rfl
    have F4 := fun_mk (st := s_heaps_of) l4 c4 k4
    have b4 := F4.binds (ps := ["n"]) fun _ _ _ _ _ _ us hl => match us, hl with | [_], _ => rfl
    have F5 := fun_mk (st := s_tallest_of) l5 c5 k5
    have b5 := F5.binds (ps := ["n"]) fun _ _ _ _ _ _ us hl => match us, hl with | [_], _ => rfl
    have F6 := fun_mk (st := s_joined) l6 c6 k6
    have b6 := F6.binds (ps := ["upper", "lower"]) fun _ _ _ _ _ _ us hl => match us, hl with | [_, _], _ => rfl
    have F7 := fun_mk (st := s_cuts_of) l7 c7 k7
    have b7 := F7.binds (ps := ["heap"]) fun _ _ _ _ _ _ us hl => match us, hl with | [_], _ => rfl
    have F8 := fun_mk (st := s_heaps_to) l8 c8 k8
    have b8 := F8.binds (ps := ["n"]) fun _ _ _ _ _ _ us hl => match us, hl with | [_], _ => rfl
    have F9 := fun_mk (st := s__law_draws) l9 c9 k9
    have b9 := F9.binds (ps := ["script"]) fun _ _ _ _ _ _ us hl => match us, hl with | [_], _ => rfl
    have F10 := fun_mk (st := s__law_take) l10 c10 k10
    have b10 := F10.binds (ps := ["draws", "bound"]) fun _ _ _ _ _ _ us hl => match us, hl with | [_, _], _ => rfl
    have F11 := fun_mk (st := s__law_alike) l11 c11 k11
    have b11 := F11.binds (ps := ["found", "due"]) fun _ _ _ _ _ _ us hl => match us, hl with | [_, _], _ => rfl
    have F12 := fun_mk (st := s__law_says) l12 c12 k12
    have b12 := F12.binds (ps := ["told", "due"]) fun _ _ _ _ _ _ us hl => match us, hl with | [_, _], _ => rfl
    have F13 := fun_mk (st := s__law_word) l13 c13 k13
    have b13 := F13.binds (ps := ["e"]) fun _ _ _ _ _ _ us hl => match us, hl with | [_], _ => rfl
    have F14 := fun_mk (st := s__law_told) l14 c14 k14
    have b14 := F14.binds (ps := ["which", "n"]) fun _ _ _ _ _ _ us hl => match us, hl with | [_, _], _ => rfl
    have F15 := fun_mk (st := s__law_logs) l15 c15 k15
    have b15 := F15.binds (ps := ["top", "rows"]) fun _ _ _ _ _ _ us hl => match us, hl with | [_, _], _ => rfl
    have F16 := fun_mk (st := s__law_heaps) l16 c16 k16
    have b16 := F16.binds (ps := ["n"]) fun _ _ _ _ _ _ us hl => match us, hl with | [_], _ => rfl
    have F17 := fun_mk (st := s__law_odds) l17 c17 k17
    have b17 := F17.binds (ps := ["n"]) fun _ _ _ _ _ _ us hl => match us, hl with | [_], _ => rfl
    have F18 := fun_mk (st := s_law) l18 c18 k18
    have y_isinstance := PySem.W.mg_none_of X G z_isinstance
    have y_bool := PySem.W.mg_none_of X G z_bool
    have y_int := PySem.W.mg_none_of X G z_int
    have y_all := PySem.W.mg_none_of X G z_all
    have y_len := PySem.W.mg_none_of X G z_len
    have y_tuple := PySem.W.mg_none_of X G z_tuple
    have y_range := PySem.W.mg_none_of X G z_range
    have y_list := PySem.W.mg_none_of X G z_list
    have y_reversed := PySem.W.mg_none_of X G z_reversed
    have y_abs := PySem.W.mg_none_of X G z_abs
    have y_str := PySem.W.mg_none_of X G z_str
    have y_sum := PySem.W.mg_none_of X G z_sum
    have c_MOST_LOGS : Con K mg "MOST_LOGS" k_MOST_LOGS := ⟨.int 100000, _, PySem.W.mg_of X G h_MOST_LOGS, ⟨_, rfl⟩, fun _ _ => .int _⟩
    have e_OutOfRange : ExC K mg "OutOfRange" := ⟨C_OutOfRange, xq_OutOfRange, PySem.W.mg_of X G g_OutOfRange, xk_OutOfRange, xb_OutOfRange, xt_OutOfRange⟩
    have eR : ErrR K mg RS := ⟨fun c hc => by
      simp only [RS, List.mem_cons, List.not_mem_nil, or_false] at hc; subst hc
      · exact ⟨C_OutOfRange, PySem.W.mg_of X G g_OutOfRange, ⟨hg_OutOfRange, hk_OutOfRange, xb_OutOfRange, hd_OutOfRange, ha_OutOfRange, hn_E, ht_E, hm_OutOfRange⟩⟩⟩
    have s_OutOfRange : ErrS K mg RS "OutOfRange" := ⟨C_OutOfRange, PySem.W.mg_of X G g_OutOfRange, fun c hc C hC => by
      simp only [RS, List.mem_cons, List.not_mem_nil, or_false] at hc; subst hc
      · have hC := hC.symm.trans (PySem.W.mg_of X G g_OutOfRange); cases hC; exact ki_OutOfRange_OutOfRange⟩
    have s_Malformed : ErrS K mg RS "Malformed" := ⟨C_Malformed, PySem.W.mg_of X G g_Malformed, fun c hc C hC => by
      simp only [RS, List.mem_cons, List.not_mem_nil, or_false] at hc; subst hc
      · have hC := hC.symm.trans (PySem.W.mg_of X G g_OutOfRange); cases hC; exact ki_OutOfRange_Malformed⟩
    have s_NotThere : ErrS K mg RS "NotThere" := ⟨C_NotThere, PySem.W.mg_of X G g_NotThere, fun c hc C hC => by
      simp only [RS, List.mem_cons, List.not_mem_nil, or_false] at hc; subst hc
      · have hC := hC.symm.trans (PySem.W.mg_of X G g_OutOfRange); cases hC; exact ki_OutOfRange_NotThere⟩
    have s_Refused : ErrS K mg RS "Refused" := ⟨C_Refused, PySem.W.mg_of X G g_Refused, fun c hc C hC => by
      simp only [RS, List.mem_cons, List.not_mem_nil, or_false] at hc; subst hc
      · have hC := hC.symm.trans (PySem.W.mg_of X G g_OutOfRange); cases hC; exact ki_OutOfRange_Refused⟩
    have s_TooMuch : ErrS K mg RS "TooMuch" := ⟨C_TooMuch, PySem.W.mg_of X G g_TooMuch, fun c hc C hC => by
      simp only [RS, List.mem_cons, List.not_mem_nil, or_false] at hc; subst hc
      · have hC := hC.symm.trans (PySem.W.mg_of X G g_OutOfRange); cases hC; exact ki_OutOfRange_TooMuch⟩
    have eX : ErrX K mg RS "SawError" := ⟨C_SawError, PySem.W.mg_of X G g_SawError, fun c hc C hC => by
      simp only [RS, List.mem_cons, List.not_mem_nil, or_false] at hc; subst hc
      · have hC := hC.symm.trans (PySem.W.mg_of X G g_OutOfRange); cases hC; exact em_OutOfRange⟩
    have dW__law_word : DefW l.prog w K mg base RS 1 "_law_word" W__law_word := ⟨f13, _, _, okW__law_word F13 s_OutOfRange s_Malformed s_NotThere s_Refused s_TooMuch y_len y_isinstance, PySem.W.mg_of X G a13, k13, b13⟩
    have tbx2 : GxR.TabB base mg g2 q2 := let z := tb (g2, q2) (by simp); ⟨z.code, z.bm, z.gP⟩
    have d_logs_of : Def l.prog w K mg base (fun a => a ∈ [q2]) 1 "logs_of" F_logs_of := ⟨f1, _, _, ok_logs_of F1, PySem.W.mg_of X G a1, k1, b1⟩
    have d_is_number : Def l.prog w K mg base (fun a => a ∈ [q2]) 1 "is_number" F_is_number := ⟨f0, _, _, ok_is_number F0 y_isinstance y_bool y_int, PySem.W.mg_of X G a0, k0, b0⟩
    have d_is_heap : Def l.prog w K mg base (fun a => a ∈ [q2]) 3 "is_heap" F_is_heap := ⟨f2, _, _, ok_is_heap F2 d_logs_of d_is_number y_all y_len y_isinstance y_tuple c_MOST_LOGS rfl tbx2 (by simp), PySem.W.mg_of X G a2, k2, b2⟩
    have d__law_says : Def l.prog w K mg base (fun a => a ∈ [q2]) 1 "_law_says" F__law_says := ⟨f12, _, _, ok__law_says F12 y_isinstance y_bool, PySem.W.mg_of X G a12, k12, b12⟩
    have d_heaps_to : Def l.prog w K mg base (fun a => a ∈ [q2]) 2 "heaps_to" F_heaps_to := ⟨f8, _, _, ok_heaps_to F8 d_is_number c_MOST_LOGS e_OutOfRange, PySem.W.mg_of X G a8, k8, b8⟩
    have d_check_logs : Def l.prog w K mg base (fun a => a ∈ [q2]) 2 "check_logs" F_check_logs := ⟨f3, _, _, ok_check_logs F3 d_is_number c_MOST_LOGS e_OutOfRange, PySem.W.mg_of X G a3, k3, b3⟩
    have d_heaps_of : Def l.prog w K mg base (fun a => a ∈ [q2]) 3 "heaps_of" F_heaps_of := ⟨f4, _, _, ok_heaps_of F4 d_check_logs y_tuple, PySem.W.mg_of X G a4, k4, b4⟩
    have d_tallest_of : Def l.prog w K mg base (fun a => a ∈ [q2]) 4 "tallest_of" F_tallest_of := ⟨f5, _, _, ok_tallest_of F5 d_heaps_of, PySem.W.mg_of X G a5, k5, b5⟩
    have d__law_told : Def l.prog w K mg base (fun a => a ∈ [q2]) 5 "_law_told" F__law_told := ⟨f14, _, _, ok__law_told F14 d_tallest_of d_heaps_to d_heaps_of dW__law_word eR eX, PySem.W.mg_of X G a14, k14, b14⟩
    have d__law_odds : Def l.prog w K mg base (fun a => a ∈ [q2]) 1 "_law_odds" F__law_odds := ⟨f17, _, _, ok__law_odds F17 y_len, PySem.W.mg_of X G a17, k17, b17⟩
    have d__law_take : Def l.prog w K mg base (fun a => a ∈ [q2]) 1 "_law_take" F__law_take := ⟨f10, _, _, ok__law_take F10 y_int y_len, PySem.W.mg_of X G a10, k10, b10⟩
    have d__law_heaps : Def l.prog w K mg base (fun a => a ∈ [q2]) 1 "_law_heaps" F__law_heaps := ⟨f16, _, _, ok__law_heaps F16 y_tuple, PySem.W.mg_of X G a16, k16, b16⟩
    have d__law_alike : Def l.prog w K mg base (fun a => a ∈ [q2]) 8 "_law_alike" F__law_alike := rec_def (PySem.W.mg_of X G a11) k11 b11 (fun _ _ hk dR => ok__law_alike F11 y_isinstance y_str y_int y_bool y_tuple y_list y_len y_range hk dR) 8
    have d_joined : Def l.prog w K mg base (fun a => a ∈ [q2]) 1 "joined" F_joined := ⟨f6, _, _, ok_joined F6, PySem.W.mg_of X G a6, k6, b6⟩
    have d__law_logs : Def l.prog w K mg base (fun a => a ∈ [q2]) 1 "_law_logs" F__law_logs := ⟨f15, _, _, ok__law_logs F15 y_range y_sum, PySem.W.mg_of X G a15, k15, b15⟩
    have d_cuts_of : Def l.prog w K mg base (fun a => a ∈ [q2]) 1 "cuts_of" F_cuts_of := ⟨f7, _, _, ok_cuts_of F7 y_range y_tuple, PySem.W.mg_of X G a7, k7, b7⟩
    have d__law_draws : Def l.prog w K mg base (fun a => a ∈ [q2]) 1 "_law_draws" F__law_draws := ⟨f9, _, _, ok__law_draws F9 y_list y_reversed y_range y_int y_len y_abs, PySem.W.mg_of X G a9, k9, b9⟩
    exact ok_law F18 d_is_heap d__law_says d_heaps_to d__law_told d__law_odds d__law_take d__law_heaps d__law_alike d_joined d_logs_of d__law_logs d_cuts_of d_heaps_of d__law_draws y_range y_sum y_len y_tuple _ (spL_to hP)
end
end
end K87
namespace K87
open PySem PySem.Spec PyProof.Rows L2 DL

noncomputable def c_is_number (value : D) (least : D) (most : D) : O (D) := Y.fin (fun _ => .none) (S := Unit) (B := Empty) (Y.of (O.andV (O.un (isT PyData.isInt) (O.ok value)) (O.andV (O.notV (O.un (isT PyData.isBool) (O.ok value))) (O.chain leD leD (O.ok least) (O.ok value) (O.ok most)))) fun d1 => Y.ret d1)
theorem cl_is_number (value : D) (least : D) (most : D) : Cok (F_is_number [.dat value, .dat least, .dat most]) (c_is_number value least most) := by
  unfold F_is_number c_is_number
  refine cok_d (as := [.dat value, .dat least, .dat most]) (sn := (fun _ => [some (.dat value), some (.dat least), some (.dat most)])) ?_ ⟨rfl, Nat.le_of_ble_eq_true rfl⟩ (by intro _; rfl)
  refine r_start (ρ' := [some (.dat value), some (.dat least), some (.dat most)]) rfl ?_
  unfold m_is_number
  exact (r_last (r_ret (ev_andV (ev_un (ev_val rfl)) (ev_andV (ev_notV (ev_un (ev_val rfl))) (ev_chain (ev_val rfl) (ev_val rfl) (ev_val rfl)))) (by rfl) (fun _ => ⟨_, rfl, rfl⟩)))
noncomputable def c_logs_of (heap : D) : O (D) := Y.fin (fun _ => .none) (S := Unit) (B := Empty) (unp2 .bad heap fun top rows => (Y.of (O.bin addD (O.bin mulID (O.ok rows) (O.ok top)) (O.bin fdivD (O.bin mulID (O.ok rows) (O.bin subD (O.ok rows) (O.ok (.int 1)))) (O.ok (.int 2)))) fun d1 => Y.ret d1))
theorem cl_logs_of (heap : D) : Cok (F_logs_of [.dat heap]) (c_logs_of heap) := by
  unfold F_logs_of c_logs_of
  refine cok_d (as := [.dat heap]) (sn := (fun _ => [some (.dat heap), none, none])) ?_ ⟨rfl, Nat.le_of_ble_eq_true rfl⟩ (by intro _; rfl)
  refine r_start (ρ' := [some (.dat heap), none, none]) rfl ?_
  unfold m_logs_of
  exact (r_asgV (ρ' := [some (.dat heap), none, none]) rfl (rel_unp2 (fun dd => dd) heap (fun top rows => (r_tg (ρ' := [some (.dat heap), some (.dat top), some (.dat rows)]) rfl (r_last (r_ret (ev_bin (ev_bin (ev_val rfl) (ev_val rfl)) (ev_bin (ev_bin (ev_val rfl) (ev_bin (ev_val rfl) (ev_ret _))) (ev_ret _))) (by rfl) (fun _ => ⟨_, rfl, rfl⟩)))))))
noncomputable def c_is_heap (value : D) : O (D) := Y.fin (fun _ => .none) (S := Unit) (B := Empty) (Y.of (O.or (O.notB (O.tru (O.un (isT PyData.isTuple) (O.ok value)))) (O.or (O.asB (O.bin neD (O.un lenD (O.ok value)) (O.ok (.int 2)))) (O.notB (O.tru (O.ge false (O.items (O.ok value)) (fun d1 => (O.some' (c_is_number d1 (.int 1) k_MOST_LOGS)))))))) fun t2 => if t2 = true then (Y.ret (.bool false)) else (Y.of (O.bin leD (c_logs_of value) (O.ok k_MOST_LOGS)) fun d3 => Y.ret d3))
theorem cl_is_heap (value : D) : Cok (F_is_heap [.dat value]) (c_is_heap value) := by
  unfold F_is_heap c_is_heap
  refine cok_d (as := [.dat value]) (sn := (fun _ => [some (.dat value), none])) ?_ ⟨rfl, Nat.le_of_ble_eq_true rfl⟩ (by intro _; rfl)
  refine r_start (ρ' := [some (.dat value), none]) rfl ?_
  unfold m_is_heap
  exact (r_if (ev_or (ev_notB (ev_tru (ev_un (ev_val rfl)))) (ev_or (ev_asB (ev_bin (ev_un (ev_val rfl)) (ev_ret _))) (ev_notB (ev_tru (ev_ge (ev_items (ev_val rfl)) rfl rfl (fun d1 => (lct (ρ1 := [some (.dat value), some (.dat d1)]) rfl (ev_ret _) (ev_callM (ev_cdatV rfl (ev_cdatV rfl (ev_cdatV rfl (ev_cnil (ev_callK (as := [.dat d1, .dat (.int 1), .dat k_MOST_LOGS]) (cl_is_number d1 (.int 1) k_MOST_LOGS))))))) rfl rfl))))))) (by rfl) (r_retV (ρ' := [some (.dat value), none]) rfl ⟨_, rfl, rfl⟩) (r_nxs (r_last (r_ret (ev_bin (ev_callM (ev_cdatV rfl (ev_cnil (ev_callK (as := [.dat value]) (cl_logs_of value))))) (ev_ret _)) (by rfl) (fun _ => ⟨_, rfl, rfl⟩)))))
noncomputable def c_check_logs (n : D) : O (D) := Y.fin (fun _ => .none) (S := Unit) (B := Empty) (Y.of (O.notB (O.tru (c_is_number n (.int 1) k_MOST_LOGS))) fun t1 => if t1 = true then (Y.exc "OutOfRange") else (Y.nx ()))
theorem cl_check_logs (n : D) : Cok (F_check_logs [.dat n]) (c_check_logs n) := by
  unfold F_check_logs c_check_logs
  refine cok_d (as := [.dat n]) (sn := (fun _ => [some (.dat n)])) ?_ ⟨rfl, Nat.le_of_ble_eq_true rfl⟩ (by intro _; rfl)
  refine r_start (ρ' := [some (.dat n)]) rfl ?_
  unfold m_check_logs
  exact (r_last (r_if (ev_notB (ev_tru (ev_callM (ev_cdatV rfl (ev_cdatV rfl (ev_cdatV rfl (ev_cnil (ev_callK (as := [.dat n, .dat (.int 1), .dat k_MOST_LOGS]) (cl_is_number n (.int 1) k_MOST_LOGS))))))))) (by rfl) (r_raise (by rfl)) (r_nxs (r_nx rfl))))
noncomputable def c_heaps_of (n : D) : O (D) := Y.fin (fun _ => .none) (S := Unit) (B := Empty) (Y.of (c_check_logs n) fun _ => ((Y.whl (fun (s1 : List D × D) => match s1 with | (found, rows) => (O.asB (O.bin leD (O.bin mulID (O.ok rows) (O.bin addD (O.ok rows) (O.ok (.int 1)))) (O.bin mulID (O.ok (.int 2)) (O.ok n))))) (fun (s1 : List D × D) => match s1 with | (found, rows) => (Y.of (O.bin subD (O.ok n) (O.bin fdivD (O.bin mulID (O.ok rows) (O.bin subD (O.ok rows) (O.ok (.int 1)))) (O.ok (.int 2)))) fun rest => (Y.then' (Y.of (O.asB (O.bin eqD (O.bin modD (O.ok rest) (O.ok rows)) (O.ok (.int 0)))) fun t3 => if t3 = true then (Y.of ((O.tup (O.cons (O.bin fdivD (O.ok rest) (O.ok rows)) (O.cons (O.ok rows) (O.ok [])))).bind fun d4 => O.app found d4) fun found => (Y.nx found)) else (Y.nx found)) (fun (found : List D) => (Y.of ((O.ok (.int 1)).bind fun e5 => O.lift ((intD0 fun i j => i + j) rows e5)) fun rows => (Y.nx (found, rows))))))) ([], (.int 1))).then' (fun (s1 : List D × D) => match s1 with | (found, rows) => (Y.of (O.un tupOf (O.ok (.list found))) fun d6 => Y.ret d6))))
theorem cl_heaps_of (n : D) : Cok (F_heaps_of [.dat n]) (c_heaps_of n) := by
  unfold F_heaps_of c_heaps_of
  refine cok_d (as := [.dat n]) (sn := (fun _ => [some (.dat n), none, none, none])) ?_ ⟨rfl, Nat.le_of_ble_eq_true rfl⟩ (by intro _; rfl)
  refine r_start (ρ' := [some (.dat n), none, none, none]) rfl ?_
  unfold m_heaps_of
  exact (r_drop (ev_callM (ev_cdatV rfl (ev_cnil (ev_callK (as := [.dat n]) (cl_check_logs n))))) (by rfl) (fun _ => (r_setFV (ρ' := [some (.dat n), none, none, none]) (c := .lst []) rfl (r_setK (ρ' := [some (.dat n), some (.mut true (.lst [])), none, none]) rfl rfl (r_asgV (ρ' := [some (.dat n), some (.mut true (.lst [])), none, none]) rfl (r_tg (ρ' := [some (.dat n), some (.mut true (.lst [])), some (.dat (.int 1)), none]) rfl (r_assoc (r_fgt (ρ' := [some (.dat n), some (.mut true (.lst [])), some (.dat (.int 1)), none]) rfl (r_assoc (r_whl (st := (fun (s1 : List D × D) => [some (.dat n), some (.mut true (.lst s1.1)), some (.dat s1.2), none])) ([], (.int 1)) rfl (fun ⟨found, rows⟩ => (by rfl)) (fun ⟨found, rows⟩ => (ev_asB (ev_bin (ev_bin (ev_val rfl) (ev_bin (ev_val rfl) (ev_ret _))) (ev_bin (ev_ret _) (ev_val rfl))))) (fun ⟨found, rows⟩ => (r_assoc (r_asg (ev_bin (ev_val rfl) (ev_bin (ev_bin (ev_val rfl) (ev_bin (ev_val rfl) (ev_ret _))) (ev_ret _))) (by rfl) (fun rest => (r_tg (ρ' := [some (.dat n), some (.mut true (.lst found)), some (.dat rows), some (.dat rest)]) rfl (r_assoc (r_join (st := (fun (s2 : List D) => [some (.dat n), some (.mut true (.lst s2)), some (.dat rows), some (.dat rest)])) (r_last (r_if (ev_asB (ev_bin (ev_bin (ev_val rfl) (ev_val rfl)) (ev_ret _))) (by rfl) (r_dropX (evx_app (b := true) (ds := found) (ev_tup (ev_cons (ev_bin (ev_val rfl) (ev_val rfl)) (ev_cons (ev_val rfl) (ev_ret _)))) rfl (by rfl)) (fun found => (r_set (ρ' := [some (.dat n), some (.mut true (.lst found)), some (.dat rows), some (.dat rest)]) rfl (r_nx rfl)))) (r_nxs (r_nx rfl)))) (fun found => (r_aug (d := rows) rfl rfl (ev_ret _) (by rfl) (fun rows => (r_set (ρ' := [some (.dat n), some (.mut true (.lst found)), some (.dat rows), some (.dat rest)]) rfl (r_last (r_fgt (ρ' := [some (.dat n), some (.mut true (.lst found)), some (.dat rows), none]) rfl (r_nx rfl)))))))))))))) (fun ⟨found, rows⟩ => (r_fgt (ρ' := [some (.dat n), some (.mut true (.lst found)), none, none]) rfl (r_last (r_ret (ev_un (ev_val rfl)) (by rfl) (fun _ => ⟨_, rfl, rfl⟩)))))))))))))))
noncomputable def c_tallest_of (n : D) : O (D) := Y.fin (fun _ => .none) (S := Unit) (B := Empty) (Y.of (O.bin ixD (c_heaps_of n) (O.ok (.int (-1)))) fun d1 => Y.ret d1)
theorem cl_tallest_of (n : D) : Cok (F_tallest_of [.dat n]) (c_tallest_of n) := by
  unfold F_tallest_of c_tallest_of
  refine cok_d (as := [.dat n]) (sn := (fun _ => [some (.dat n)])) ?_ ⟨rfl, Nat.le_of_ble_eq_true rfl⟩ (by intro _; rfl)
  refine r_start (ρ' := [some (.dat n)]) rfl ?_
  unfold m_tallest_of
  exact (r_last (r_ret (ev_bin (ev_callM (ev_cdatV rfl (ev_cnil (ev_callK (as := [.dat n]) (cl_heaps_of n))))) (ev_val rfl)) (by rfl) (fun _ => ⟨_, rfl, rfl⟩)))
noncomputable def c_joined (upper : D) (lower : D) : O (D) := Y.fin (fun _ => .none) (S := Unit) (B := Empty) (Y.of (O.asB (O.bin neD (O.bin addD (O.bin ixD (O.ok upper) (O.ok (.int 0))) (O.bin ixD (O.ok upper) (O.ok (.int 1)))) (O.bin ixD (O.ok lower) (O.ok (.int 0))))) fun t1 => if t1 = true then (Y.ret .none) else (Y.of (O.tup (O.cons (O.bin ixD (O.ok upper) (O.ok (.int 0))) (O.cons (O.bin addD (O.bin ixD (O.ok upper) (O.ok (.int 1))) (O.bin ixD (O.ok lower) (O.ok (.int 1)))) (O.ok [])))) fun d2 => Y.ret d2))
theorem cl_joined (upper : D) (lower : D) : Cok (F_joined [.dat upper, .dat lower]) (c_joined upper lower) := by
  unfold F_joined c_joined
  refine cok_d (as := [.dat upper, .dat lower]) (sn := (fun _ => [some (.dat upper), some (.dat lower)])) ?_ ⟨rfl, Nat.le_of_ble_eq_true rfl⟩ (by intro _; rfl)
  refine r_start (ρ' := [some (.dat upper), some (.dat lower)]) rfl ?_
  unfold m_joined
  exact (r_if (ev_asB (ev_bin (ev_bin (ev_bin (ev_val rfl) (ev_ret _)) (ev_bin (ev_val rfl) (ev_ret _))) (ev_bin (ev_val rfl) (ev_ret _)))) (by rfl) (r_retV (ρ' := [some (.dat upper), some (.dat lower)]) rfl ⟨_, rfl, rfl⟩) (r_nxs (r_last (r_ret (ev_tup (ev_cons (ev_bin (ev_val rfl) (ev_ret _)) (ev_cons (ev_bin (ev_bin (ev_val rfl) (ev_ret _)) (ev_bin (ev_val rfl) (ev_ret _))) (ev_ret _)))) (by rfl) (fun _ => ⟨_, rfl, rfl⟩)))))
noncomputable def c_cuts_of (heap : D) : O (D) := Y.fin (fun _ => .none) (S := Unit) (B := Empty) (unp2 .bad heap fun top rows => (Y.of (O.un tupOf (O.cell (O.lc (O.rng2 (O.cons (O.ok (.int 1)) (O.cons (O.ok rows) (O.ok [])))) (fun d1 => (O.some' (O.tup (O.cons (O.ok (.tuple [top, d1])) (O.cons (O.tup (O.cons (O.bin addD (O.ok top) (O.ok d1)) (O.cons (O.bin subD (O.ok rows) (O.ok d1)) (O.ok [])))) (O.ok []))))))))) fun d2 => Y.ret d2))
theorem cl_cuts_of (heap : D) : Cok (F_cuts_of [.dat heap]) (c_cuts_of heap) := by
  unfold F_cuts_of c_cuts_of
  refine cok_d (as := [.dat heap]) (sn := (fun _ => [some (.dat heap), none, none, none])) ?_ ⟨rfl, Nat.le_of_ble_eq_true rfl⟩ (by intro _; rfl)
  refine r_start (ρ' := [some (.dat heap), none, none, none]) rfl ?_
  unfold m_cuts_of
  exact (r_asgV (ρ' := [some (.dat heap), none, none, none]) rfl (rel_unp2 (fun dd => dd) heap (fun top rows => (r_tg (ρ' := [some (.dat heap), some (.dat top), some (.dat rows), none]) rfl (r_last (r_ret (ev_un (ev_cell (ev_lc (ev_rng2 (ev_cons (ev_ret _) (ev_cons (ev_val rfl) (ev_ret _)))) rfl rfl (fun d1 => (lct (ρ1 := [some (.dat heap), some (.dat top), some (.dat rows), some (.dat d1)]) rfl (ev_ret _) (ev_tup (ev_cons (ev_val rfl) (ev_cons (ev_tup (ev_cons (ev_bin (ev_val rfl) (ev_val rfl)) (ev_cons (ev_bin (ev_val rfl) (ev_val rfl)) (ev_ret _)))) (ev_ret _)))) rfl rfl))))) (by rfl) (fun _ => ⟨_, rfl, rfl⟩)))))))
noncomputable def c_heaps_to (n : D) : O (D) := Y.fin (fun _ => .none) (S := Unit) (B := Empty) (Y.of (O.notB (O.tru (c_is_number n (.int 0) k_MOST_LOGS))) fun t1 => if t1 = true then (Y.exc "OutOfRange") else ((Y.whl (fun (s2 : D × D) => match s2 with | (found, rows) => (O.asB (O.bin leD (O.bin mulID (O.ok rows) (O.bin addD (O.ok rows) (O.ok (.int 1)))) (O.bin mulID (O.ok (.int 2)) (O.ok n))))) (fun (s2 : D × D) => match s2 with | (found, rows) => (Y.of ((O.bin fdivD (O.bin subD (O.ok n) (O.bin fdivD (O.bin mulID (O.ok rows) (O.bin subD (O.ok rows) (O.ok (.int 1)))) (O.ok (.int 2)))) (O.ok rows)).bind fun e4 => O.lift ((intD0 fun i j => i + j) found e4)) fun found => (Y.of ((O.ok (.int 1)).bind fun e3 => O.lift ((intD0 fun i j => i + j) rows e3)) fun rows => (Y.nx (found, rows))))) ((.int 0), (.int 1))).then' (fun (s2 : D × D) => match s2 with | (found, rows) => (Y.ret found))))
theorem cl_heaps_to (n : D) : Cok (F_heaps_to [.dat n]) (c_heaps_to n) := by
  unfold F_heaps_to c_heaps_to
  refine cok_d (as := [.dat n]) (sn := (fun _ => [some (.dat n), none, none])) ?_ ⟨rfl, Nat.le_of_ble_eq_true rfl⟩ (by intro _; rfl)
  refine r_start (ρ' := [some (.dat n), none, none]) rfl ?_
  unfold m_heaps_to
  exact (r_if (ev_notB (ev_tru (ev_callM (ev_cdatV rfl (ev_cdatV rfl (ev_cdatV rfl (ev_cnil (ev_callK (as := [.dat n, .dat (.int 0), .dat k_MOST_LOGS]) (cl_is_number n (.int 0) k_MOST_LOGS))))))))) (by rfl) (r_raise (by rfl)) (r_nxs (r_asgV (ρ' := [some (.dat n), none, none]) rfl (r_tg (ρ' := [some (.dat n), some (.dat (.int 0)), none]) rfl (r_asgV (ρ' := [some (.dat n), some (.dat (.int 0)), none]) rfl (r_tg (ρ' := [some (.dat n), some (.dat (.int 0)), some (.dat (.int 1))]) rfl (r_assoc (r_whl (st := (fun (s2 : D × D) => [some (.dat n), some (.dat s2.1), some (.dat s2.2)])) ((.int 0), (.int 1)) rfl (fun ⟨found, rows⟩ => (by rfl)) (fun ⟨found, rows⟩ => (ev_asB (ev_bin (ev_bin (ev_val rfl) (ev_bin (ev_val rfl) (ev_ret _))) (ev_bin (ev_ret _) (ev_val rfl))))) (fun ⟨found, rows⟩ => (r_aug (d := found) rfl rfl (ev_bin (ev_bin (ev_val rfl) (ev_bin (ev_bin (ev_val rfl) (ev_bin (ev_val rfl) (ev_ret _))) (ev_ret _))) (ev_val rfl)) (by rfl) (fun found => (r_set (ρ' := [some (.dat n), some (.dat found), some (.dat rows)]) rfl (r_last (r_aug (d := rows) rfl rfl (ev_ret _) (by rfl) (fun rows => (r_set (ρ' := [some (.dat n), some (.dat found), some (.dat rows)]) rfl (r_nx rfl))))))))) (fun ⟨found, rows⟩ => (r_fgt (ρ' := [some (.dat n), some (.dat found), none]) rfl (r_last (r_retV (ρ' := [some (.dat n), some (.dat found), none]) rfl ⟨_, rfl, rfl⟩))))))))))))
noncomputable def c__law_draws (script : D) : O (Cell) := Y.finF (S := Unit) (B := Empty) (Y.of (O.items (O.ok script)) fun ds => (Y.forL (fun (cell : D) (draws : List D) => (Y.of (O.un absD (O.ok cell)) fun number => (Y.then' (Y.of (O.asB (O.bin ltD (O.ok number) (O.bin powD (O.ok (.int 10)) (O.ok (.int 18))))) fun t4 => if t4 = true then (Y.of (O.bin modD (O.un intOfD (O.bin addD (O.bin mulID (O.ok number) (O.ok (.int 48271))) (O.ok (.int 11)))) (O.ok (.int 2147483647))) fun first => (Y.of ((O.bin modD (O.un intOfD (O.bin addD (O.bin mulID (O.ok first) (O.ok (.int 69621))) (O.ok number))) (O.ok (.int 2147483629))).bind fun d5 => O.app draws d5) fun draws => (Y.of ((O.bin modD (O.un intOfD (O.bin addD (O.ok first) (O.bin fdivD (O.ok number) (O.ok (.int 7))))) (O.ok (.int 1000003))).bind fun d6 => O.app draws d6) fun draws => (Y.nx (draws, (.int 0)))))) else (Y.nx (draws, number))) (fun (s3 : List D × D) => match s3 with | (draws, number) => (Y.of (O.rng1 (O.cons (O.ok (.int 60)) (O.ok []))) fun ds => (Y.forL (fun (k : D) (s7 : List D × D) => match s7 with | (draws, number) => (Y.of (O.asB (O.bin gtD (O.ok number) (O.ok (.int 0)))) fun t9 => if t9 = true then (Y.of ((O.bin modD (O.un intOfD (O.ok number)) (O.ok (.int 997))).bind fun d10 => O.app draws d10) fun draws => (Y.of (O.bin fdivD (O.ok number) (O.ok (.int 997))) fun number => (Y.nx (draws, number)))) else (Y.nx (draws, number)))) ds (draws, number)).then' (fun (s7 : List D × D) => match s7 with | (draws, number) => (Y.nx draws))))))) ds []).then' (fun draws => (Y.then' (Y.of (O.asB (O.bin gtD (O.un lenD (O.ok script)) (O.ok (.int 0)))) fun t12 => if t12 = true then (Y.of (O.bin addD (O.ok (.int 1)) (O.un absD (O.bin ixD (O.ok script) (O.ok (.int 0))))) fun seed => (Y.nx seed)) else (Y.nx (.int 1))) (fun (seed : D) => (Y.of (O.rng1 (O.cons (O.ok (.int 900)) (O.ok []))) fun ds => (Y.forL (fun (k : D) (s13 : List D × D) => match s13 with | (draws, seed) => (Y.of (O.bin modD (O.un intOfD (O.bin addD (O.bin mulID (O.ok seed) (O.ok (.int 48271))) (O.ok (.int 69621)))) (O.ok (.int 2147483647))) fun seed => (Y.of ((O.bin fdivD (O.ok seed) (O.ok (.int 5))).bind fun d15 => O.app draws d15) fun draws => (Y.nx (draws, seed))))) ds (draws, seed)).then' (fun (s13 : List D × D) => match s13 with | (draws, seed) => (Y.of (O.unF revF (O.ok (.list draws))) fun d16 => Y.ret d16)))))))
theorem cl__law_draws (script : D) : CokF (F__law_draws [.dat script]) (c__law_draws script) := by
  unfold F__law_draws c__law_draws
  refine cok_f (as := [.dat script]) (sn := (fun _ => [some (.dat script), none, none, none, none, none, none])) ?_ ⟨rfl, Nat.le_of_ble_eq_true rfl⟩
  refine r_start (ρ' := [some (.dat script), none, none, none, none, none, none]) rfl ?_
  unfold m__law_draws
  exact (r_setFV (ρ' := [some (.dat script), none, none, none, none, none, none]) (c := .lst []) rfl (r_setK (ρ' := [some (.dat script), some (.mut true (.lst [])), none, none, none, none, none]) rfl rfl (r_assoc (r_fgt (ρ' := [some (.dat script), some (.mut true (.lst [])), none, none, none, none, none]) rfl (r_for (st := (fun (s1 : List D) => [some (.dat script), some (.mut true (.lst s1)), none, none, none, none, none])) [] (ev_items (ev_val rfl)) (by rfl) rfl (fun cell draws => (r_tg (ρ' := [some (.dat script), some (.mut true (.lst draws)), some (.dat cell), none, none, none, none]) rfl (r_assoc (r_asg (ev_un (ev_val rfl)) (by rfl) (fun number => (r_tg (ρ' := [some (.dat script), some (.mut true (.lst draws)), some (.dat cell), some (.dat number), none, none, none]) rfl (r_assoc (r_join (st := (fun (s3 : List D × D) => [some (.dat script), some (.mut true (.lst s3.1)), some (.dat cell), some (.dat s3.2), none, none, none])) (r_if (ev_asB (ev_bin (ev_val rfl) (ev_bin (ev_ret _) (ev_ret _)))) (by rfl) (r_assoc (r_asg (ev_bin (ev_un (ev_bin (ev_bin (ev_val rfl) (ev_ret _)) (ev_ret _))) (ev_ret _)) (by rfl) (fun first => (r_tg (ρ' := [some (.dat script), some (.mut true (.lst draws)), some (.dat cell), some (.dat number), some (.dat first), none, none]) rfl (r_assoc (r_dropX (evx_app (b := true) (ds := draws) (ev_bin (ev_un (ev_bin (ev_bin (ev_val rfl) (ev_ret _)) (ev_val rfl))) (ev_ret _)) rfl (by rfl)) (fun draws => (r_set (ρ' := [some (.dat script), some (.mut true (.lst draws)), some (.dat cell), some (.dat number), some (.dat first), none, none]) rfl (r_assoc (r_dropX (evx_app (b := true) (ds := draws) (ev_bin (ev_un (ev_bin (ev_val rfl) (ev_bin (ev_val rfl) (ev_ret _)))) (ev_ret _)) rfl (by rfl)) (fun draws => (r_set (ρ' := [some (.dat script), some (.mut true (.lst draws)), some (.dat cell), some (.dat number), some (.dat first), none, none]) rfl (r_asgV (ρ' := [some (.dat script), some (.mut true (.lst draws)), some (.dat cell), some (.dat number), some (.dat first), none, none]) rfl (r_tg (ρ' := [some (.dat script), some (.mut true (.lst draws)), some (.dat cell), some (.dat (.int 0)), some (.dat first), none, none]) rfl (r_last (r_fgt (ρ' := [some (.dat script), some (.mut true (.lst draws)), some (.dat cell), some (.dat (.int 0)), none, none, none]) rfl (r_nx rfl))))))))))))))))) (r_nxs (r_last (r_fgt (ρ' := [some (.dat script), some (.mut true (.lst draws)), some (.dat cell), some (.dat number), none, none, none]) rfl (r_nx rfl))))) (fun ⟨draws, number⟩ => (r_assoc (r_fgt (ρ' := [some (.dat script), some (.mut true (.lst draws)), some (.dat cell), some (.dat number), none, none, none]) rfl (r_assoc (r_for (st := (fun (s7 : List D × D) => [some (.dat script), some (.mut true (.lst s7.1)), some (.dat cell), some (.dat s7.2), none, none, none])) (draws, number) (ev_rng1 (ev_cons (ev_ret _) (ev_ret _))) (by rfl) rfl (fun k ⟨draws, number⟩ => (r_tg (ρ' := [some (.dat script), some (.mut true (.lst draws)), some (.dat cell), some (.dat number), none, some (.dat k), none]) rfl (r_if (ev_asB (ev_bin (ev_val rfl) (ev_ret _))) (by rfl) (r_assoc (r_dropX (evx_app (b := true) (ds := draws) (ev_bin (ev_un (ev_val rfl)) (ev_ret _)) rfl (by rfl)) (fun draws => (r_set (ρ' := [some (.dat script), some (.mut true (.lst draws)), some (.dat cell), some (.dat number), none, some (.dat k), none]) rfl (r_asg (ev_bin (ev_val rfl) (ev_ret _)) (by rfl) (fun number => (r_tg (ρ' := [some (.dat script), some (.mut true (.lst draws)), some (.dat cell), some (.dat number), none, some (.dat k), none]) rfl (r_last (r_fgt (ρ' := [some (.dat script), some (.mut true (.lst draws)), some (.dat cell), some (.dat number), none, none, none]) rfl (r_nx rfl)))))))))) (r_nxs (r_last (r_fgt (ρ' := [some (.dat script), some (.mut true (.lst draws)), some (.dat cell), some (.dat number), none, none, none]) rfl (r_nx rfl))))))) (fun ⟨draws, number⟩ => (r_fgt (ρ' := [some (.dat script), some (.mut true (.lst draws)), some (.dat cell), none, none, none, none]) rfl (r_last (r_fgt (ρ' := [some (.dat script), some (.mut true (.lst draws)), none, none, none, none, none]) rfl (r_nx rfl)))))))))))))))))) (fun draws => (r_asgV (ρ' := [some (.dat script), some (.mut true (.lst draws)), none, none, none, none, none]) rfl (r_tg (ρ' := [some (.dat script), some (.mut true (.lst draws)), none, none, none, none, some (.dat (.int 1))]) rfl (r_join (st := (fun (s11 : D) => [some (.dat script), some (.mut true (.lst draws)), none, none, none, none, some (.dat s11)])) (r_last (r_if (ev_asB (ev_bin (ev_un (ev_val rfl)) (ev_ret _))) (by rfl) (r_asg (ev_bin (ev_ret _) (ev_un (ev_bin (ev_val rfl) (ev_ret _)))) (by rfl) (fun seed => (r_tg (ρ' := [some (.dat script), some (.mut true (.lst draws)), none, none, none, none, some (.dat seed)]) rfl (r_nx rfl)))) (r_nxs (r_nx rfl)))) (fun seed => (r_assoc (r_fgt (ρ' := [some (.dat script), some (.mut true (.lst draws)), none, none, none, none, some (.dat seed)]) rfl (r_assoc (r_for (st := (fun (s13 : List D × D) => [some (.dat script), some (.mut true (.lst s13.1)), none, none, none, none, some (.dat s13.2)])) (draws, seed) (ev_rng1 (ev_cons (ev_ret _) (ev_ret _))) (by rfl) rfl (fun k ⟨draws, seed⟩ => (r_tg (ρ' := [some (.dat script), some (.mut true (.lst draws)), none, none, none, some (.dat k), some (.dat seed)]) rfl (r_assoc (r_asg (ev_bin (ev_un (ev_bin (ev_bin (ev_val rfl) (ev_ret _)) (ev_ret _))) (ev_ret _)) (by rfl) (fun seed => (r_tg (ρ' := [some (.dat script), some (.mut true (.lst draws)), none, none, none, some (.dat k), some (.dat seed)]) rfl (r_dropX (evx_app (b := true) (ds := draws) (ev_bin (ev_val rfl) (ev_ret _)) rfl (by rfl)) (fun draws => (r_set (ρ' := [some (.dat script), some (.mut true (.lst draws)), none, none, none, some (.dat k), some (.dat seed)]) rfl (r_last (r_fgt (ρ' := [some (.dat script), some (.mut true (.lst draws)), none, none, none, none, some (.dat seed)]) rfl (r_nx rfl)))))))))))) (fun ⟨draws, seed⟩ => (r_fgt (ρ' := [some (.dat script), some (.mut true (.lst draws)), none, none, none, none, none]) rfl (r_last (r_retF (ev_unF (ev_val rfl)) (by rfl) (fun _ => ⟨_, rfl, rfl⟩)))))))))))))))))))
noncomputable def c__law_take (draws : List D) (bound : D) : O (D × List D) := Y.finR (fun s => (.none, s)) (S := List D) (B := Empty) (Y.of (O.asB (O.bin eqD (O.un lenD (O.ok (.list draws))) (O.ok (.int 0)))) fun t1 => if t1 = true then (Y.ret ((.int 0), draws)) else (Y.of ((O.pop draws).bind fun t3 => ((O.lift (intOfD t3.1)).bind fun t4 => ((O.lift (modD t4 bound)).bind fun t5 => (O.ok (t5, t3.2))))) fun (x2 : D × List D) => Y.ret (x2.1, x2.2)))
theorem cl__law_take (draws : List D) (bound : D) : CokR (F__law_take [.ref (.lst draws), .dat bound]) (c__law_take draws bound) (fun r => .ret r.1 ((fun (s : List D) => [.lst s]) r.2)) := by
  unfold F__law_take c__law_take
  refine cok_r (e := fun s => s) (as := [.ref (.lst draws), .dat bound]) (vo := (fun (s : List D) => [.lst s])) (sn := (fun s => [some (.mut false (.lst s)), some (.dat bound)])) ?_ ⟨rfl, Nat.le_of_ble_eq_true rfl⟩ (by intro _; rfl)
  refine r_start (ρ' := [some (.mut false (.lst draws)), some (.dat bound)]) rfl ?_
  unfold m__law_take
  exact (r_if (ev_asB (ev_bin (ev_un (ev_val rfl)) (ev_ret _))) (by trivial) (r_retV (ρ' := [some (.mut false (.lst draws)), some (.dat bound)]) rfl ⟨_, rfl, rfl⟩) (r_nxs (r_last (r_retX (evx_top (v := fun (z : D × List D) => z.1) (s := fun (z : D × List D) => [some (.mut false (.lst z.2)), some (.dat bound)]) (evx_assoc (evx_assoc (evx_bind (evx_pop (b := false) (ds := draws) rfl) (fun t3 => (evx_liftB (by trivial) (fun t4 => (evx_assoc (evx_val (ρ' := [some (.mut false (.lst t3.2)), some (.dat bound)]) rfl (evx_liftB (by trivial) (fun t5 => (evx_ret rfl rfl)))))))))))) (fun _ => ⟨_, rfl, rfl⟩)))))
noncomputable def b__law_alike (R : D → D → O (D)) (found : D) (due : D) : O (D) := Y.fin (fun _ => .none) (S := Unit) (B := Empty) (Y.of (O.or (O.tru (O.un (isT PyData.isList) (O.ok due))) (O.tru (O.un (isT PyData.isTuple) (O.ok due)))) fun t1 => if t1 = true then (Y.of (O.or (O.asB (O.bin neD (O.un (isT PyData.isList) (O.ok found)) (O.un (isT PyData.isList) (O.ok due)))) (O.asB (O.bin neD (O.un (isT PyData.isTuple) (O.ok found)) (O.un (isT PyData.isTuple) (O.ok due))))) fun t2 => if t2 = true then (Y.ret (.bool false)) else (Y.of (O.andV (O.bin eqD (O.un lenD (O.ok found)) (O.un lenD (O.ok due))) (O.bin eqD (O.cell (O.lc (O.rng1 (O.cons (O.un lenD (O.ok due)) (O.ok []))) (fun d3 => (O.when (O.notB (O.tru ((O.bin ixD (O.ok found) (O.ok d3)).bind fun a4 => ((O.bin ixD (O.ok due) (O.ok d3)).bind fun a5 => (R a4 a5))))) (O.ok d3))))) (O.ok (.list [])))) fun d6 => Y.ret d6)) else (Y.of (O.asB (O.bin isD (O.ok due) (O.ok .none))) fun t7 => if t7 = true then (Y.of (O.bin isD (O.ok found) (O.ok .none)) fun d8 => Y.ret d8) else (Y.of (O.or (O.tru (O.un (isT PyData.isBool) (O.ok due))) (O.tru (O.un (isT PyData.isBool) (O.ok found)))) fun t9 => if t9 = true then (Y.of (O.andV (O.un (isT PyData.isBool) (O.ok found)) (O.andV (O.un (isT PyData.isBool) (O.ok due)) (O.bin eqD (O.ok found) (O.ok due)))) fun d10 => Y.ret d10) else (Y.of (O.tru (O.un (isT PyData.isInt) (O.ok due))) fun t11 => if t11 = true then (Y.of (O.andV (O.un (isT PyData.isInt) (O.ok found)) (O.bin eqD (O.ok found) (O.ok due))) fun d12 => Y.ret d12) else (Y.of (O.andV (O.un (isT PyData.isStr) (O.ok found)) (O.bin eqD (O.ok found) (O.ok due))) fun d13 => Y.ret d13)))))
noncomputable def c__law_alike : Nat → D → D → O (D)
  | 0 => fun _ _ => .bad
  | k + 1 => b__law_alike (c__law_alike k)
theorem cl__law_alike : ∀ (k : Nat) (found : D) (due : D), Cok (recF 2 3 m__law_alike k [.dat found, .dat due]) (c__law_alike k found due)
  | 0, _, _ => trivial
  | k + 1, found, due => by
    have hR := cl__law_alike k
    show Cok (recF 2 3 m__law_alike (k + 1) [.dat found, .dat due]) (b__law_alike (c__law_alike k) found due)
    generalize c__law_alike k = R at hR ⊢
    unfold recF b__law_alike
    generalize recF 2 3 m__law_alike k = RF at hR ⊢
    refine cok_d (as := [.dat found, .dat due]) (sn := (fun _ => [some (.dat found), some (.dat due), none])) ?_ ⟨rfl, Nat.le_of_ble_eq_true rfl⟩ (by intro _; rfl)
    refine r_start (ρ' := [some (.dat found), some (.dat due), none]) rfl ?_
    unfold m__law_alike
    exact (r_if (ev_or (ev_tru (ev_un (ev_val rfl))) (ev_tru (ev_un (ev_val rfl)))) (by rfl) (r_assoc (r_if (ev_or (ev_asB (ev_bin (ev_un (ev_val rfl)) (ev_un (ev_val rfl)))) (ev_asB (ev_bin (ev_un (ev_val rfl)) (ev_un (ev_val rfl))))) (by rfl) (r_retV (ρ' := [some (.dat found), some (.dat due), none]) rfl ⟨_, rfl, rfl⟩) (r_nxs (r_ret (ev_andV (ev_bin (ev_un (ev_val rfl)) (ev_un (ev_val rfl))) (ev_bin (ev_cell (ev_lc (ev_rng1 (ev_cons (ev_un (ev_val rfl)) (ev_ret _))) rfl rfl (fun d3 => (lctw (ρ1 := [some (.dat found), some (.dat due), some (.dat d3)]) rfl (ev_notB (ev_tru (ev_callM (ev_cdat (ev_bin (ev_val rfl) (ev_val rfl)) fun a4 => ev_cdat (ev_bin (ev_val rfl) (ev_val rfl)) fun a5 => ev_cnil (ev_callK (as := [.dat a4, .dat a5]) (hR a4 a5)))))) (ev_val rfl) rfl rfl)))) (ev_val rfl))) (by rfl) (fun _ => ⟨_, rfl, rfl⟩))))) (r_nxs (r_if (ev_asB (ev_bin (ev_val rfl) (ev_ret _))) (by rfl) (r_ret (ev_bin (ev_val rfl) (ev_ret _)) (by rfl) (fun _ => ⟨_, rfl, rfl⟩)) (r_nxs (r_if (ev_or (ev_tru (ev_un (ev_val rfl))) (ev_tru (ev_un (ev_val rfl)))) (by rfl) (r_ret (ev_andV (ev_un (ev_val rfl)) (ev_andV (ev_un (ev_val rfl)) (ev_bin (ev_val rfl) (ev_val rfl)))) (by rfl) (fun _ => ⟨_, rfl, rfl⟩)) (r_nxs (r_if (ev_tru (ev_un (ev_val rfl))) (by rfl) (r_ret (ev_andV (ev_un (ev_val rfl)) (ev_bin (ev_val rfl) (ev_val rfl))) (by rfl) (fun _ => ⟨_, rfl, rfl⟩)) (r_nxs (r_last (r_ret (ev_andV (ev_un (ev_val rfl)) (ev_bin (ev_val rfl) (ev_val rfl))) (by rfl) (fun _ => ⟨_, rfl, rfl⟩)))))))))))
noncomputable def c__law_says (told : D) (due : D) : O (D) := Y.fin (fun _ => .none) (S := Unit) (B := Empty) (Y.of (O.andV (O.un (isT PyData.isBool) (O.ok told)) (O.bin eqD (O.ok told) (O.ok due))) fun d1 => Y.ret d1)
theorem cl__law_says (told : D) (due : D) : Cok (F__law_says [.dat told, .dat due]) (c__law_says told due) := by
  unfold F__law_says c__law_says
  refine cok_d (as := [.dat told, .dat due]) (sn := (fun _ => [some (.dat told), some (.dat due)])) ?_ ⟨rfl, Nat.le_of_ble_eq_true rfl⟩ (by intro _; rfl)
  refine r_start (ρ' := [some (.dat told), some (.dat due)]) rfl ?_
  unfold m__law_says
  exact (r_last (r_ret (ev_andV (ev_un (ev_val rfl)) (ev_bin (ev_val rfl) (ev_val rfl))) (by rfl) (fun _ => ⟨_, rfl, rfl⟩)))
noncomputable def c__law_told (which : D) (n : D) : O (D) := Y.fin (fun _ => .none) (S := Unit) (B := Empty) (Y.tryW RS W__law_word (fun x => x) (Y.of (O.asB (O.bin eqD (O.ok which) (O.ok (.int 0)))) fun t1 => if t1 = true then (Y.of (c_heaps_of n) fun d2 => Y.ret d2) else (Y.of (O.ife (O.asB (O.bin eqD (O.ok which) (O.ok (.int 1)))) (c_tallest_of n) (c_heaps_to n)) fun d3 => Y.ret d3)))
theorem cl__law_told (which : D) (n : D) : Cok (F__law_told [.dat which, .dat n]) (c__law_told which n) := by
  unfold F__law_told c__law_told
  refine cok_d (as := [.dat which, .dat n]) (sn := (fun _ => [some (.dat which), some (.dat n), none])) ?_ ⟨rfl, Nat.le_of_ble_eq_true rfl⟩ (by intro _; rfl)
  refine r_start (ρ' := [some (.dat which), some (.dat n), none]) rfl ?_
  unfold m__law_told
  exact (r_last (r_tryW (mk := fun x => x) (r_if (ev_asB (ev_bin (ev_val rfl) (ev_ret _))) (by exact ⟨Nat.le_of_ble_eq_true rfl, fun _ => ⟨_, rfl, rfl⟩⟩) (r_ret (ev_callM (ev_cdatV rfl (ev_cnil (ev_callK (as := [.dat n]) (cl_heaps_of n))))) (by exact ⟨Nat.le_of_ble_eq_true rfl, fun _ => ⟨_, rfl, rfl⟩⟩) (fun _ => ⟨_, rfl, rfl⟩)) (r_nxs (r_last (r_ret (ev_ife (ev_asB (ev_bin (ev_val rfl) (ev_ret _))) (ev_callM (ev_cdatV rfl (ev_cnil (ev_callK (as := [.dat n]) (cl_tallest_of n))))) (ev_callM (ev_cdatV rfl (ev_cnil (ev_callK (as := [.dat n]) (cl_heaps_to n)))))) (by exact ⟨Nat.le_of_ble_eq_true rfl, fun _ => ⟨_, rfl, rfl⟩⟩) (fun _ => ⟨_, rfl, rfl⟩)))))))
noncomputable def c__law_logs (top : D) (rows : D) : O (D) := Y.fin (fun _ => .none) (S := Unit) (B := Empty) (Y.of (O.un sumD (O.cell (O.lc (O.rng1 (O.cons (O.ok rows) (O.ok []))) (fun d1 => (O.some' (O.bin addD (O.ok top) (O.ok d1))))))) fun d2 => Y.ret d2)
theorem cl__law_logs (top : D) (rows : D) : Cok (F__law_logs [.dat top, .dat rows]) (c__law_logs top rows) := by
  unfold F__law_logs c__law_logs
  refine cok_d (as := [.dat top, .dat rows]) (sn := (fun _ => [some (.dat top), some (.dat rows), none])) ?_ ⟨rfl, Nat.le_of_ble_eq_true rfl⟩ (by intro _; rfl)
  refine r_start (ρ' := [some (.dat top), some (.dat rows), none]) rfl ?_
  unfold m__law_logs
  exact (r_last (r_ret (ev_un (ev_cell (ev_lc (ev_rng1 (ev_cons (ev_val rfl) (ev_ret _))) rfl rfl (fun d1 => (lct (ρ1 := [some (.dat top), some (.dat rows), some (.dat d1)]) rfl (ev_ret _) (ev_bin (ev_val rfl) (ev_val rfl)) rfl rfl))))) (by rfl) (fun _ => ⟨_, rfl, rfl⟩)))
noncomputable def c__law_heaps (n : D) : O (D) := Y.fin (fun _ => .none) (S := Unit) (B := Empty) (unp2 .bad (.tuple [(.int 0), (.int 1)]) fun steps rows => ((Y.whl (fun (s1 : List D × D × D) => match s1 with | (found, steps, rows) => (O.asB (O.bin geD (O.bin subD (O.ok n) (O.ok steps)) (O.ok rows)))) (fun (s1 : List D × D × D) => match s1 with | (found, steps, rows) => (Y.then' (Y.of (O.asB (O.bin eqD (O.bin mulID (O.bin fdivD (O.bin subD (O.ok n) (O.ok steps)) (O.ok rows)) (O.ok rows)) (O.bin subD (O.ok n) (O.ok steps)))) fun t3 => if t3 = true then (Y.of ((O.tup (O.cons (O.bin fdivD (O.bin subD (O.ok n) (O.ok steps)) (O.ok rows)) (O.cons (O.ok rows) (O.ok [])))).bind fun d4 => O.app found d4) fun found => (Y.nx found)) else (Y.nx found)) (fun (found : List D) => (Y.of (O.bin addD (O.ok steps) (O.ok rows)) fun steps => (Y.of (O.bin addD (O.ok rows) (O.ok (.int 1))) fun rows => (Y.nx (found, steps, rows))))))) ([], steps, rows)).then' (fun (s1 : List D × D × D) => match s1 with | (found, steps, rows) => (Y.of (O.un tupOf (O.ok (.list found))) fun d5 => Y.ret d5))))
theorem cl__law_heaps (n : D) : Cok (F__law_heaps [.dat n]) (c__law_heaps n) := by
  unfold F__law_heaps c__law_heaps
  refine cok_d (as := [.dat n]) (sn := (fun _ => [some (.dat n), none, none, none])) ?_ ⟨rfl, Nat.le_of_ble_eq_true rfl⟩ (by intro _; rfl)
  refine r_start (ρ' := [some (.dat n), none, none, none]) rfl ?_
  unfold m__law_heaps
  exact (r_setFV (ρ' := [some (.dat n), none, none, none]) (c := .lst []) rfl (r_setK (ρ' := [some (.dat n), some (.mut true (.lst [])), none, none]) rfl rfl (r_asgV (ρ' := [some (.dat n), some (.mut true (.lst [])), none, none]) rfl (rel_unp2 (fun dd => dd) (.tuple [(.int 0), (.int 1)]) (fun steps rows => (r_tg (ρ' := [some (.dat n), some (.mut true (.lst [])), some (.dat steps), some (.dat rows)]) rfl (r_assoc (r_whl (st := (fun (s1 : List D × D × D) => [some (.dat n), some (.mut true (.lst s1.1)), some (.dat s1.2.1), some (.dat s1.2.2)])) ([], steps, rows) rfl (fun ⟨found, steps, rows⟩ => (by rfl)) (fun ⟨found, steps, rows⟩ => (ev_asB (ev_bin (ev_bin (ev_val rfl) (ev_val rfl)) (ev_val rfl)))) (fun ⟨found, steps, rows⟩ => (r_join (st := (fun (s2 : List D) => [some (.dat n), some (.mut true (.lst s2)), some (.dat steps), some (.dat rows)])) (r_last (r_if (ev_asB (ev_bin (ev_bin (ev_bin (ev_bin (ev_val rfl) (ev_val rfl)) (ev_val rfl)) (ev_val rfl)) (ev_bin (ev_val rfl) (ev_val rfl)))) (by rfl) (r_dropX (evx_app (b := true) (ds := found) (ev_tup (ev_cons (ev_bin (ev_bin (ev_val rfl) (ev_val rfl)) (ev_val rfl)) (ev_cons (ev_val rfl) (ev_ret _)))) rfl (by rfl)) (fun found => (r_set (ρ' := [some (.dat n), some (.mut true (.lst found)), some (.dat steps), some (.dat rows)]) rfl (r_nx rfl)))) (r_nxs (r_nx rfl)))) (fun found => (r_asg (ev_bin (ev_val rfl) (ev_val rfl)) (by rfl) (fun steps => (r_tg (ρ' := [some (.dat n), some (.mut true (.lst found)), some (.dat steps), some (.dat rows)]) rfl (r_last (r_asg (ev_bin (ev_val rfl) (ev_ret _)) (by rfl) (fun rows => (r_tg (ρ' := [some (.dat n), some (.mut true (.lst found)), some (.dat steps), some (.dat rows)]) rfl (r_nx rfl))))))))))) (fun ⟨found, steps, rows⟩ => (r_fgt (ρ' := [some (.dat n), some (.mut true (.lst found)), none, none]) rfl (r_last (r_ret (ev_un (ev_val rfl)) (by rfl) (fun _ => ⟨_, rfl, rfl⟩)))))))))))))
noncomputable def c__law_odds (n : D) : O (D) := Y.fin (fun _ => .none) (S := Unit) (B := Empty) ((Y.whl (fun (n : D) => (O.asB (O.bin eqD (O.bin mulID (O.bin fdivD (O.ok n) (O.ok (.int 2))) (O.ok (.int 2))) (O.ok n)))) (fun (n : D) => (Y.of (O.bin fdivD (O.ok n) (O.ok (.int 2))) fun n => (Y.nx n))) n).then' (fun (n : D) => ((Y.whl (fun (s2 : List (Key × D) × D) => match s2 with | (found, part) => (O.asB (O.bin leD (O.bin mulID (O.ok part) (O.ok part)) (O.ok n)))) (fun (s2 : List (Key × D) × D) => match s2 with | (found, part) => (Y.then' (Y.of (O.asB (O.bin eqD (O.bin mulID (O.bin fdivD (O.ok n) (O.ok part)) (O.ok part)) (O.ok n))) fun t4 => if t4 = true then (Y.of ((O.ok (.bool true)).bind fun d7 => (O.ok part).bind fun j8 => O.putIx found j8 d7) fun found => (Y.of ((O.ok (.bool true)).bind fun d5 => (O.bin fdivD (O.ok n) (O.ok part)).bind fun j6 => O.putIx found j6 d5) fun found => (Y.nx found))) else (Y.nx found)) (fun (found : List (Key × D)) => (Y.of (O.bin addD (O.ok part) (O.ok (.int 2))) fun part => (Y.nx (found, part)))))) ([], (.int 1))).then' (fun (s2 : List (Key × D) × D) => match s2 with | (found, part) => (Y.of (O.un lenD (O.ok (cellD (.dK found)))) fun d9 => Y.ret d9)))))
theorem cl__law_odds (n : D) : Cok (F__law_odds [.dat n]) (c__law_odds n) := by
  unfold F__law_odds c__law_odds
  refine cok_d (as := [.dat n]) (sn := (fun _ => [some (.dat n), none, none])) ?_ ⟨rfl, Nat.le_of_ble_eq_true rfl⟩ (by intro _; rfl)
  refine r_start (ρ' := [some (.dat n), none, none]) rfl ?_
  unfold m__law_odds
  exact (r_whl (st := (fun (s1 : D) => [some (.dat s1), none, none])) n rfl (fun n => (by rfl)) (fun n => (ev_asB (ev_bin (ev_bin (ev_bin (ev_val rfl) (ev_ret _)) (ev_ret _)) (ev_val rfl)))) (fun n => (r_last (r_asg (ev_bin (ev_val rfl) (ev_ret _)) (by rfl) (fun n => (r_tg (ρ' := [some (.dat n), none, none]) rfl (r_nx rfl)))))) (fun n => (r_setFV (ρ' := [some (.dat n), none, none]) (c := .dK []) rfl (r_setK (ρ' := [some (.dat n), some (.mut true (.dK [])), none]) rfl rfl (r_asgV (ρ' := [some (.dat n), some (.mut true (.dK [])), none]) rfl (r_tg (ρ' := [some (.dat n), some (.mut true (.dK [])), some (.dat (.int 1))]) rfl (r_assoc (r_whl (st := (fun (s2 : List (Key × D) × D) => [some (.dat n), some (.mut true (.dK s2.1)), some (.dat s2.2)])) ([], (.int 1)) rfl (fun ⟨found, part⟩ => (by rfl)) (fun ⟨found, part⟩ => (ev_asB (ev_bin (ev_bin (ev_val rfl) (ev_val rfl)) (ev_val rfl)))) (fun ⟨found, part⟩ => (r_join (st := (fun (s3 : List (Key × D)) => [some (.dat n), some (.mut true (.dK s3)), some (.dat part)])) (r_last (r_if (ev_asB (ev_bin (ev_bin (ev_bin (ev_val rfl) (ev_val rfl)) (ev_val rfl)) (ev_val rfl))) (by rfl) (r_assoc (r_putIx (b := true) (kvs := found) rfl (ev_ret _) (ev_val rfl) (by rfl) (fun found => (r_set (ρ' := [some (.dat n), some (.mut true (.dK found)), some (.dat part)]) rfl (r_putIx (b := true) (kvs := found) rfl (ev_ret _) (ev_bin (ev_val rfl) (ev_val rfl)) (by rfl) (fun found => (r_set (ρ' := [some (.dat n), some (.mut true (.dK found)), some (.dat part)]) rfl (r_nx rfl)))))))) (r_nxs (r_nx rfl)))) (fun found => (r_last (r_asg (ev_bin (ev_val rfl) (ev_ret _)) (by rfl) (fun part => (r_tg (ρ' := [some (.dat n), some (.mut true (.dK found)), some (.dat part)]) rfl (r_nx rfl)))))))) (fun ⟨found, part⟩ => (r_fgt (ρ' := [some (.dat n), some (.mut true (.dK found)), none]) rfl (r_last (r_ret (ev_un (ev_val rfl)) (by rfl) (fun _ => ⟨_, rfl, rfl⟩)))))))))))))
noncomputable def c_law (script : D) : O (D) := Y.fin (fun _ => .none) (S := Unit) (B := Empty) (Y.of ((c__law_draws script).bind O.asL) fun draws => (Y.of (O.rng1 (O.cons (O.ok (.int 5)) (O.ok []))) fun ds => (Y.forL (fun (turn : D) (draws : List D) => (Y.of (((c__law_take draws (.int 3)).bind fun (t5 : D × List D) => ((O.lift (ixD (.list [(.int 30), (.int 1000), (.int 100000)]) t5.1)).bind fun t6 => (O.ok (t6, t5.2)))).bind fun (x4 : D × List D) => ((c__law_take x4.2 x4.1).bind fun (t7 : D × List D) => ((O.lift (addD (.int 1) t7.1)).bind fun t8 => (O.ok (t8, t7.2))))) fun (x3 : D × List D) => (Y.then' (Y.of (O.asB (O.bin eqD (O.ok turn) (O.ok (.int 0)))) fun t10 => if t10 = true then (Y.of ((c__law_take x3.2 (.int 17)).bind fun (t12 : D × List D) => ((O.lift (shlD (.int 1) t12.1)).bind fun t13 => (O.ok (t13, t12.2)))) fun (x11 : D × List D) => (Y.nx (x11.2, x11.1))) else (Y.of (O.asB (O.bin eqD (O.ok turn) (O.ok (.int 1)))) fun t14 => if t14 = true then (Y.of ((c__law_take x3.2 (.int 8)).bind fun (t16 : D × List D) => ((O.lift (ixD (.list [(.int 3), (.int 5), (.int 9), (.int 15), (.int 45), (.int 105), (.int 315), (.int 945)]) t16.1)).bind fun t17 => ((c__law_take t16.2 (.int 100)).bind fun (t18 : D × List D) => ((O.lift (addD (.int 1) t18.1)).bind fun t19 => ((O.lift (mulID t17 t19)).bind fun t20 => (O.ok (t20, t18.2))))))) fun (x15 : D × List D) => (Y.nx (x15.2, x15.1))) else (Y.nx (x3.2, x3.1)))) (fun (s9 : List D × D) => match s9 with | (draws, n) => (Y.of (c__law_heaps n) fun due => (Y.of (O.or (O.notB (O.tru ((O.cell (O.lst (O.cons (c__law_told (.int 0) n) (O.cons (c__law_told (.int 1) n) (O.ok []))))).bind fun a21 => ((O.cell (O.lst (O.cons (O.ok due) (O.cons (O.bin ixD (O.ok due) (O.ok (.int (-1)))) (O.ok []))))).bind fun a22 => (c__law_alike 8 a21 a22))))) (O.or (O.asB (O.bin neD (O.un lenD (O.ok due)) (c__law_odds n))) (O.asB (O.bin neD (O.bin ixD (O.ok due) (O.ok (.int 0))) (O.ok (.tuple [n, (.int 1)])))))) fun t23 => if t23 = true then (Y.ret (.bool false)) else (Y.of (O.bin ixD (O.bin ixD (O.ok due) (O.ok (.int (-1)))) (O.ok (.int 1))) fun rows => (Y.of (O.asB (O.bin gtD (O.bin mulID (O.ok rows) (O.bin addD (O.ok rows) (O.ok (.int 1)))) (O.bin mulID (O.ok (.int 2)) (O.ok n)))) fun t24 => if t24 = true then (Y.ret (.bool false)) else (Y.of (O.items (O.sl (O.ok due) (O.ok none) (O.part (O.ok (.int 6))))) fun ds => (Y.forL (fun (d26 : D) (_ : Unit) => (unp2 .bad d26 fun top rows => (Y.of (O.or (O.notB (O.tru ((c_is_heap (.tuple [top, rows])).bind fun a27 => (c__law_says a27 (.bool true))))) (O.notB (O.tru ((c_logs_of (.tuple [top, rows])).bind fun a28 => (c__law_alike 8 a28 n))))) fun t29 => if t29 = true then (Y.ret (.bool false)) else (Y.of (O.cell (O.lst (O.cons (O.bin addD (O.ok top) (O.bin fdivD (O.bin subD (O.ok rows) (O.ok (.int 1))) (O.ok (.int 2)))) (O.cons (O.bin addD (O.ok top) (O.bin fdivD (O.ok rows) (O.ok (.int 2)))) (O.ok []))))) fun middle => (Y.of (O.or (O.and (O.asB (O.bin ltD (O.bin mulID (O.bin fdivD (O.ok rows) (O.ok (.int 2))) (O.ok (.int 2))) (O.ok rows))) (O.asB (O.bin neD (O.bin mulID (O.ok rows) (O.bin ixD (O.ok middle) (O.ok (.int 0)))) (O.ok n)))) (O.and (O.asB (O.bin eqD (O.bin mulID (O.bin fdivD (O.ok rows) (O.ok (.int 2))) (O.ok (.int 2))) (O.ok rows))) (O.asB (O.bin neD (O.bin mulID (O.bin fdivD (O.ok rows) (O.ok (.int 2))) (O.un sumD (O.ok middle))) (O.ok n))))) fun t30 => if t30 = true then (Y.ret (.bool false)) else (Y.of (O.and (O.asB (O.bin leD (O.bin addD (O.ok n) (O.ok rows)) (O.ok (.int 100000)))) (O.asB (O.bin ninD (O.tup (O.cons (O.bin addD (O.ok top) (O.ok (.int 1))) (O.cons (O.ok rows) (O.ok [])))) ((O.bin addD (O.ok n) (O.ok rows)).bind fun a31 => (c_heaps_of a31))))) fun t32 => if t32 = true then (Y.ret (.bool false)) else (Y.nx ()))))))) ds ()).then' (fun _ => (Y.nx draws))))))))))) ds draws).then' (fun draws => (Y.of ((c__law_take draws (.int 40)).bind fun (t35 : D × List D) => ((O.lift (addD (.int 1) t35.1)).bind fun t36 => ((c__law_take t35.2 (.int 30)).bind fun (t37 : D × List D) => ((O.lift (addD (.int 1) t37.1)).bind fun t38 => ((O.lift (tupD (t36 :: (t38 :: [])))).bind fun t39 => (O.ok (t39, t37.2))))))) fun (x34 : D × List D) => (unp2 .bad x34.1 fun top rows => (Y.of (c_cuts_of (.tuple [top, rows])) fun cuts => (Y.of ((O.lc (O.rng2 (O.cons (O.ok (.int 1)) (O.cons (O.ok rows) (O.ok [])))) (fun d40 => (O.some' (O.tup (O.cons (O.ok (.tuple [top, d40])) (O.cons (O.tup (O.cons (O.bin addD (O.ok top) (O.ok d40)) (O.cons (O.bin subD (O.ok rows) (O.ok d40)) (O.ok [])))) (O.ok []))))))).bind O.asL) fun due => (Y.of (O.or (O.notB (O.tru ((O.un tupOf (O.ok (.list due))).bind fun a41 => (c__law_alike 8 cuts a41)))) (O.notB (O.tru ((c_logs_of (.tuple [top, rows])).bind fun a42 => ((c__law_logs top rows).bind fun a43 => (c__law_alike 8 a42 a43)))))) fun t44 => if t44 = true then (Y.ret (.bool false)) else (Y.of (O.items (O.ok (.list due))) fun ds => (Y.forL (fun (d46 : D) (_ : Unit) => (unp2 .bad d46 fun upper lower => (Y.of (O.or (O.notB (O.tru ((c_joined upper lower).bind fun a47 => (c__law_alike 8 a47 (.tuple [top, rows]))))) (O.asB (O.bin neD (O.bin addD (c_logs_of upper) (c_logs_of lower)) (c_logs_of (.tuple [top, rows]))))) fun t48 => if t48 = true then (Y.ret (.bool false)) else (Y.nx ())))) ds ()).then' (fun _ => (Y.of (O.rng1 (O.cons (O.ok (.int 4)) (O.ok []))) fun ds => (Y.forL (fun (turn : D) (draws : List D) => (Y.of ((c__law_take draws (.int 6)).bind fun (t52 : D × List D) => ((O.lift (addD (.int 1) t52.1)).bind fun t53 => ((c__law_take t52.2 (.int 4)).bind fun (t54 : D × List D) => ((O.lift (addD (.int 1) t54.1)).bind fun t55 => ((O.lift (tupD (t53 :: (t55 :: [])))).bind fun t56 => (O.ok (t56, t54.2))))))) fun (x51 : D × List D) => (Y.of ((c__law_take x51.2 (.int 8)).bind fun (t59 : D × List D) => ((O.lift (addD (.int 1) t59.1)).bind fun t60 => ((c__law_take t59.2 (.int 4)).bind fun (t61 : D × List D) => ((O.lift (addD (.int 1) t61.1)).bind fun t62 => ((O.lift (tupD (t60 :: (t62 :: [])))).bind fun t63 => (O.ok (t63, t61.2))))))) fun (x58 : D × List D) => (Y.of (O.ife (O.asB (O.bin eqD (O.bin addD (O.bin ixD (O.ok x51.1) (O.ok (.int 0))) (O.bin ixD (O.ok x51.1) (O.ok (.int 1)))) (O.bin ixD (O.ok x58.1) (O.ok (.int 0))))) (O.tup (O.cons (O.bin ixD (O.ok x51.1) (O.ok (.int 0))) (O.cons (O.bin addD (O.bin ixD (O.ok x51.1) (O.ok (.int 1))) (O.bin ixD (O.ok x58.1) (O.ok (.int 1)))) (O.ok [])))) (O.ok .none)) fun both => (Y.of (O.notB (O.tru ((c_joined x51.1 x58.1).bind fun a64 => (c__law_alike 8 a64 both)))) fun t65 => if t65 = true then (Y.ret (.bool false)) else (Y.nx x58.2)))))) ds x34.2).then' (fun draws => (Y.of ((c__law_take draws (.int 60)).bind fun (t67 : D × List D) => (O.ok (t67.1, t67.2))) fun (x66 : D × List D) => (Y.of (O.notB (O.tru ((c__law_told (.int 2) x66.1).bind fun a68 => ((O.un sumD (O.cell (O.lc (O.rng2 (O.cons (O.ok (.int 1)) (O.cons (O.bin addD (O.ok x66.1) (O.ok (.int 1))) (O.ok [])))) (fun d69 => (O.some' (O.un lenD (c__law_heaps d69))))))).bind fun a70 => (c__law_alike 8 a68 a70))))) fun t71 => if t71 = true then (Y.ret (.bool false)) else (Y.of (((c__law_take x66.2 (.int 2)).bind fun (t74 : D × List D) => ((O.lift (ixD (.list [(.int 1000), (.int 100001)]) t74.1)).bind fun t75 => (O.ok (t75, t74.2)))).bind fun (x73 : D × List D) => ((c__law_take x73.2 x73.1).bind fun (t76 : D × List D) => (O.ok (t76.1, t76.2)))) fun (x72 : D × List D) => (Y.of (O.and (O.asB (O.bin ltD (O.ok x72.1) (O.ok (.int 3000)))) (O.asB (O.bin neD (c__law_told (.int 2) x72.1) (O.un sumD (O.cell (O.lc (O.rng3 (O.cons (O.ok (.int 1)) (O.cons (O.bin addD (O.ok x72.1) (O.ok (.int 1))) (O.cons (O.ok (.int 2)) (O.ok []))))) (fun d77 => (O.some' (O.bin fdivD (O.ok x72.1) (O.ok d77)))))))))) fun t78 => if t78 = true then (Y.ret (.bool false)) else (Y.of (O.and (O.asB (O.bin geD (O.ok x72.1) (O.ok (.int 3000)))) (O.asB (O.bin neD (O.bin subD (c__law_told (.int 2) x72.1) ((O.bin subD (O.ok x72.1) (O.ok (.int 1))).bind fun a79 => (c__law_told (.int 2) a79))) (c__law_odds x72.1)))) fun t80 => if t80 = true then (Y.ret (.bool false)) else (Y.of (O.or (O.asB (O.bin neD (O.cell (O.lc (O.items (O.ok (.list [(.tuple [(.int 0), (.int 0)]), (.tuple [(.int 0), (.int 100001)]), (.tuple [(.int 1), (.int 0)]), (.tuple [(.int 1), (.int 100001)]), (.tuple [(.int 2), (.int (-1))]), (.tuple [(.int 2), (.int 100001)])]))) (fun d81 => (unp2 .bad d81 fun which bad => (O.some' (c__law_told which bad)))))) (O.cell (O.binF mulF (O.ok (.list [(.str "range")])) (O.ok (.int 6)))))) (O.asB (O.bin neD (c_heaps_to (.int 0)) (O.ok (.int 0))))) fun t82 => if t82 = true then (Y.ret (.bool false)) else (Y.of (O.andV (O.bin isD (c_is_heap (.tuple [(.int 1), (.int 446)])) (O.ok (.bool true))) (O.bin eqD (O.cell (O.lc (O.items (O.ok (.list [.none, (.list [(.int 1), (.int 2)]), (.tuple [(.int 1)]), (.tuple [(.int 0), (.int 1)]), (.tuple [(.int 1), (.int 0)]), (.tuple [(.int 100001), (.int 1)]), (.tuple [(.int 1), (.int 447)]), (.tuple [(.bool true), (.int 1)]), (.tuple [(.int 1), .none]), (.tuple [(.int 1), (.int 2), (.int 3)])]))) (fun d83 => (O.when (O.notB (O.tru ((c_is_heap d83).bind fun a84 => (c__law_says a84 (.bool false))))) (O.ok d83))))) (O.ok (.list [])))) fun d85 => Y.ret d85)))))))))))))))))))
theorem cl_law (script : D) : Cok (F_law [.dat script]) (c_law script) := by
  unfold F_law c_law
  refine cok_d (as := [.dat script]) (sn := (fun _ => [some (.dat script), none, none, none, none, none, none, none, none, none, none, none, none, none, none, none, none, none, none, none, none])) ?_ ⟨rfl, Nat.le_of_ble_eq_true rfl⟩ (by intro _; rfl)
  refine r_start (ρ' := [some (.dat script), none, none, none, none, none, none, none, none, none, none, none, none, none, none, none, none, none, none, none, none]) rfl ?_
  unfold m_law
  exact (r_setF (ev_callF (ev_cdatV rfl (ev_cnil (ev_callKF (as := [.dat script]) (cl__law_draws script))))) (by rfl) (fun draws => (r_setK (ρ' := [some (.dat script), some (.mut true (.lst draws)), none, none, none, none, none, none, none, none, none, none, none, none, none, none, none, none, none, none, none]) rfl rfl (r_assoc (r_fgt (ρ' := [some (.dat script), some (.mut true (.lst draws)), none, none, none, none, none, none, none, none, none, none, none, none, none, none, none, none, none, none, none]) rfl (r_for (st := (fun (s1 : List D) => [some (.dat script), some (.mut true (.lst s1)), none, none, none, none, none, none, none, none, none, none, none, none, none, none, none, none, none, none, none])) draws (ev_rng1 (ev_cons (ev_ret _) (ev_ret _))) (by rfl) rfl (fun turn draws => (r_tg (ρ' := [some (.dat script), some (.mut true (.lst draws)), some (.dat turn), none, none, none, none, none, none, none, none, none, none, none, none, none, none, none, none, none, none]) rfl (r_assoc (r_asgX (evx_top (v := fun (z : D × List D) => z.1) (s := fun (z : D × List D) => [some (.dat script), some (.mut true (.lst z.2)), some (.dat turn), none, none, none, none, none, none, none, none, none, none, none, none, none, none, none, none, none, none]) (evx_assoc (evx_val (ρ' := [some (.dat script), some (.mut true (.lst draws)), some (.dat turn), none, none, none, none, none, none, none, none, none, none, none, none, none, none, none, none, none, none]) rfl (evx_assoc (evx_callM (evx_cslot (b := true) (c := .lst draws) rfl (evx_cdatX (evx_top (v := fun (z : D × List D) => z.1) (s := fun (z : D × List D) => [some (.dat script), some (.mut true (.lst z.2)), some (.dat turn), none, none, none, none, none, none, none, none, none, none, none, none, none, none, none, none, none, none]) (evx_assoc (evx_val (ρ' := [some (.dat script), some (.mut true (.lst draws)), some (.dat turn), none, none, none, none, none, none, none, none, none, none, none, none, none, none, none, none, none, none]) rfl (evx_assoc (evx_callM (evx_cslot (b := true) (c := .lst draws) rfl (evx_cdatV (ρ' := [some (.dat script), some (.mut true (.lst draws)), some (.dat turn), none, none, none, none, none, none, none, none, none, none, none, none, none, none, none, none, none, none]) rfl (evx_cnil (evx_bind (evx_callK (as := [.ref (.lst draws), .dat (.int 3)]) (v := (fun (z : D × List D) => z.1)) (os := (fun (z : D × List D) => [.lst z.2])) (s := fun (z : D × List D) => [some (.dat script), some (.mut true (.lst z.2)), some (.dat turn), none, none, none, none, none, none, none, none, none, none, none, none, none, none, none, none, none, none]) (cl__law_take draws (.int 3)) (by rfl) (fun _ => rfl) (sl := [1]) rfl (fun _ => rfl) rfl (by decide)) (fun t5 => (evx_liftB (by rfl) (fun t6 => (evx_ret rfl rfl))))))))))))) (fun (x4 : D × List D) => (evx_cnil (evx_bind (evx_callK (as := [.ref (.lst x4.2), .dat x4.1]) (v := (fun (z : D × List D) => z.1)) (os := (fun (z : D × List D) => [.lst z.2])) (s := fun (z : D × List D) => [some (.dat script), some (.mut true (.lst z.2)), some (.dat turn), none, none, none, none, none, none, none, none, none, none, none, none, none, none, none, none, none, none]) (cl__law_take x4.2 x4.1) (by rfl) (fun _ => rfl) (sl := [1]) rfl (fun _ => rfl) rfl (by decide)) (fun t7 => (evx_liftB (by rfl) (fun t8 => (evx_ret rfl rfl)))))))))))))) (fun (x3 : D × List D) => (r_tg (ρ' := [some (.dat script), some (.mut true (.lst x3.2)), some (.dat turn), some (.dat x3.1), none, none, none, none, none, none, none, none, none, none, none, none, none, none, none, none, none]) rfl (r_assoc (r_join (st := (fun (s9 : List D × D) => [some (.dat script), some (.mut true (.lst s9.1)), some (.dat turn), some (.dat s9.2), none, none, none, none, none, none, none, none, none, none, none, none, none, none, none, none, none])) (r_last (r_if (ev_asB (ev_bin (ev_val rfl) (ev_ret _))) (by rfl) (r_asgX (evx_top (v := fun (z : D × List D) => z.1) (s := fun (z : D × List D) => [some (.dat script), some (.mut true (.lst z.2)), some (.dat turn), some (.dat x3.1), none, none, none, none, none, none, none, none, none, none, none, none, none, none, none, none, none]) (evx_assoc (evx_val (ρ' := [some (.dat script), some (.mut true (.lst x3.2)), some (.dat turn), some (.dat x3.1), none, none, none, none, none, none, none, none, none, none, none, none, none, none, none, none, none]) rfl (evx_assoc (evx_callM (evx_cslot (b := true) (c := .lst x3.2) rfl (evx_cdatV (ρ' := [some (.dat script), some (.mut true (.lst x3.2)), some (.dat turn), some (.dat x3.1), none, none, none, none, none, none, none, none, none, none, none, none, none, none, none, none, none]) rfl (evx_cnil (evx_bind (evx_callK (as := [.ref (.lst x3.2), .dat (.int 17)]) (v := (fun (z : D × List D) => z.1)) (os := (fun (z : D × List D) => [.lst z.2])) (s := fun (z : D × List D) => [some (.dat script), some (.mut true (.lst z.2)), some (.dat turn), some (.dat x3.1), none, none, none, none, none, none, none, none, none, none, none, none, none, none, none, none, none]) (cl__law_take x3.2 (.int 17)) (by rfl) (fun _ => rfl) (sl := [1]) rfl (fun _ => rfl) rfl (by decide)) (fun t12 => (evx_liftB (by rfl) (fun t13 => (evx_ret rfl rfl))))))))))))) (fun (x11 : D × List D) => (r_tg (ρ' := [some (.dat script), some (.mut true (.lst x11.2)), some (.dat turn), some (.dat x11.1), none, none, none, none, none, none, none, none, none, none, none, none, none, none, none, none, none]) rfl (r_nx rfl)))) (r_if (ev_asB (ev_bin (ev_val rfl) (ev_ret _))) (by rfl) (r_asgX (evx_top (v := fun (z : D × List D) => z.1) (s := fun (z : D × List D) => [some (.dat script), some (.mut true (.lst z.2)), some (.dat turn), some (.dat x3.1), none, none, none, none, none, none, none, none, none, none, none, none, none, none, none, none, none]) (evx_assoc (evx_assoc (evx_val (ρ' := [some (.dat script), some (.mut true (.lst x3.2)), some (.dat turn), some (.dat x3.1), none, none, none, none, none, none, none, none, none, none, none, none, none, none, none, none, none]) rfl (evx_assoc (evx_callM (evx_cslot (b := true) (c := .lst x3.2) rfl (evx_cdatV (ρ' := [some (.dat script), some (.mut true (.lst x3.2)), some (.dat turn), some (.dat x3.1), none, none, none, none, none, none, none, none, none, none, none, none, none, none, none, none, none]) rfl (evx_cnil (evx_bind (evx_callK (as := [.ref (.lst x3.2), .dat (.int 8)]) (v := (fun (z : D × List D) => z.1)) (os := (fun (z : D × List D) => [.lst z.2])) (s := fun (z : D × List D) => [some (.dat script), some (.mut true (.lst z.2)), some (.dat turn), some (.dat x3.1), none, none, none, none, none, none, none, none, none, none, none, none, none, none, none, none, none]) (cl__law_take x3.2 (.int 8)) (by rfl) (fun _ => rfl) (sl := [1]) rfl (fun _ => rfl) rfl (by decide)) (fun t16 => (evx_liftB (by rfl) (fun t17 => (evx_assoc (evx_assoc (evx_val (ρ' := [some (.dat script), some (.mut true (.lst t16.2)), some (.dat turn), some (.dat x3.1), none, none, none, none, none, none, none, none, none, none, none, none, none, none, none, none, none]) rfl (evx_assoc (evx_callM (evx_cslot (b := true) (c := .lst t16.2) rfl (evx_cdatV (ρ' := [some (.dat script), some (.mut true (.lst t16.2)), some (.dat turn), some (.dat x3.1), none, none, none, none, none, none, none, none, none, none, none, none, none, none, none, none, none]) rfl (evx_cnil (evx_bind (evx_callK (as := [.ref (.lst t16.2), .dat (.int 100)]) (v := (fun (z : D × List D) => z.1)) (os := (fun (z : D × List D) => [.lst z.2])) (s := fun (z : D × List D) => [some (.dat script), some (.mut true (.lst z.2)), some (.dat turn), some (.dat x3.1), none, none, none, none, none, none, none, none, none, none, none, none, none, none, none, none, none]) (cl__law_take t16.2 (.int 100)) (by rfl) (fun _ => rfl) (sl := [1]) rfl (fun _ => rfl) rfl (by decide)) (fun t18 => (evx_liftB (by rfl) (fun t19 => (evx_liftB (by rfl) (fun t20 => (evx_ret rfl rfl)))))))))))))))))))))))))))) (fun (x15 : D × List D) => (r_tg (ρ' := [some (.dat script), some (.mut true (.lst x15.2)), some (.dat turn), some (.dat x15.1), none, none, none, none, none, none, none, none, none, none, none, none, none, none, none, none, none]) rfl (r_nx rfl)))) (r_nxs (r_nx rfl))))) (fun ⟨draws, n⟩ => (r_assoc (r_asg (ev_callM (ev_cdatV rfl (ev_cnil (ev_callK (as := [.dat n]) (cl__law_heaps n))))) (by rfl) (fun due => (r_tg (ρ' := [some (.dat script), some (.mut true (.lst draws)), some (.dat turn), some (.dat n), some (.dat due), none, none, none, none, none, none, none, none, none, none, none, none, none, none, none, none]) rfl (r_assoc (r_if (ev_or (ev_notB (ev_tru (ev_callM (ev_cdat (ev_cell (ev_lst (ev_cons (ev_callM (ev_cdatV rfl (ev_cdatV rfl (ev_cnil (ev_callK (as := [.dat (.int 0), .dat n]) (cl__law_told (.int 0) n)))))) (ev_cons (ev_callM (ev_cdatV rfl (ev_cdatV rfl (ev_cnil (ev_callK (as := [.dat (.int 1), .dat n]) (cl__law_told (.int 1) n)))))) (ev_ret _))))) fun a21 => ev_cdat (ev_cell (ev_lst (ev_cons (ev_val rfl) (ev_cons (ev_bin (ev_val rfl) (ev_val rfl)) (ev_ret _))))) fun a22 => ev_cnil (ev_callK (as := [.dat a21, .dat a22]) (cl__law_alike 8 a21 a22)))))) (ev_or (ev_asB (ev_bin (ev_un (ev_val rfl)) (ev_callM (ev_cdatV rfl (ev_cnil (ev_callK (as := [.dat n]) (cl__law_odds n))))))) (ev_asB (ev_bin (ev_bin (ev_val rfl) (ev_ret _)) (ev_val rfl))))) (by rfl) (r_retV (ρ' := [some (.dat script), some (.mut true (.lst draws)), some (.dat turn), some (.dat n), some (.dat due), none, none, none, none, none, none, none, none, none, none, none, none, none, none, none, none]) rfl ⟨_, rfl, rfl⟩) (r_nxs (r_assoc (r_asg (ev_bin (ev_bin (ev_val rfl) (ev_val rfl)) (ev_ret _)) (by rfl) (fun rows => (r_tg (ρ' := [some (.dat script), some (.mut true (.lst draws)), some (.dat turn), some (.dat n), some (.dat due), some (.dat rows), none, none, none, none, none, none, none, none, none, none, none, none, none, none, none]) rfl (r_assoc (r_if (ev_asB (ev_bin (ev_bin (ev_val rfl) (ev_bin (ev_val rfl) (ev_ret _))) (ev_bin (ev_ret _) (ev_val rfl)))) (by rfl) (r_retV (ρ' := [some (.dat script), some (.mut true (.lst draws)), some (.dat turn), some (.dat n), some (.dat due), some (.dat rows), none, none, none, none, none, none, none, none, none, none, none, none, none, none, none]) rfl ⟨_, rfl, rfl⟩) (r_nxs (r_assoc (r_fgt (ρ' := [some (.dat script), some (.mut true (.lst draws)), some (.dat turn), some (.dat n), some (.dat due), none, none, none, none, none, none, none, none, none, none, none, none, none, none, none, none]) rfl (r_for (st := (fun (_ : Unit) => [some (.dat script), some (.mut true (.lst draws)), some (.dat turn), some (.dat n), some (.dat due), none, none, none, none, none, none, none, none, none, none, none, none, none, none, none, none])) () (ev_items (ev_sl (ev_val rfl) (ev_ret _) (ev_part (ev_ret _)))) (by rfl) rfl (fun d26 _ => (rel_unp2 (fun dd => dd) d26 (fun top rows => (r_tg (ρ' := [some (.dat script), some (.mut true (.lst draws)), some (.dat turn), some (.dat n), some (.dat due), some (.dat rows), some (.dat top), none, none, none, none, none, none, none, none, none, none, none, none, none, none]) rfl (r_assoc (r_if (ev_or (ev_notB (ev_tru (ev_callM (ev_cdat (ev_callM (ev_cdatV rfl (ev_cnil (ev_callK (as := [.dat (.tuple [top, rows])]) (cl_is_heap (.tuple [top, rows])))))) fun a27 => ev_cdatV rfl (ev_cnil (ev_callK (as := [.dat a27, .dat (.bool true)]) (cl__law_says a27 (.bool true)))))))) (ev_notB (ev_tru (ev_callM (ev_cdat (ev_callM (ev_cdatV rfl (ev_cnil (ev_callK (as := [.dat (.tuple [top, rows])]) (cl_logs_of (.tuple [top, rows])))))) fun a28 => ev_cdatV rfl (ev_cnil (ev_callK (as := [.dat a28, .dat n]) (cl__law_alike 8 a28 n)))))))) (by rfl) (r_retV (ρ' := [some (.dat script), some (.mut true (.lst draws)), some (.dat turn), some (.dat n), some (.dat due), some (.dat rows), some (.dat top), none, none, none, none, none, none, none, none, none, none, none, none, none, none]) rfl ⟨_, rfl, rfl⟩) (r_nxs (r_assoc (r_asg (ev_cell (ev_lst (ev_cons (ev_bin (ev_val rfl) (ev_bin (ev_bin (ev_val rfl) (ev_ret _)) (ev_ret _))) (ev_cons (ev_bin (ev_val rfl) (ev_bin (ev_val rfl) (ev_ret _))) (ev_ret _))))) (by rfl) (fun middle => (r_tg (ρ' := [some (.dat script), some (.mut true (.lst draws)), some (.dat turn), some (.dat n), some (.dat due), some (.dat rows), some (.dat top), some (.dat middle), none, none, none, none, none, none, none, none, none, none, none, none, none]) rfl (r_assoc (r_if (ev_or (ev_and (ev_asB (ev_bin (ev_bin (ev_bin (ev_val rfl) (ev_ret _)) (ev_ret _)) (ev_val rfl))) (ev_asB (ev_bin (ev_bin (ev_val rfl) (ev_bin (ev_val rfl) (ev_ret _))) (ev_val rfl)))) (ev_and (ev_asB (ev_bin (ev_bin (ev_bin (ev_val rfl) (ev_ret _)) (ev_ret _)) (ev_val rfl))) (ev_asB (ev_bin (ev_bin (ev_bin (ev_val rfl) (ev_ret _)) (ev_un (ev_val rfl))) (ev_val rfl))))) (by rfl) (r_retV (ρ' := [some (.dat script), some (.mut true (.lst draws)), some (.dat turn), some (.dat n), some (.dat due), some (.dat rows), some (.dat top), some (.dat middle), none, none, none, none, none, none, none, none, none, none, none, none, none]) rfl ⟨_, rfl, rfl⟩) (r_nxs (r_if (ev_and (ev_asB (ev_bin (ev_bin (ev_val rfl) (ev_val rfl)) (ev_ret _))) (ev_asB (ev_bin (ev_tup (ev_cons (ev_bin (ev_val rfl) (ev_ret _)) (ev_cons (ev_val rfl) (ev_ret _)))) (ev_callM (ev_cdat (ev_bin (ev_val rfl) (ev_val rfl)) fun a31 => ev_cnil (ev_callK (as := [.dat a31]) (cl_heaps_of a31))))))) (by rfl) (r_retV (ρ' := [some (.dat script), some (.mut true (.lst draws)), some (.dat turn), some (.dat n), some (.dat due), some (.dat rows), some (.dat top), some (.dat middle), none, none, none, none, none, none, none, none, none, none, none, none, none]) rfl ⟨_, rfl, rfl⟩) (r_nxs (r_last (r_fgt (ρ' := [some (.dat script), some (.mut true (.lst draws)), some (.dat turn), some (.dat n), some (.dat due), none, none, none, none, none, none, none, none, none, none, none, none, none, none, none, none]) rfl (r_nx rfl))))))))))))))))))) (fun _ => (r_last (r_fgt (ρ' := [some (.dat script), some (.mut true (.lst draws)), none, none, none, none, none, none, none, none, none, none, none, none, none, none, none, none, none, none, none]) rfl (r_nx rfl)))))))))))))))))))))))))))))) (fun draws => (r_asgX (evx_top (v := fun (z : D × List D) => z.1) (s := fun (z : D × List D) => [some (.dat script), some (.mut true (.lst z.2)), none, none, none, none, none, none, none, none, none, none, none, none, none, none, none, none, none, none, none]) (evx_assoc (evx_assoc (evx_assoc (evx_val (ρ' := [some (.dat script), some (.mut true (.lst draws)), none, none, none, none, none, none, none, none, none, none, none, none, none, none, none, none, none, none, none]) rfl (evx_assoc (evx_callM (evx_cslot (b := true) (c := .lst draws) rfl (evx_cdatV (ρ' := [some (.dat script), some (.mut true (.lst draws)), none, none, none, none, none, none, none, none, none, none, none, none, none, none, none, none, none, none, none]) rfl (evx_cnil (evx_bind (evx_callK (as := [.ref (.lst draws), .dat (.int 40)]) (v := (fun (z : D × List D) => z.1)) (os := (fun (z : D × List D) => [.lst z.2])) (s := fun (z : D × List D) => [some (.dat script), some (.mut true (.lst z.2)), none, none, none, none, none, none, none, none, none, none, none, none, none, none, none, none, none, none, none]) (cl__law_take draws (.int 40)) (by rfl) (fun _ => rfl) (sl := [1]) rfl (fun _ => rfl) rfl (by decide)) (fun t35 => (evx_liftB (by rfl) (fun t36 => (evx_assoc (evx_assoc (evx_assoc (evx_val (ρ' := [some (.dat script), some (.mut true (.lst t35.2)), none, none, none, none, none, none, none, none, none, none, none, none, none, none, none, none, none, none, none]) rfl (evx_assoc (evx_callM (evx_cslot (b := true) (c := .lst t35.2) rfl (evx_cdatV (ρ' := [some (.dat script), some (.mut true (.lst t35.2)), none, none, none, none, none, none, none, none, none, none, none, none, none, none, none, none, none, none, none]) rfl (evx_cnil (evx_bind (evx_callK (as := [.ref (.lst t35.2), .dat (.int 30)]) (v := (fun (z : D × List D) => z.1)) (os := (fun (z : D × List D) => [.lst z.2])) (s := fun (z : D × List D) => [some (.dat script), some (.mut true (.lst z.2)), none, none, none, none, none, none, none, none, none, none, none, none, none, none, none, none, none, none, none]) (cl__law_take t35.2 (.int 30)) (by rfl) (fun _ => rfl) (sl := [1]) rfl (fun _ => rfl) rfl (by decide)) (fun t37 => (evx_liftB (by rfl) (fun t38 => (evx_assoc (evx_val (ρ' := [some (.dat script), some (.mut true (.lst t37.2)), none, none, none, none, none, none, none, none, none, none, none, none, none, none, none, none, none, none, none]) rfl (evx_retB (evx_retB (evx_liftB (by rfl) (fun t39 => (evx_ret rfl rfl)))))))))))))))))))))))))))))))))) (fun (x34 : D × List D) => (rel_unp2 (fun dd => dd) x34.1 (fun top rows => (r_tg (ρ' := [some (.dat script), some (.mut true (.lst x34.2)), none, none, none, some (.dat rows), some (.dat top), none, none, none, none, none, none, none, none, none, none, none, none, none, none]) rfl (r_asg (ev_callM (ev_cdatV rfl (ev_cnil (ev_callK (as := [.dat (.tuple [top, rows])]) (cl_cuts_of (.tuple [top, rows])))))) (by rfl) (fun cuts => (r_tg (ρ' := [some (.dat script), some (.mut true (.lst x34.2)), none, none, none, some (.dat rows), some (.dat top), none, some (.dat cuts), none, none, none, none, none, none, none, none, none, none, none, none]) rfl (r_assoc (r_setF (ev_lc (ev_rng2 (ev_cons (ev_ret _) (ev_cons (ev_val rfl) (ev_ret _)))) rfl rfl (fun d40 => (lct (ρ1 := [some (.dat script), some (.mut true (.lst x34.2)), none, none, none, some (.dat rows), some (.dat top), none, some (.dat cuts), none, none, none, none, none, none, none, none, some (.dat d40), none, none, none]) rfl (ev_ret _) (ev_tup (ev_cons (ev_val rfl) (ev_cons (ev_tup (ev_cons (ev_bin (ev_val rfl) (ev_val rfl)) (ev_cons (ev_bin (ev_val rfl) (ev_val rfl)) (ev_ret _)))) (ev_ret _)))) rfl rfl))) (by rfl) (fun due => (r_setK (ρ' := [some (.dat script), some (.mut true (.lst x34.2)), none, none, some (.mut true (.lst due)), some (.dat rows), some (.dat top), none, some (.dat cuts), none, none, none, none, none, none, none, none, none, none, none, none]) rfl rfl (r_frz (ρ' := [some (.dat script), some (.mut true (.lst x34.2)), none, none, some (.dat (.list due)), some (.dat rows), some (.dat top), none, some (.dat cuts), none, none, none, none, none, none, none, none, none, none, none, none]) rfl (r_if (ev_or (ev_notB (ev_tru (ev_callM (ev_cdatV rfl (ev_cdat (ev_un (ev_val rfl)) fun a41 => ev_cnil (ev_callK (as := [.dat cuts, .dat a41]) (cl__law_alike 8 cuts a41))))))) (ev_notB (ev_tru (ev_callM (ev_cdat (ev_callM (ev_cdatV rfl (ev_cnil (ev_callK (as := [.dat (.tuple [top, rows])]) (cl_logs_of (.tuple [top, rows])))))) fun a42 => ev_cdat (ev_callM (ev_cdatV rfl (ev_cdatV rfl (ev_cnil (ev_callK (as := [.dat top, .dat rows]) (cl__law_logs top rows)))))) fun a43 => ev_cnil (ev_callK (as := [.dat a42, .dat a43]) (cl__law_alike 8 a42 a43))))))) (by rfl) (r_retV (ρ' := [some (.dat script), some (.mut true (.lst x34.2)), none, none, some (.dat (.list due)), some (.dat rows), some (.dat top), none, some (.dat cuts), none, none, none, none, none, none, none, none, none, none, none, none]) rfl ⟨_, rfl, rfl⟩) (r_nxs (r_assoc (r_fgt (ρ' := [some (.dat script), some (.mut true (.lst x34.2)), none, none, some (.dat (.list due)), some (.dat rows), some (.dat top), none, some (.dat cuts), none, none, none, none, none, none, none, none, none, none, none, none]) rfl (r_for (st := (fun (_ : Unit) => [some (.dat script), some (.mut true (.lst x34.2)), none, none, some (.dat (.list due)), some (.dat rows), some (.dat top), none, some (.dat cuts), none, none, none, none, none, none, none, none, none, none, none, none])) () (ev_items (ev_val rfl)) (by rfl) rfl (fun d46 _ => (rel_unp2 (fun dd => dd) d46 (fun upper lower => (r_tg (ρ' := [some (.dat script), some (.mut true (.lst x34.2)), none, none, some (.dat (.list due)), some (.dat rows), some (.dat top), none, some (.dat cuts), some (.dat upper), some (.dat lower), none, none, none, none, none, none, none, none, none, none]) rfl (r_if (ev_or (ev_notB (ev_tru (ev_callM (ev_cdat (ev_callM (ev_cdatV rfl (ev_cdatV rfl (ev_cnil (ev_callK (as := [.dat upper, .dat lower]) (cl_joined upper lower)))))) fun a47 => ev_cdatV rfl (ev_cnil (ev_callK (as := [.dat a47, .dat (.tuple [top, rows])]) (cl__law_alike 8 a47 (.tuple [top, rows])))))))) (ev_asB (ev_bin (ev_bin (ev_callM (ev_cdatV rfl (ev_cnil (ev_callK (as := [.dat upper]) (cl_logs_of upper))))) (ev_callM (ev_cdatV rfl (ev_cnil (ev_callK (as := [.dat lower]) (cl_logs_of lower)))))) (ev_callM (ev_cdatV rfl (ev_cnil (ev_callK (as := [.dat (.tuple [top, rows])]) (cl_logs_of (.tuple [top, rows]))))))))) (by rfl) (r_retV (ρ' := [some (.dat script), some (.mut true (.lst x34.2)), none, none, some (.dat (.list due)), some (.dat rows), some (.dat top), none, some (.dat cuts), some (.dat upper), some (.dat lower), none, none, none, none, none, none, none, none, none, none]) rfl ⟨_, rfl, rfl⟩) (r_nxs (r_last (r_fgt (ρ' := [some (.dat script), some (.mut true (.lst x34.2)), none, none, some (.dat (.list due)), some (.dat rows), some (.dat top), none, some (.dat cuts), none, none, none, none, none, none, none, none, none, none, none, none]) rfl (r_nx rfl))))))))) (fun _ => (r_assoc (r_fgt (ρ' := [some (.dat script), some (.mut true (.lst x34.2)), none, none, some (.dat (.list due)), some (.dat rows), some (.dat top), none, some (.dat cuts), none, none, none, none, none, none, none, none, none, none, none, none]) rfl (r_for (st := (fun (s49 : List D) => [some (.dat script), some (.mut true (.lst s49)), none, none, some (.dat (.list due)), some (.dat rows), some (.dat top), none, some (.dat cuts), none, none, none, none, none, none, none, none, none, none, none, none])) x34.2 (ev_rng1 (ev_cons (ev_ret _) (ev_ret _))) (by rfl) rfl (fun turn draws => (r_tg (ρ' := [some (.dat script), some (.mut true (.lst draws)), some (.dat turn), none, some (.dat (.list due)), some (.dat rows), some (.dat top), none, some (.dat cuts), none, none, none, none, none, none, none, none, none, none, none, none]) rfl (r_assoc (r_par (r_ofX (evx_top (v := fun (z : D × List D) => z.1) (s := fun (z : D × List D) => [some (.dat script), some (.mut true (.lst z.2)), some (.dat turn), none, some (.dat (.list due)), some (.dat rows), some (.dat top), none, some (.dat cuts), none, none, none, none, none, none, none, none, none, none, none, none]) (evx_assoc (evx_assoc (evx_assoc (evx_val (ρ' := [some (.dat script), some (.mut true (.lst draws)), some (.dat turn), none, some (.dat (.list due)), some (.dat rows), some (.dat top), none, some (.dat cuts), none, none, none, none, none, none, none, none, none, none, none, none]) rfl (evx_assoc (evx_callM (evx_cslot (b := true) (c := .lst draws) rfl (evx_cdatV (ρ' := [some (.dat script), some (.mut true (.lst draws)), some (.dat turn), none, some (.dat (.list due)), some (.dat rows), some (.dat top), none, some (.dat cuts), none, none, none, none, none, none, none, none, none, none, none, none]) rfl (evx_cnil (evx_bind (evx_callK (as := [.ref (.lst draws), .dat (.int 6)]) (v := (fun (z : D × List D) => z.1)) (os := (fun (z : D × List D) => [.lst z.2])) (s := fun (z : D × List D) => [some (.dat script), some (.mut true (.lst z.2)), some (.dat turn), none, some (.dat (.list due)), some (.dat rows), some (.dat top), none, some (.dat cuts), none, none, none, none, none, none, none, none, none, none, none, none]) (cl__law_take draws (.int 6)) (by rfl) (fun _ => rfl) (sl := [1]) rfl (fun _ => rfl) rfl (by decide)) (fun t52 => (evx_liftB (by rfl) (fun t53 => (evx_assoc (evx_assoc (evx_assoc (evx_val (ρ' := [some (.dat script), some (.mut true (.lst t52.2)), some (.dat turn), none, some (.dat (.list due)), some (.dat rows), some (.dat top), none, some (.dat cuts), none, none, none, none, none, none, none, none, none, none, none, none]) rfl (evx_assoc (evx_callM (evx_cslot (b := true) (c := .lst t52.2) rfl (evx_cdatV (ρ' := [some (.dat script), some (.mut true (.lst t52.2)), some (.dat turn), none, some (.dat (.list due)), some (.dat rows), some (.dat top), none, some (.dat cuts), none, none, none, none, none, none, none, none, none, none, none, none]) rfl (evx_cnil (evx_bind (evx_callK (as := [.ref (.lst t52.2), .dat (.int 4)]) (v := (fun (z : D × List D) => z.1)) (os := (fun (z : D × List D) => [.lst z.2])) (s := fun (z : D × List D) => [some (.dat script), some (.mut true (.lst z.2)), some (.dat turn), none, some (.dat (.list due)), some (.dat rows), some (.dat top), none, some (.dat cuts), none, none, none, none, none, none, none, none, none, none, none, none]) (cl__law_take t52.2 (.int 4)) (by rfl) (fun _ => rfl) (sl := [1]) rfl (fun _ => rfl) rfl (by decide)) (fun t54 => (evx_liftB (by rfl) (fun t55 => (evx_assoc (evx_val (ρ' := [some (.dat script), some (.mut true (.lst t54.2)), some (.dat turn), none, some (.dat (.list due)), some (.dat rows), some (.dat top), none, some (.dat cuts), none, none, none, none, none, none, none, none, none, none, none, none]) rfl (evx_retB (evx_retB (evx_liftB (by rfl) (fun t56 => (evx_ret rfl rfl)))))))))))))))))))))))))))))))))) (fun (x51 : D × List D) => (r_ofX (evx_top (v := fun (z : D × List D) => z.1) (s := fun (z : D × List D) => [some (.dat script), some (.mut true (.lst z.2)), some (.dat turn), none, some (.dat (.list due)), some (.dat rows), some (.dat top), none, some (.dat cuts), none, none, none, none, none, none, none, none, none, none, none, none]) (evx_assoc (evx_assoc (evx_assoc (evx_val (ρ' := [some (.dat script), some (.mut true (.lst x51.2)), some (.dat turn), none, some (.dat (.list due)), some (.dat rows), some (.dat top), none, some (.dat cuts), none, none, none, none, none, none, none, none, none, none, none, none]) rfl (evx_assoc (evx_callM (evx_cslot (b := true) (c := .lst x51.2) rfl (evx_cdatV (ρ' := [some (.dat script), some (.mut true (.lst x51.2)), some (.dat turn), none, some (.dat (.list due)), some (.dat rows), some (.dat top), none, some (.dat cuts), none, none, none, none, none, none, none, none, none, none, none, none]) rfl (evx_cnil (evx_bind (evx_callK (as := [.ref (.lst x51.2), .dat (.int 8)]) (v := (fun (z : D × List D) => z.1)) (os := (fun (z : D × List D) => [.lst z.2])) (s := fun (z : D × List D) => [some (.dat script), some (.mut true (.lst z.2)), some (.dat turn), none, some (.dat (.list due)), some (.dat rows), some (.dat top), none, some (.dat cuts), none, none, none, none, none, none, none, none, none, none, none, none]) (cl__law_take x51.2 (.int 8)) (by rfl) (fun _ => rfl) (sl := [1]) rfl (fun _ => rfl) rfl (by decide)) (fun t59 => (evx_liftB (by rfl) (fun t60 => (evx_assoc (evx_assoc (evx_assoc (evx_val (ρ' := [some (.dat script), some (.mut true (.lst t59.2)), some (.dat turn), none, some (.dat (.list due)), some (.dat rows), some (.dat top), none, some (.dat cuts), none, none, none, none, none, none, none, none, none, none, none, none]) rfl (evx_assoc (evx_callM (evx_cslot (b := true) (c := .lst t59.2) rfl (evx_cdatV (ρ' := [some (.dat script), some (.mut true (.lst t59.2)), some (.dat turn), none, some (.dat (.list due)), some (.dat rows), some (.dat top), none, some (.dat cuts), none, none, none, none, none, none, none, none, none, none, none, none]) rfl (evx_cnil (evx_bind (evx_callK (as := [.ref (.lst t59.2), .dat (.int 4)]) (v := (fun (z : D × List D) => z.1)) (os := (fun (z : D × List D) => [.lst z.2])) (s := fun (z : D × List D) => [some (.dat script), some (.mut true (.lst z.2)), some (.dat turn), none, some (.dat (.list due)), some (.dat rows), some (.dat top), none, some (.dat cuts), none, none, none, none, none, none, none, none, none, none, none, none]) (cl__law_take t59.2 (.int 4)) (by rfl) (fun _ => rfl) (sl := [1]) rfl (fun _ => rfl) rfl (by decide)) (fun t61 => (evx_liftB (by rfl) (fun t62 => (evx_assoc (evx_val (ρ' := [some (.dat script), some (.mut true (.lst t61.2)), some (.dat turn), none, some (.dat (.list due)), some (.dat rows), some (.dat top), none, some (.dat cuts), none, none, none, none, none, none, none, none, none, none, none, none]) rfl (evx_retB (evx_retB (evx_liftB (by rfl) (fun t63 => (evx_ret rfl rfl)))))))))))))))))))))))))))))))))) (fun (x58 : D × List D) => (r_parK (ρ' := [some (.dat script), some (.mut true (.lst x58.2)), some (.dat turn), none, some (.dat (.list due)), some (.dat rows), some (.dat top), none, some (.dat cuts), none, none, some (.dat x51.1), some (.dat x58.1), none, none, none, none, none, none, none, none]) rfl rfl (by decide) rfl (r_assoc (r_asg (ev_ife (ev_asB (ev_bin (ev_bin (ev_bin (ev_val rfl) (ev_ret _)) (ev_bin (ev_val rfl) (ev_ret _))) (ev_bin (ev_val rfl) (ev_ret _)))) (ev_tup (ev_cons (ev_bin (ev_val rfl) (ev_ret _)) (ev_cons (ev_bin (ev_bin (ev_val rfl) (ev_ret _)) (ev_bin (ev_val rfl) (ev_ret _))) (ev_ret _)))) (ev_ret _)) (by rfl) (fun both => (r_tg (ρ' := [some (.dat script), some (.mut true (.lst x58.2)), some (.dat turn), none, some (.dat (.list due)), some (.dat rows), some (.dat top), none, some (.dat cuts), none, none, some (.dat x51.1), some (.dat x58.1), some (.dat both), none, none, none, none, none, none, none]) rfl (r_if (ev_notB (ev_tru (ev_callM (ev_cdat (ev_callM (ev_cdatV rfl (ev_cdatV rfl (ev_cnil (ev_callK (as := [.dat x51.1, .dat x58.1]) (cl_joined x51.1 x58.1)))))) fun a64 => ev_cdatV rfl (ev_cnil (ev_callK (as := [.dat a64, .dat both]) (cl__law_alike 8 a64 both))))))) (by rfl) (r_retV (ρ' := [some (.dat script), some (.mut true (.lst x58.2)), some (.dat turn), none, some (.dat (.list due)), some (.dat rows), some (.dat top), none, some (.dat cuts), none, none, some (.dat x51.1), some (.dat x58.1), some (.dat both), none, none, none, none, none, none, none]) rfl ⟨_, rfl, rfl⟩) (r_nxs (r_last (r_fgt (ρ' := [some (.dat script), some (.mut true (.lst x58.2)), none, none, some (.dat (.list due)), some (.dat rows), some (.dat top), none, some (.dat cuts), none, none, none, none, none, none, none, none, none, none, none, none]) rfl (r_nx rfl)))))))))))))))))) (fun draws => (r_asgX (evx_top (v := fun (z : D × List D) => z.1) (s := fun (z : D × List D) => [some (.dat script), some (.mut true (.lst z.2)), none, none, some (.dat (.list due)), some (.dat rows), some (.dat top), none, some (.dat cuts), none, none, none, none, none, none, none, none, none, none, none, none]) (evx_callM (evx_cslot (b := true) (c := .lst draws) rfl (evx_cdatV (ρ' := [some (.dat script), some (.mut true (.lst draws)), none, none, some (.dat (.list due)), some (.dat rows), some (.dat top), none, some (.dat cuts), none, none, none, none, none, none, none, none, none, none, none, none]) rfl (evx_cnil (evx_bind (evx_callK (as := [.ref (.lst draws), .dat (.int 60)]) (v := (fun (z : D × List D) => z.1)) (os := (fun (z : D × List D) => [.lst z.2])) (s := fun (z : D × List D) => [some (.dat script), some (.mut true (.lst z.2)), none, none, some (.dat (.list due)), some (.dat rows), some (.dat top), none, some (.dat cuts), none, none, none, none, none, none, none, none, none, none, none, none]) (cl__law_take draws (.int 60)) (by rfl) (fun _ => rfl) (sl := [1]) rfl (fun _ => rfl) rfl (by decide)) (fun t67 => (evx_ret rfl rfl)))))))) (fun (x66 : D × List D) => (r_tg (ρ' := [some (.dat script), some (.mut true (.lst x66.2)), none, none, some (.dat (.list due)), some (.dat rows), some (.dat top), none, some (.dat cuts), none, none, none, none, none, some (.dat x66.1), none, none, none, none, none, none]) rfl (r_if (ev_notB (ev_tru (ev_callM (ev_cdat (ev_callM (ev_cdatV rfl (ev_cdatV rfl (ev_cnil (ev_callK (as := [.dat (.int 2), .dat x66.1]) (cl__law_told (.int 2) x66.1)))))) fun a68 => ev_cdat (ev_un (ev_cell (ev_lc (ev_rng2 (ev_cons (ev_ret _) (ev_cons (ev_bin (ev_val rfl) (ev_ret _)) (ev_ret _)))) rfl rfl (fun d69 => (lct (ρ1 := [some (.dat script), some (.mut true (.lst x66.2)), none, some (.dat d69), some (.dat (.list due)), some (.dat rows), some (.dat top), none, some (.dat cuts), none, none, none, none, none, some (.dat x66.1), none, none, none, none, none, none]) rfl (ev_ret _) (ev_un (ev_callM (ev_cdatV rfl (ev_cnil (ev_callK (as := [.dat d69]) (cl__law_heaps d69)))))) rfl rfl))))) fun a70 => ev_cnil (ev_callK (as := [.dat a68, .dat a70]) (cl__law_alike 8 a68 a70)))))) (by rfl) (r_retV (ρ' := [some (.dat script), some (.mut true (.lst x66.2)), none, none, some (.dat (.list due)), some (.dat rows), some (.dat top), none, some (.dat cuts), none, none, none, none, none, some (.dat x66.1), none, none, none, none, none, none]) rfl ⟨_, rfl, rfl⟩) (r_nxs (r_asgX (evx_top (v := fun (z : D × List D) => z.1) (s := fun (z : D × List D) => [some (.dat script), some (.mut true (.lst z.2)), none, none, some (.dat (.list due)), some (.dat rows), some (.dat top), none, some (.dat cuts), none, none, none, none, none, some (.dat x66.1), none, none, none, none, none, none]) (evx_callM (evx_cslot (b := true) (c := .lst x66.2) rfl (evx_cdatX (evx_top (v := fun (z : D × List D) => z.1) (s := fun (z : D × List D) => [some (.dat script), some (.mut true (.lst z.2)), none, none, some (.dat (.list due)), some (.dat rows), some (.dat top), none, some (.dat cuts), none, none, none, none, none, some (.dat x66.1), none, none, none, none, none, none]) (evx_assoc (evx_val (ρ' := [some (.dat script), some (.mut true (.lst x66.2)), none, none, some (.dat (.list due)), some (.dat rows), some (.dat top), none, some (.dat cuts), none, none, none, none, none, some (.dat x66.1), none, none, none, none, none, none]) rfl (evx_assoc (evx_callM (evx_cslot (b := true) (c := .lst x66.2) rfl (evx_cdatV (ρ' := [some (.dat script), some (.mut true (.lst x66.2)), none, none, some (.dat (.list due)), some (.dat rows), some (.dat top), none, some (.dat cuts), none, none, none, none, none, some (.dat x66.1), none, none, none, none, none, none]) rfl (evx_cnil (evx_bind (evx_callK (as := [.ref (.lst x66.2), .dat (.int 2)]) (v := (fun (z : D × List D) => z.1)) (os := (fun (z : D × List D) => [.lst z.2])) (s := fun (z : D × List D) => [some (.dat script), some (.mut true (.lst z.2)), none, none, some (.dat (.list due)), some (.dat rows), some (.dat top), none, some (.dat cuts), none, none, none, none, none, some (.dat x66.1), none, none, none, none, none, none]) (cl__law_take x66.2 (.int 2)) (by rfl) (fun _ => rfl) (sl := [1]) rfl (fun _ => rfl) rfl (by decide)) (fun t74 => (evx_liftB (by rfl) (fun t75 => (evx_ret rfl rfl))))))))))))) (fun (x73 : D × List D) => (evx_cnil (evx_bind (evx_callK (as := [.ref (.lst x73.2), .dat x73.1]) (v := (fun (z : D × List D) => z.1)) (os := (fun (z : D × List D) => [.lst z.2])) (s := fun (z : D × List D) => [some (.dat script), some (.mut true (.lst z.2)), none, none, some (.dat (.list due)), some (.dat rows), some (.dat top), none, some (.dat cuts), none, none, none, none, none, some (.dat x66.1), none, none, none, none, none, none]) (cl__law_take x73.2 x73.1) (by rfl) (fun _ => rfl) (sl := [1]) rfl (fun _ => rfl) rfl (by decide)) (fun t76 => (evx_ret rfl rfl))))))))) (fun (x72 : D × List D) => (r_tg (ρ' := [some (.dat script), some (.mut true (.lst x72.2)), none, none, some (.dat (.list due)), some (.dat rows), some (.dat top), none, some (.dat cuts), none, none, none, none, none, some (.dat x66.1), some (.dat x72.1), none, none, none, none, none]) rfl (r_if (ev_and (ev_asB (ev_bin (ev_val rfl) (ev_ret _))) (ev_asB (ev_bin (ev_callM (ev_cdatV rfl (ev_cdatV rfl (ev_cnil (ev_callK (as := [.dat (.int 2), .dat x72.1]) (cl__law_told (.int 2) x72.1)))))) (ev_un (ev_cell (ev_lc (ev_rng3 (ev_cons (ev_ret _) (ev_cons (ev_bin (ev_val rfl) (ev_ret _)) (ev_cons (ev_ret _) (ev_ret _))))) rfl rfl (fun d77 => (lct (ρ1 := [some (.dat script), some (.mut true (.lst x72.2)), none, none, some (.dat (.list due)), some (.dat rows), some (.dat top), none, some (.dat cuts), none, none, none, none, none, some (.dat x66.1), some (.dat x72.1), some (.dat d77), none, none, none, none]) rfl (ev_ret _) (ev_bin (ev_val rfl) (ev_val rfl)) rfl rfl)))))))) (by rfl) (r_retV (ρ' := [some (.dat script), some (.mut true (.lst x72.2)), none, none, some (.dat (.list due)), some (.dat rows), some (.dat top), none, some (.dat cuts), none, none, none, none, none, some (.dat x66.1), some (.dat x72.1), none, none, none, none, none]) rfl ⟨_, rfl, rfl⟩) (r_nxs (r_if (ev_and (ev_asB (ev_bin (ev_val rfl) (ev_ret _))) (ev_asB (ev_bin (ev_bin (ev_callM (ev_cdatV rfl (ev_cdatV rfl (ev_cnil (ev_callK (as := [.dat (.int 2), .dat x72.1]) (cl__law_told (.int 2) x72.1)))))) (ev_callM (ev_cdatV rfl (ev_cdat (ev_bin (ev_val rfl) (ev_ret _)) fun a79 => ev_cnil (ev_callK (as := [.dat (.int 2), .dat a79]) (cl__law_told (.int 2) a79)))))) (ev_callM (ev_cdatV rfl (ev_cnil (ev_callK (as := [.dat x72.1]) (cl__law_odds x72.1)))))))) (by rfl) (r_retV (ρ' := [some (.dat script), some (.mut true (.lst x72.2)), none, none, some (.dat (.list due)), some (.dat rows), some (.dat top), none, some (.dat cuts), none, none, none, none, none, some (.dat x66.1), some (.dat x72.1), none, none, none, none, none]) rfl ⟨_, rfl, rfl⟩) (r_nxs (r_if (ev_or (ev_asB (ev_bin (ev_cell (ev_lc (ev_items (ev_val rfl)) rfl rfl (fun d81 => (lct_unp2 (fun dd => dd) d81 (fun which bad => (lct (ρ1 := [some (.dat script), some (.mut true (.lst x72.2)), none, none, some (.dat (.list due)), some (.dat rows), some (.dat top), none, some (.dat cuts), none, none, none, none, none, some (.dat x66.1), some (.dat x72.1), none, none, some (.dat which), some (.dat bad), none]) rfl (ev_ret _) (ev_callM (ev_cdatV rfl (ev_cdatV rfl (ev_cnil (ev_callK (as := [.dat which, .dat bad]) (cl__law_told which bad)))))) rfl rfl)))))) (ev_cell (ev_binF (ev_val rfl) (ev_ret _))))) (ev_asB (ev_bin (ev_callM (ev_cdatV rfl (ev_cnil (ev_callK (as := [.dat (.int 0)]) (cl_heaps_to (.int 0)))))) (ev_ret _)))) (by rfl) (r_retV (ρ' := [some (.dat script), some (.mut true (.lst x72.2)), none, none, some (.dat (.list due)), some (.dat rows), some (.dat top), none, some (.dat cuts), none, none, none, none, none, some (.dat x66.1), some (.dat x72.1), none, none, none, none, none]) rfl ⟨_, rfl, rfl⟩) (r_nxs (r_asgV (ρ' := [some (.dat script), some (.mut true (.lst x72.2)), none, none, some (.dat (.list due)), some (.dat rows), some (.dat top), none, some (.dat cuts), none, none, none, none, none, some (.dat x66.1), some (.dat x72.1), none, none, none, none, none]) rfl (r_tg (ρ' := [some (.dat script), some (.mut true (.lst x72.2)), none, none, some (.dat (.list due)), some (.dat rows), some (.dat top), none, some (.dat cuts), none, none, none, none, none, some (.dat x66.1), some (.dat x72.1), some (.dat (.list [.none, (.list [(.int 1), (.int 2)]), (.tuple [(.int 1)]), (.tuple [(.int 0), (.int 1)]), (.tuple [(.int 1), (.int 0)]), (.tuple [(.int 100001), (.int 1)]), (.tuple [(.int 1), (.int 447)]), (.tuple [(.bool true), (.int 1)]), (.tuple [(.int 1), .none]), (.tuple [(.int 1), (.int 2), (.int 3)])])), none, none, none, none]) rfl (r_last (r_ret (ev_andV (ev_bin (ev_callM (ev_cdatV rfl (ev_cnil (ev_callK (as := [.dat (.tuple [(.int 1), (.int 446)])]) (cl_is_heap (.tuple [(.int 1), (.int 446)])))))) (ev_ret _)) (ev_bin (ev_cell (ev_lc (ev_items (ev_val rfl)) rfl rfl (fun d83 => (lctw (ρ1 := [some (.dat script), some (.mut true (.lst x72.2)), none, none, some (.dat (.list due)), some (.dat rows), some (.dat top), none, some (.dat cuts), none, none, none, none, none, some (.dat x66.1), some (.dat x72.1), some (.dat (.list [.none, (.list [(.int 1), (.int 2)]), (.tuple [(.int 1)]), (.tuple [(.int 0), (.int 1)]), (.tuple [(.int 1), (.int 0)]), (.tuple [(.int 100001), (.int 1)]), (.tuple [(.int 1), (.int 447)]), (.tuple [(.bool true), (.int 1)]), (.tuple [(.int 1), .none]), (.tuple [(.int 1), (.int 2), (.int 3)])])), none, none, none, some (.dat d83)]) rfl (ev_notB (ev_tru (ev_callM (ev_cdat (ev_callM (ev_cdatV rfl (ev_cnil (ev_callK (as := [.dat d83]) (cl_is_heap d83))))) fun a84 => ev_cdatV rfl (ev_cnil (ev_callK (as := [.dat a84, .dat (.bool false)]) (cl__law_says a84 (.bool false)))))))) (ev_val rfl) rfl rfl)))) (ev_val rfl))) (by rfl) (fun _ => ⟨_, rfl, rfl⟩)))))))))))))))))))))))))))))))))))))))))))))))))
end K87
namespace K87
open PySem PySem.Spec PyProof.Rows L2 DL
/-! ### what every law has: draws, comparisons -/
def numB (lo hi : Int) : D → Bool
  | .int i => decide (lo ≤ i) && decide (i ≤ hi)
  | _ => false
theorem isnum {d : D} (lo hi : Int) (h : okD 60 d = true) : c_is_number d (.int lo) (.int hi) = .ok (.bool (numB lo hi d)) := by
  unfold c_is_number
  cases d
  case dict kv => simp [okD] at h
  all_goals simp -implicitDefEqProofs [isT_ok h, numB]
  rename_i i
  by_cases h1 : lo ≤ i <;> simp [h1]
theorem take_ok (ns : List Int) {b : Int} (hb : 0 < b) : ∃ (v : Int) (ns' : List Int), c__law_take (dI ns) (.int b) = .ok (.int v, dI ns') ∧ 0 ≤ v ∧ v < b := by
  unfold c__law_take
  rcases List.eq_nil_or_concat ns with rfl | ⟨r, n, rfl⟩
  · exact ⟨0, [], by simp, Int.le_refl _, hb⟩
  · refine ⟨n % b, r, ?_, Int.emod_nonneg _ (by omega), Int.emod_lt_of_pos _ hb⟩
    have hl : ¬ ((r.length : Int) + 1 = 0) := by omega
    simp [O.pop, modD_int hb, hl]
theorem says_ok (b : Bool) : c__law_says (.bool b) (.bool b) = .ok (.bool true) := by
  unfold c__law_says
  simp
theorem alike_seqL {n : Nat} {xs : List D} (ih : ∀ (d : D), okA n d = true → c__law_alike (n + 1) d d = .ok (.bool true)) (hl : xs.length ≤ 16777216) (h : ∀ x ∈ xs, okA n x = true) (hk : okD 60 (.list xs) = true) : c__law_alike (n + 2) (.list xs) (.list xs) = .ok (.bool true) := by
  show b__law_alike (c__law_alike (n + 1)) (.list xs) (.list xs) = _
  generalize c__law_alike (n + 1) = R at ih ⊢
  unfold b__law_alike
  simp -implicitDefEqProofs [isT_ok hk, rng1_nat hl]
  rw [lcL_nil]
  · simp
  · intro d hd
    obtain ⟨i, hi, rfl⟩ := List.mem_map.mp hd
    have hi := List.mem_range.mp hi
    have e : xs[i]? = some xs[i] := List.getElem?_eq_getElem hi
    have ea := ih xs[i] (h _ (List.getElem_mem hi))
    simp -implicitDefEqProofs [ix_lN e, ea]
  · rw [List.length_map, List.length_range]; exact hl
theorem alike_seqT {n : Nat} {xs : List D} (ih : ∀ (d : D), okA n d = true → c__law_alike (n + 1) d d = .ok (.bool true)) (hl : xs.length ≤ 16777216) (h : ∀ x ∈ xs, okA n x = true) (hk : okD 60 (.tuple xs) = true) : c__law_alike (n + 2) (.tuple xs) (.tuple xs) = .ok (.bool true) := by
  show b__law_alike (c__law_alike (n + 1)) (.tuple xs) (.tuple xs) = _
  generalize c__law_alike (n + 1) = R at ih ⊢
  unfold b__law_alike
  simp -implicitDefEqProofs [isT_ok hk, rng1_nat hl]
  rw [lcL_nil]
  · simp
  · intro d hd
    obtain ⟨i, hi, rfl⟩ := List.mem_map.mp hd
    have hi := List.mem_range.mp hi
    have e : xs[i]? = some xs[i] := List.getElem?_eq_getElem hi
    have ea := ih xs[i] (h _ (List.getElem_mem hi))
    simp -implicitDefEqProofs [ix_tN e, ea]
  · rw [List.length_map, List.length_range]; exact hl
theorem alike_flat {R : D → D → O D} {d : D} (h : okA 0 d = true) : b__law_alike R d d = .ok (.bool true) := by
  cases d <;> first | (simp [okA] at h; done) | simp -implicitDefEqProofs [b__law_alike]
theorem okA_seqL {n : Nat} {xs : List D} (h : okA (n + 1) (.list xs) = true) : xs.length ≤ 16777216 ∧ ∀ x ∈ xs, okA n x = true := by
  simpa only [okA, Bool.and_eq_true, List.all_eq_true, decide_eq_true_eq] using h
theorem okA_seqT {n : Nat} {xs : List D} (h : okA (n + 1) (.tuple xs) = true) : xs.length ≤ 16777216 ∧ ∀ x ∈ xs, okA n x = true := by
  simpa only [okA, Bool.and_eq_true, List.all_eq_true, decide_eq_true_eq] using h
theorem alike_self (n : Nat) (hn : n ≤ 59) : ∀ (d : D), okA n d = true → c__law_alike (n + 1) d d = .ok (.bool true) := by
  induction n with
  | zero => exact fun d h => alike_flat h
  | succ n ih =>
    intro d h
    have hk : okD 60 d = true := okA_okD h (by omega)
    cases d with
    | list xs => exact alike_seqL (ih (by omega)) (okA_seqL h).1 (okA_seqL h).2 hk
    | tuple xs => exact alike_seqT (ih (by omega)) (okA_seqT h).1 (okA_seqT h).2 hk
    | dict kv => simp [okA] at h
    | _ => exact alike_flat rfl
theorem alike_ok {d : D} (h : okA 7 d = true) : c__law_alike 8 d d = .ok (.bool true) := alike_self 7 (by omega) d h
theorem inv_then {S S' B R : Type} {f : D → S → Y S S R} {I : List D → S → Prop} {ds : List D} {s : S} {k : S → Y S' B R} (P : Y S' B R → Prop) (h : ∀ d r s, d ∈ ds → I (d :: r) s → ∃ s', f d s = .nx s' ∧ I r s') (h0 : I ds s) (hk : ∀ s', I [] s' → P (k s')) : P ((Y.forL f ds s).then' k) := by
  obtain ⟨s', h1, h2⟩ := forL_inv' (B := B) h h0
  rw [h1]
  exact hk s' h2
theorem draws_ok (ns : List Int) (hn : ns.length ≤ 63) : ∃ ds : List Int, c__law_draws (.list (dI ns)) = .ok (.lst (dI ds)) := by
  unfold c__law_draws
  have hp : powD (.int 10) (.int 18) = some (.int 1000000000000000000) := by rw [powD_i (by decide)]; rfl
  simp -implicitDefEqProofs only [O.items, O.bind_ok, items_l, O.lift_some, Y.of_ok]
  refine inv_then (I := fun (r : List D) (s : List D) => ∃ ds : List Int, s = dI ds ∧ ds.length + 62 * r.length ≤ 3906) (fun y => ∃ ds : List Int, Y.finF y = O.ok (Cell.lst (dI ds))) ?_ ⟨[], rfl, by simp; omega⟩ ?_
  · rintro d r s hd ⟨ds, rfl, hl⟩
    obtain ⟨n, _, rfl⟩ := List.mem_map.mp hd
    simp -implicitDefEqProofs only [List.length_cons] at hl
    have h60 : rng1D [.int 60] = some ((List.range 60).map fun i => PyData.int (i : Nat)) := rng1_nat (n := 60) (by omega)
    have key : ∀ (es : List Int) (m : Int), es.length + 60 + 62 * r.length ≤ 3906 → ∃ s', (Y.forL (B := List D) (R := Cell) (fun (k : D) (s7 : List D × D) => match s7 with | (draws, number) => (Y.of (O.asB (O.bin gtD (O.ok number) (O.ok (.int 0)))) fun t9 => if t9 = true then (Y.of ((O.bin modD (O.un intOfD (O.ok number)) (O.ok (.int 997))).bind fun d10 => O.app draws d10) fun draws => (Y.of (O.bin fdivD (O.ok number) (O.ok (.int 997))) fun number => (Y.nx (draws, number)))) else (Y.nx (draws, number)))) ((List.range 60).map fun i => PyData.int (i : Nat)) (dI es, .int m)).then' (fun (s7 : List D × D) => match s7 with | (draws, number) => (Y.nx draws)) = (.nx s' : Y (List D) (List D) Cell) ∧ ∃ ds : List Int, s' = dI ds ∧ ds.length + 62 * r.length ≤ 3906 := by
      intro es m hes
      refine inv_then (I := fun r2 (s : List D × D) => ∃ (ds : List Int) (m : Int), s = (dI ds, .int m) ∧ ds.length + r2.length + 62 * r.length ≤ 3906) (fun y => ∃ s', y = .nx s' ∧ ∃ ds : List Int, s' = dI ds ∧ ds.length + 62 * r.length ≤ 3906) ?_ ⟨es, m, rfl, by simpa using hes⟩ ?_
      · rintro d r2 s - ⟨ds, m, rfl, hl⟩
        simp -implicitDefEqProofs only [List.length_cons] at hl
        by_cases hm : 0 < m
        · refine ⟨(dI (ds ++ [m % 997]), .int (m / 997)), ?_, ds ++ [m % 997], m / 997, rfl, by simp; omega⟩
          have hx : (dI ds).length < 16777216 := by simp; omega
          simp -implicitDefEqProofs [hm, fdiv_s, O_app hx, -List.length_map]
        · exact ⟨(dI ds, .int m), by simp -implicitDefEqProofs [hm], ds, m, rfl, by omega⟩
      · rintro ⟨a, b⟩ ⟨ds, m, e, hl⟩
        cases e
        exact ⟨_, rfl, ds, rfl, by simpa using hl⟩
    by_cases hs : (n.natAbs : Int) < 1000000000000000000
    · have hx : (dI ds).length < 16777216 := by simp; omega
      have m1 : ∀ i : Int, mulID (.int i) (.int 48271) = some (.int (i * 48271)) := fun i => mulID_small (.inr (by decide))
      have m2 : ∀ i : Int, mulID (.int i) (.int 69621) = some (.int (i * 69621)) := fun i => mulID_small (.inr (by decide))
      simp -implicitDefEqProofs only [abs_i, O.bind_ok, O.lift_some, Y.of_ok, hp, ltD_int, hs, decide_true, bool_b, if_true, m1, m2, addD_int, intOf_i, h60]
      rw [modD_int (by omega)]
      simp -implicitDefEqProofs only [O.bind_ok, O.lift_some, Y.of_ok, m2, addD_int, intOf_i]
      rw [modD_int (by omega)]
      simp -implicitDefEqProofs only [O.bind_ok, O.lift_some, Y.of_ok, O_app hx, fdiv_s (i := (n.natAbs : Int)) (j := 7) (by omega) (by omega), addD_int, intOf_i]
      rw [modD_int (by omega)]
      simp -implicitDefEqProofs only [O.bind_ok, O.lift_some, Y.of_ok]
      rw [O_app (by simp; omega)]
      simp -implicitDefEqProofs only [Y.of_ok, Y.then_nx]
      have k2 := fun a b : Int => key (ds ++ [a] ++ [b]) 0 (by simp; omega)
      simp -implicitDefEqProofs only [List.map_append, List.map_cons, List.map_nil] at k2
      exact k2 _ _
    · simp -implicitDefEqProofs only [abs_i, O.bind_ok, O.lift_some, Y.of_ok, hp, ltD_int, hs, decide_false, bool_b, Bool.false_eq_true, if_false, h60, Y.then_nx]
      exact key ds _ (by omega)
  · rintro s ⟨ds, rfl, hl⟩
    have hl : ds.length ≤ 3906 := by simpa using hl
    have h900 : rng1D [.int 900] = some ((List.range 900).map fun i => PyData.int (i : Nat)) := rng1_nat (n := 900) (by omega)
    have m1 : ∀ i : Int, mulID (.int i) (.int 48271) = some (.int (i * 48271)) := fun i => mulID_small (.inr (by decide))
    have fin : ∀ sd : Int, ∃ es : List Int, Y.finF ((Y.forL (B := Empty) (fun (k : D) (s13 : List D × D) => match s13 with | (draws, seed) => (Y.of (O.bin modD (O.un intOfD (O.bin addD (O.bin mulID (O.ok seed) (O.ok (.int 48271))) (O.ok (.int 69621)))) (O.ok (.int 2147483647))) fun seed => (Y.of ((O.bin fdivD (O.ok seed) (O.ok (.int 5))).bind fun d15 => O.app draws d15) fun draws => (Y.nx (draws, seed))))) ((List.range 900).map fun i => PyData.int (i : Nat)) (dI ds, .int sd)).then' (fun (s13 : List D × D) => match s13 with | (draws, seed) => (Y.of (O.unF revF (O.ok (.list draws))) fun d16 => (Y.ret d16 : Y Unit Empty Cell)))) = .ok (.lst (dI es)) := by
      intro sd
      refine inv_then (I := fun r (s : List D × D) => ∃ (ds : List Int) (m : Int), s = (dI ds, .int m) ∧ ds.length + r.length ≤ 4806) (fun y => ∃ es : List Int, Y.finF y = O.ok (Cell.lst (dI es))) ?_ ⟨ds, sd, rfl, by simp; omega⟩ ?_
      · rintro d r s - ⟨ds, m, rfl, hl⟩
        simp -implicitDefEqProofs only [List.length_cons] at hl
        refine ⟨(dI (ds ++ [(m * 48271 + 69621) % 2147483647 / 5]), .int ((m * 48271 + 69621) % 2147483647)), ?_, _, _, rfl, by simp; omega⟩
        have hx : (dI ds).length < 16777216 := by simp; omega
        simp -implicitDefEqProofs [m1, fdiv_s, O_app hx, -List.length_map]
      · rintro ⟨a, b⟩ ⟨es, m, e, -⟩
        cases e
        exact ⟨es.reverse, by simp [Y.finF, List.map_reverse]⟩
    cases ns with
    | nil => 
      simp -implicitDefEqProofs only [List.map_nil, O.bind_ok, O.lift_some, len_l, gtD_int, Y.of_ok, bool_b, List.length_nil, Y.then_nx, h900]
      have f1 := fin 1
      simp -implicitDefEqProofs only [List.map_nil] at f1
      exact f1
    | cons n r =>
      have hx : (0 : Int) < ((r.length + 1 : Nat) : Int) := by omega
      simp -implicitDefEqProofs only [List.map_cons, O.bind_ok, O.lift_some, len_l, gtD_int, Y.of_ok, bool_b, List.length_cons, List.length_map, hx, decide_true, if_true, ix_l0, abs_i, addD_int, Y.then_nx, h900]
      exact fin _
end K87
namespace K87
/-! ### heaps and odd divisors -/
def t : Nat → Nat
  | 0 => 0
  | r + 1 => t r + r
theorem t2 (r : Nat) : 2 * t r + r = r * r := by
  induction r with
  | zero => rfl
  | succ r ih => simp only [t]; grind
theorem t_add (a b : Nat) : t (a + b) = t a + t b + a * b := by
  have h1 := t2 (a + b)
  have h2 := t2 a
  have h3 := t2 b
  grind
theorem t_le {a b : Nat} (h : a ≤ b) : t a ≤ t b := by
  obtain ⟨k, rfl⟩ := Nat.exists_eq_add_of_le h
  rw [t_add]
  omega
theorem t_odd (q : Nat) : t (2 * q + 1) = (2 * q + 1) * q := by
  have := t2 (2 * q + 1)
  grind
theorem t_even (q : Nat) : t (2 * q) + q = 2 * q * q := by
  have := t2 (2 * q)
  grind
def P (n r : Nat) : Bool := decide (t r + r ≤ n) && decide (r ∣ n - t r)
theorem P_iff {n r : Nat} (hr : 1 ≤ r) : P n r = true ↔ ∃ top, 1 ≤ top ∧ n = r * top + t r := by
  unfold P
  rw [Bool.and_eq_true, decide_eq_true_eq, decide_eq_true_eq]
  constructor
  · rintro ⟨h1, k, hk⟩
    refine ⟨k, ?_, by omega⟩
    rcases Nat.eq_zero_or_pos k with rfl | h
    · omega
    · exact h
  · rintro ⟨top, h1, rfl⟩
    have : r * 1 ≤ r * top := Nat.mul_le_mul_left r h1
    exact ⟨by omega, top, by omega⟩
theorem P_le {n r : Nat} (h : P n r = true) : r ≤ n := by
  unfold P at h
  rw [Bool.and_eq_true, decide_eq_true_eq] at h
  omega
def hL (n : Nat) : List Nat := (List.range' 1 n).filter (P n)
def oL (n : Nat) : List Nat := (List.range' 1 n).filter fun d => decide (d % 2 = 1) && decide (d ∣ n)
theorem nd_range (a n : Nat) : (List.range' a n).Nodup := List.nodup_range'
theorem nd_hL (n : Nat) : (hL n).Nodup := List.Pairwise.filter _ (nd_range _ _)
theorem nd_oL (n : Nat) : (oL n).Nodup := List.Pairwise.filter _ (nd_range _ _)
theorem mem_hL {n r : Nat} : r ∈ hL n ↔ 1 ≤ r ∧ P n r = true := by
  unfold hL
  rw [List.mem_filter, List.mem_range'_1]
  constructor
  · rintro ⟨h1, h2⟩
    exact ⟨h1.1, h2⟩
  · rintro ⟨h1, h2⟩
    have := P_le h2
    exact ⟨⟨h1, by omega⟩, h2⟩
theorem mem_oL {n d : Nat} (hn : 1 ≤ n) : d ∈ oL n ↔ d % 2 = 1 ∧ d ∣ n := by
  unfold oL
  rw [List.mem_filter, List.mem_range'_1, Bool.and_eq_true, decide_eq_true_eq, decide_eq_true_eq]
  constructor
  · rintro ⟨h1, h2⟩
    exact h2
  · rintro ⟨h1, h2⟩
    have := Nat.le_of_dvd hn h2
    exact ⟨⟨by omega, by omega⟩, h1, h2⟩
theorem len_of_mem {a b : List Nat} (ha : a.Nodup) (hb : b.Nodup) (h : ∀ x, x ∈ a ↔ x ∈ b) : a.length = b.length :=
  ((List.perm_ext_iff_of_nodup ha hb).mpr h).length_eq
def fo (n r : Nat) : Nat := if r % 2 = 1 then r else 2 * n / r
theorem fo_of {n r top : Nat} (hr : 1 ≤ r) (ht : 1 ≤ top) (h : n = r * top + t r) : ∃ s, r < s ∧ 2 * n = r * s ∧ ((r % 2 = 1 ∧ s % 2 = 0 ∧ fo n r = r) ∨ (r % 2 = 0 ∧ s % 2 = 1 ∧ fo n r = s)) := by
  have h2 := t2 r
  refine ⟨2 * top + r - 1, by omega, ?_, ?_⟩
  · have : r * (2 * top + r - 1) + r = r * (2 * top + r) := by
      rw [← Nat.mul_succ]; congr 1; omega
    grind
  · rcases Nat.mod_two_eq_zero_or_one r with e | e
    · right
      refine ⟨e, by omega, ?_⟩
      unfold fo
      rw [if_neg (by omega)]
      have : 2 * n = r * (2 * top + r - 1) := by
        have : r * (2 * top + r - 1) + r = r * (2 * top + r) := by
          rw [← Nat.mul_succ]; congr 1; omega
        grind
      rw [this, Nat.mul_div_cancel_left _ (by omega)]
    · left
      refine ⟨e, by omega, ?_⟩
      unfold fo
      rw [if_pos e]
theorem K_len {n : Nat} (hn : 1 ≤ n) : (hL n).length = (oL n).length := by
  rw [← List.length_map (f := fo n) (as := hL n)]
  refine len_of_mem ?_ (nd_oL n) fun x => ?_
  · refine List.Pairwise.map _ (R := fun a b => a ≠ b ∧ a ∈ hL n ∧ b ∈ hL n) (fun a b ⟨h, ha, hb⟩ e => ?_) ?_
    · obtain ⟨a1, pa⟩ := mem_hL.mp ha
      obtain ⟨b1, pb⟩ := mem_hL.mp hb
      obtain ⟨ta, ta1, ea⟩ := (P_iff a1).mp pa
      obtain ⟨tb, tb1, eb⟩ := (P_iff b1).mp pb
      obtain ⟨s, s1, s2, s3⟩ := fo_of a1 ta1 ea
      obtain ⟨u, u1, u2, u3⟩ := fo_of b1 tb1 eb
      rcases s3 with ⟨p1, p2, p3⟩ | ⟨p1, p2, p3⟩ <;> rcases u3 with ⟨q1, q2, q3⟩ | ⟨q1, q2, q3⟩
      · exact h (by omega)
      · have e1 : a = u := by omega
        subst e1
        have e2 : s = b := Nat.eq_of_mul_eq_mul_left (show 0 < a by omega) (by rw [← s2, u2, Nat.mul_comm])
        omega
      · have e1 : s = b := by omega
        subst e1
        have e2 : a = u := Nat.eq_of_mul_eq_mul_left (show 0 < s by omega) (by rw [← u2, s2, Nat.mul_comm])
        omega
      · have e1 : s = u := by omega
        subst e1
        exact h (Nat.eq_of_mul_eq_mul_right (show 0 < s by omega) (by rw [← s2, u2]))
    · exact List.Pairwise.imp_of_mem (fun ha hb h => ⟨h, ha, hb⟩) (nd_hL n)
  · rw [List.mem_map, mem_oL hn]
    constructor
    · rintro ⟨r, hr, rfl⟩
      obtain ⟨r1, pr⟩ := mem_hL.mp hr
      obtain ⟨top, ht, e⟩ := (P_iff r1).mp pr
      obtain ⟨s, s1, s2, s3⟩ := fo_of r1 ht e
      rcases s3 with ⟨p1, p2, p3⟩ | ⟨p1, p2, p3⟩
      · rw [p3]
        refine ⟨p1, s / 2, ?_⟩
        have : s = 2 * (s / 2) := by omega
        rw [this] at s2
        grind
      · rw [p3]
        refine ⟨p2, r / 2, ?_⟩
        have : r = 2 * (r / 2) := by omega
        rw [this] at s2
        grind
    · rintro ⟨h1, e, rfl⟩
      have he : 1 ≤ e := by
        rcases Nat.eq_zero_or_pos e with rfl | h
        · simp at hn
        · exact h
      obtain ⟨q, rfl⟩ : ∃ q, x = 2 * q + 1 := ⟨x / 2, by omega⟩
      by_cases hlt : 2 * q + 1 < 2 * e
      · refine ⟨2 * q + 1, mem_hL.mpr ⟨by omega, (P_iff (by omega)).mpr ⟨e - q, by omega, ?_⟩⟩, by unfold fo; rw [if_pos h1]⟩
        rw [t_odd, ← Nat.mul_add]
        congr 1
        omega
      · have hev := t_even e
        refine ⟨2 * e, mem_hL.mpr ⟨by omega, (P_iff (by omega)).mpr ⟨q + 1 - e, by omega, ?_⟩⟩, ?_⟩
        · have h3 : 2 * e * (q + 1 - e) + 2 * e * e = 2 * e * (q + 1) := by
            rw [← Nat.mul_add]
            congr 1
            omega
          grind
        · unfold fo
          rw [if_neg (by omega), show 2 * ((2 * q + 1) * e) = 2 * e * (2 * q + 1) by grind, Nat.mul_div_cancel_left _ (by omega)]
/-- what is odd divides a number as it divides its double -/
theorem oL_double {n : Nat} (hn : 1 ≤ n) : (oL (2 * n)).length = (oL n).length := by
  refine len_of_mem (nd_oL _) (nd_oL _) fun x => ?_
  rw [mem_oL (by omega), mem_oL hn]
  constructor
  · rintro ⟨h1, k, hk⟩
    refine ⟨h1, k / 2, ?_⟩
    have hk2 : k % 2 = 0 := by
      have h2 : (x * k) % 2 = 0 := by rw [← hk]; omega
      rw [Nat.mul_mod, h1] at h2
      omega
    have : k = 2 * (k / 2) := by omega
    rw [this] at hk
    grind
  · rintro ⟨h1, k, hk⟩
    exact ⟨h1, 2 * k, by grind⟩
/-! ### sums -/
theorem div_succ {a r : Nat} (hr : 1 ≤ r) : (a + 1) / r = a / r + (if r ∣ a + 1 then 1 else 0) := by
  have h1 := Nat.div_add_mod a r
  have h2 := Nat.mod_lt a (show r > 0 by omega)
  by_cases h : a % r + 1 = r
  · have e : a + 1 = r * (a / r + 1) := by rw [Nat.mul_succ]; omega
    rw [if_pos ⟨_, e⟩, e, Nat.mul_div_cancel_left _ (by omega)]
  · have e : a + 1 = r * (a / r) + (a % r + 1) := by omega
    have hn : ¬ r ∣ a + 1 := by
      intro hd
      have := Nat.mod_eq_zero_of_dvd hd
      rw [e, Nat.mul_add_mod, Nat.mod_eq_of_lt (by omega)] at this
      omega
    rw [if_neg hn, e, Nat.mul_add_div (by omega), Nat.div_eq_of_lt (a := a % r + 1) (by omega)]
theorem term_succ {n r : Nat} (hr : 1 ≤ r) : (n + 1 - t r) / r = (n - t r) / r + (if P (n + 1) r = true then 1 else 0) := by
  unfold P
  by_cases h : t r ≤ n
  · rw [show n + 1 - t r = n - t r + 1 by omega, div_succ hr]
    congr 1
    by_cases hd : r ∣ n - t r + 1
    · have := Nat.le_of_dvd (by omega) hd
      have h2 : t r + r ≤ n + 1 := by omega
      simp [hd, h2]
    · simp [hd]
  · have h2 : ¬ t r + r ≤ n + 1 := by omega
    rw [show n + 1 - t r = 0 by omega, show n - t r = 0 by omega]
    simp [h2]
def TH (n : Nat) : Nat := ((List.range' 1 n).map fun r => (n - t r) / r).sum
def OH (n : Nat) : Nat := (((List.range' 1 n).filter fun d => decide (d % 2 = 1)).map fun d => n / d).sum
theorem sum_succ (f g : Nat → Nat) (p : Nat → Bool) : ∀ (l : List Nat), (∀ r ∈ l, f r = g r + (if p r = true then 1 else 0)) → (l.map f).sum = (l.map g).sum + (l.filter p).length
  | [], _ => rfl
  | x :: l, h => by
    have h1 := sum_succ f g p l fun r hr => h r (by simp [hr])
    have h2 := h x (by simp)
    rw [List.map_cons, List.sum_cons, List.map_cons, List.sum_cons, List.filter_cons, h1, h2]
    by_cases e : p x = true
    · simp [e]; omega
    · simp [e]; omega
theorem TH_succ (n : Nat) : TH (n + 1) = TH n + (hL (n + 1)).length := by
  unfold TH hL
  rw [sum_succ _ (fun r => (n - t r) / r) (P (n + 1)) _ fun r hr => term_succ (by rw [List.mem_range'_1] at hr; omega)]
  congr 1
  rw [List.range'_concat, List.map_append, List.sum_append]
  have : (n - t (1 + n)) / (1 + n) = 0 := Nat.div_eq_of_lt (by omega)
  simp [this]
theorem OH_succ (n : Nat) : OH (n + 1) = OH n + (oL (n + 1)).length := by
  unfold OH oL
  rw [sum_succ _ (fun d => n / d) (fun d => decide (d ∣ n + 1)) _ fun r hr => ?_]
  · rw [List.range'_concat, List.filter_append, List.map_append, List.sum_append, List.filter_append, List.filter_append]
    have : n / (1 + n) = 0 := Nat.div_eq_of_lt (by omega)
    have h0 : ((List.filter (fun d => decide (d % 2 = 1)) [1 + 1 * n]).map fun d => n / d).sum = 0 := by
      rw [Nat.one_mul]
      by_cases h : (1 + n) % 2 = 1
      · rw [List.filter_cons_of_pos (by simpa using h)]; simp [this]
      · rw [List.filter_cons_of_neg (by simpa using h)]; rfl
    rw [h0, List.filter_filter, List.filter_filter, Nat.add_zero]
    simp only [Bool.and_comm]
  · have := (List.mem_filter.mp hr).1
    rw [List.mem_range'_1] at this
    rw [div_succ (by omega)]
    simp
theorem OH_TH (n : Nat) : OH n = TH n := by
  induction n with
  | zero => rfl
  | succ n ih => rw [OH_succ, TH_succ, ih, K_len (by omega)]
theorem TH_sum (n : Nat) : TH n = ((List.range' 1 n).map fun m => (hL m).length).sum := by
  induction n with
  | zero => rfl
  | succ n ih => rw [TH_succ, ih, List.range'_concat, List.map_append, List.sum_append]; simp [Nat.add_comm]
end K87
namespace K87
open PySem PySem.Spec PyProof.Rows L2 DL
/-! ### the loops -/
theorem tI (r : Nat) : (r : Int) * ((r : Int) - 1) / 2 = (t r : Int) := by
  have h := t2 r
  have h2 : (2 : Int) * (t r : Int) + (r : Int) = (r : Int) * (r : Int) := by exact_mod_cast h
  rw [show (r : Int) * ((r : Int) - 1) = 2 * (t r : Int) by grind]
  omega
theorem rr_le {n r : Nat} : r * (r + 1) ≤ 2 * n ↔ t r + r ≤ n := by
  have := t2 r
  rw [Nat.mul_succ]
  omega
def hp (n r : Nat) : D := .tuple [.int ((n - t r) / r : Nat), .int (r : Nat)]
def HD (n i : Nat) : List D := ((List.range' 1 i).filter (P n)).map (hp n)
theorem HD_succ (n i : Nat) : HD n (i + 1) = if P n (i + 1) = true then HD n i ++ [hp n (i + 1)] else HD n i := by
  unfold HD
  rw [List.range'_concat, List.filter_append, Nat.one_mul, Nat.add_comm 1 i]
  by_cases h : P n (i + 1) = true
  · rw [if_pos h, List.filter_cons_of_pos h]; simp
  · rw [if_neg h, List.filter_cons_of_neg h]; simp
theorem HD_len (n i : Nat) : (HD n i).length ≤ i := by
  unfold HD
  rw [List.length_map]
  exact Nat.le_trans (List.length_filter_le _ _) (by simp)
theorem HD_end {n k : Nat} (h : ¬ t (k + 1) + (k + 1) ≤ n) : HD n k = (hL n).map (hp n) := by
  unfold HD hL
  congr 1
  by_cases hk : k ≤ n
  · obtain ⟨m, rfl⟩ := Nat.exists_eq_add_of_le hk
    rw [← List.range'_append_1, List.filter_append]
    rw [(List.filter_eq_nil_iff (l := List.range' (1 + k) m)).mpr fun r hr hP => ?_]
    · simp
    · rw [List.mem_range'_1] at hr
      have h1 := t_le (a := k + 1) (b := r) (by omega)
      unfold P at hP
      rw [Bool.and_eq_true, decide_eq_true_eq] at hP
      omega
  · have h1 : t n + n ≤ n → n ≤ 1 := fun h => by
      have := t2 n
      have : n * n ≤ 1 * n := by omega
      rcases Nat.eq_zero_or_pos n with e | e
      · omega
      · exact Nat.le_of_mul_le_mul_right this e
    obtain ⟨m, rfl⟩ := Nat.exists_eq_add_of_le (show n ≤ k by omega)
    rw [← List.range'_append_1, List.filter_append]
    rw [(List.filter_eq_nil_iff (l := List.range' (1 + n) m)).mpr fun r hr hP => ?_]
    · simp
    · rw [List.mem_range'_1] at hr
      have := P_le hP
      omega
theorem heaps_stop (n : Nat) : ∃ k, k ≤ n ∧ (∀ i, i < k → t (i + 1) + (i + 1) ≤ n) ∧ ¬ t (k + 1) + (k + 1) ≤ n :=
  least_not (fun i => t (i + 1) + (i + 1) ≤ n) n (by omega)
theorem check_ok {n : Nat} (h1 : 1 ≤ n) (h2 : n ≤ 100000) : c_check_logs (.int (n : Nat)) = .ok .none := by
  unfold c_check_logs
  have hk : k_MOST_LOGS = .int 100000 := rfl
  have e : numB 1 100000 (.int (n : Nat)) = true := by simp [numB]; omega
  simp -implicitDefEqProofs [hk, isnum, e, Y.fin]
theorem heaps_ok {n : Nat} (h1 : 1 ≤ n) (h2 : n ≤ 100000) : c_heaps_of (.int (n : Nat)) = .ok (.tuple ((hL n).map (hp n))) := by
  obtain ⟨k, k1, k2, k3⟩ := heaps_stop n
  unfold c_heaps_of
  rw [check_ok h1 h2, Y.of_ok]
  refine whl_then (fun y => Y.fin (fun _ => PyData.none) y = O.ok (PyData.tuple ((hL n).map (hp n)))) k (fun i : Nat => (HD n i, PyData.int ((i + 1 : Nat) : Int))) rfl ?_ ?_ ?_
  · intro i hi
    have hc := k2 i hi
    have hr : (i + 1) * (i + 1 + 1) ≤ 2 * n := rr_le.mpr hc
    have m1 : mulID (.int ((i + 1 : Nat) : Int)) (.int (((i + 1 : Nat) : Int) + 1)) = some (.int (((i + 1 : Nat) : Int) * (((i + 1 : Nat) : Int) + 1))) := mulID_small (.inl (by omega))
    have m2 : mulID (.int 2) (.int (n : Nat)) = some (.int (2 * (n : Nat))) := mulID_small (.inl (by omega))
    have m3 : mulID (.int ((i + 1 : Nat) : Int)) (.int (((i + 1 : Nat) : Int) - 1)) = some (.int (((i + 1 : Nat) : Int) * (((i + 1 : Nat) : Int) - 1))) := mulID_small (.inl (by omega))
    have g1 : ((i + 1 : Nat) : Int) * (((i + 1 : Nat) : Int) + 1) ≤ 2 * (n : Nat) := by exact_mod_cast hr
    have hl := HD_len n i
    have e4 : (n : Int) - (t (i + 1) : Nat) = ((n - t (i + 1) : Nat) : Int) := by omega
    refine ⟨by simp -implicitDefEqProofs only [O.bind_ok, addD_int, O.lift_some, m1, m2, leD_int, g1, decide_true, bool_b], ?_⟩
    simp -implicitDefEqProofs only [O.bind_ok, subD_int, O.lift_some, m3, Y.of_ok, fdiv_s (show (0 : Int) < 2 by omega) (by omega), tI, e4]
    rw [modD_int (by omega)]
    simp -implicitDefEqProofs only [O.bind_ok, O.lift_some, eqD_int, bool_b, Y.of_ok]
    have e5 : decide (((n - t (i + 1) : Nat) : Int) % ((i + 1 : Nat) : Int) = 0) = P n (i + 1) := by
      unfold P
      rw [show decide (t (i + 1) + (i + 1) ≤ n) = true by simpa using hc, Bool.true_and]
      rw [decide_eq_decide, Nat.dvd_iff_mod_eq_zero]
      norm_cast
    rw [e5, HD_succ]
    have e6 : ((n - t (i + 1) : Nat) : Int) / ((i + 1 : Nat) : Int) = (((n - t (i + 1)) / (i + 1) : Nat) : Int) := by norm_cast
    cases hP : P n (i + 1) with
    | false => simp -implicitDefEqProofs [intD0]
    | true =>
      simp -implicitDefEqProofs only [if_true, O.bind_ok, fdiv_s (show (0 : Int) < ((i + 1 : Nat) : Int) by omega) (by omega), O.lift_some, e6]
      rw [tupD_ok (by simp)]
      simp -implicitDefEqProofs only [O.bind_ok, O.lift_some]
      rw [O_app (by omega)]
      simp -implicitDefEqProofs [intD0, hp]
  · have hr : ¬ (k + 1) * (k + 1 + 1) ≤ 2 * n := fun z => k3 (rr_le.mp z)
    have m1 : mulID (.int ((k + 1 : Nat) : Int)) (.int (((k + 1 : Nat) : Int) + 1)) = some (.int (((k + 1 : Nat) : Int) * (((k + 1 : Nat) : Int) + 1))) := mulID_small (.inl (by omega))
    have m2 : mulID (.int 2) (.int (n : Nat)) = some (.int (2 * (n : Nat))) := mulID_small (.inl (by omega))
    have g1 : ¬ ((k + 1 : Nat) : Int) * (((k + 1 : Nat) : Int) + 1) ≤ 2 * (n : Nat) := by exact_mod_cast hr
    simp -implicitDefEqProofs only [O.bind_ok, addD_int, O.lift_some, m1, m2, leD_int, g1, decide_false, bool_b]
  · simp -implicitDefEqProofs only [HD_end k3]
    simp -implicitDefEqProofs [Y.fin]
theorem law_heaps_ok {n : Nat} (h2 : n ≤ 100000) : c__law_heaps (.int (n : Nat)) = .ok (.tuple ((hL n).map (hp n))) := by
  obtain ⟨k, k1, k2, k3⟩ := heaps_stop n
  unfold c__law_heaps
  rw [unp2_t]
  refine whl_then (fun y => Y.fin (fun _ => PyData.none) y = O.ok (PyData.tuple ((hL n).map (hp n)))) k (fun i : Nat => (HD n i, PyData.int ((t (i + 1) : Nat) : Int), PyData.int ((i + 1 : Nat) : Int))) rfl ?_ ?_ ?_
  · intro i hi
    have hc := k2 i hi
    have hl := HD_len n i
    have e4 : (n : Int) - (t (i + 1) : Nat) = ((n - t (i + 1) : Nat) : Int) := by omega
    have g1 : ((i + 1 : Nat) : Int) ≤ ((n - t (i + 1) : Nat) : Int) := by omega
    refine ⟨by simp -implicitDefEqProofs only [O.bind_ok, subD_int, e4, O.lift_some, geD_int, g1, decide_true, bool_b], ?_⟩
    have e6 : ((n - t (i + 1) : Nat) : Int) / ((i + 1 : Nat) : Int) = (((n - t (i + 1)) / (i + 1) : Nat) : Int) := by norm_cast
    have hq : (n - t (i + 1)) / (i + 1) ≤ n := Nat.le_trans (Nat.div_le_self _ _) (by omega)
    have m1 : mulID (.int (((n - t (i + 1)) / (i + 1) : Nat) : Int)) (.int ((i + 1 : Nat) : Int)) = some (.int ((((n - t (i + 1)) / (i + 1) : Nat) : Int) * ((i + 1 : Nat) : Int))) := mulID_small (.inr (by omega))
    simp -implicitDefEqProofs only [O.bind_ok, subD_int, O.lift_some, e4, fdiv_s (show (0 : Int) < ((i + 1 : Nat) : Int) by omega) (by omega), e6, m1, eqD_int, bool_b, Y.of_ok]
    have e5 : decide ((((n - t (i + 1)) / (i + 1) : Nat) : Int) * ((i + 1 : Nat) : Int) = ((n - t (i + 1) : Nat) : Int)) = P n (i + 1) := by
      unfold P
      rw [show decide (t (i + 1) + (i + 1) ≤ n) = true by simpa using hc, Bool.true_and]
      rw [decide_eq_decide]
      constructor
      · intro h
        exact ⟨(n - t (i + 1)) / (i + 1), by rw [Nat.mul_comm]; exact_mod_cast h.symm⟩
      · intro h
        have := Nat.div_mul_cancel h
        exact_mod_cast this
    rw [e5, HD_succ]
    cases hP : P n (i + 1) with
    | false => simp -implicitDefEqProofs [t]
    | true =>
      simp -implicitDefEqProofs only [if_true, O.bind_ok]
      rw [tupD_ok (by simp)]
      simp -implicitDefEqProofs only [O.bind_ok, O.lift_some]
      rw [O_app (by omega)]
      simp -implicitDefEqProofs [t, hp]
  · have g1 : ¬ ((k + 1 : Nat) : Int) ≤ (n : Int) - ((t (k + 1) : Nat) : Int) := by omega
    simp -implicitDefEqProofs only [O.bind_ok, subD_int, O.lift_some, geD_int, g1, decide_false, bool_b]
  · simp -implicitDefEqProofs only [HD_end k3]
    simp -implicitDefEqProofs [Y.fin]
/-- how many at most -/
def TP (n i : Nat) : Nat := ((List.range' 1 i).map fun r => (n - t r) / r).sum
theorem TP_succ (n i : Nat) : TP n (i + 1) = TP n i + (n - t (i + 1)) / (i + 1) := by
  unfold TP
  rw [List.range'_concat, List.map_append, List.sum_append, Nat.one_mul, Nat.add_comm 1 i]
  simp
theorem TP_le {n k m : Nat} (h : ∀ r, k < r → (n - t r) / r = 0) : TP n (k + m) = TP n k := by
  induction m with
  | zero => rfl
  | succ m ih => rw [Nat.add_succ, TP_succ, ih, h _ (by omega), Nat.add_zero]
theorem TP_end {n k : Nat} (hk : k ≤ n) (h : ¬ t (k + 1) + (k + 1) ≤ n) : TP n k = TH n := by
  obtain ⟨m, e⟩ := Nat.exists_eq_add_of_le hk
  show TP n k = TP n n
  conv => rhs; rw [show TP n n = TP n (k + m) by rw [← e]]
  rw [TP_le fun r hr => Nat.div_eq_of_lt ?_]
  have := t_le (a := k + 1) (b := r) (by omega)
  omega
theorem heaps_to_ok {n : Nat} (h2 : n ≤ 100000) : c_heaps_to (.int (n : Nat)) = .ok (.int (TH n : Nat)) := by
  obtain ⟨k, k1, k2, k3⟩ := heaps_stop n
  unfold c_heaps_to
  have hk : k_MOST_LOGS = .int 100000 := rfl
  have e : numB 0 100000 (.int (n : Nat)) = true := by simp [numB]; omega
  rw [hk, isnum _ _ rfl, e]
  simp -implicitDefEqProofs only [O.bind_ok, tru_b, O.lift_some, Bool.not_true, Y.of_ok, Bool.false_eq_true, if_false, Y.then_nx]
  refine whl_then (fun y => Y.fin (fun _ => PyData.none) y = O.ok (PyData.int (TH n : Nat))) k (fun i : Nat => (PyData.int ((TP n i : Nat) : Int), PyData.int ((i + 1 : Nat) : Int))) rfl ?_ ?_ ?_
  · intro i hi
    have hc := k2 i hi
    have hr : (i + 1) * (i + 1 + 1) ≤ 2 * n := rr_le.mpr hc
    have m1 : mulID (.int ((i + 1 : Nat) : Int)) (.int (((i + 1 : Nat) : Int) + 1)) = some (.int (((i + 1 : Nat) : Int) * (((i + 1 : Nat) : Int) + 1))) := mulID_small (.inl (by omega))
    have m2 : mulID (.int 2) (.int (n : Nat)) = some (.int (2 * (n : Nat))) := mulID_small (.inl (by omega))
    have m3 : mulID (.int ((i + 1 : Nat) : Int)) (.int (((i + 1 : Nat) : Int) - 1)) = some (.int (((i + 1 : Nat) : Int) * (((i + 1 : Nat) : Int) - 1))) := mulID_small (.inl (by omega))
    have g1 : ((i + 1 : Nat) : Int) * (((i + 1 : Nat) : Int) + 1) ≤ 2 * (n : Nat) := by exact_mod_cast hr
    have e4 : (n : Int) - (t (i + 1) : Nat) = ((n - t (i + 1) : Nat) : Int) := by omega
    have e6 : ((n - t (i + 1) : Nat) : Int) / ((i + 1 : Nat) : Int) = (((n - t (i + 1)) / (i + 1) : Nat) : Int) := by norm_cast
    refine ⟨by simp -implicitDefEqProofs only [O.bind_ok, addD_int, O.lift_some, m1, m2, leD_int, g1, decide_true, bool_b], ?_⟩
    simp -implicitDefEqProofs only [O.bind_ok, subD_int, O.lift_some, m3, Y.of_ok, fdiv_s (show (0 : Int) < 2 by omega) (by omega), tI, e4, fdiv_s (show (0 : Int) < ((i + 1 : Nat) : Int) by omega) (by omega), e6, intD0, TP_succ]
    rfl
  · have hr : ¬ (k + 1) * (k + 1 + 1) ≤ 2 * n := fun z => k3 (rr_le.mp z)
    have m1 : mulID (.int ((k + 1 : Nat) : Int)) (.int (((k + 1 : Nat) : Int) + 1)) = some (.int (((k + 1 : Nat) : Int) * (((k + 1 : Nat) : Int) + 1))) := mulID_small (.inl (by omega))
    have m2 : mulID (.int 2) (.int (n : Nat)) = some (.int (2 * (n : Nat))) := mulID_small (.inl (by omega))
    have g1 : ¬ ((k + 1 : Nat) : Int) * (((k + 1 : Nat) : Int) + 1) ≤ 2 * (n : Nat) := by exact_mod_cast hr
    simp -implicitDefEqProofs only [O.bind_ok, addD_int, O.lift_some, m1, m2, leD_int, g1, decide_false, bool_b]
  · simp -implicitDefEqProofs only [TP_end k1 k3]
    simp -implicitDefEqProofs [Y.fin]
end K87
namespace K87
open PySem PySem.Spec PyProof.Rows L2 DL
/-! ### odd divisors, by pairs -/
def put (l : List Nat) (x : Nat) : List Nat := if x ∈ l then l else l ++ [x]
theorem mem_put {l : List Nat} {x y : Nat} : y ∈ put l x ↔ y ∈ l ∨ y = x := by
  unfold put
  split
  · constructor
    · exact .inl
    · rintro (h | rfl)
      · exact h
      · assumption
  · simp
theorem nd_put {l : List Nat} {x : Nat} (h : l.Nodup) : (put l x).Nodup := by
  unfold put
  split
  · exact h
  · rw [List.nodup_append]
    refine ⟨h, by simp, fun a ha b hb e => ?_⟩
    rw [List.mem_singleton] at hb
    subst hb
    subst e
    contradiction
theorem len_put (l : List Nat) (x : Nat) : (put l x).length ≤ l.length + 1 := by
  unfold put
  split <;> simp
def kvs (l : List Nat) : List (Key × D) := l.map fun (x : Nat) => ((Sum.inl (Int.ofNat x) : Key), PyData.bool true)
theorem put_kvs (l : List Nat) (x : Nat) : putD (kvs l) (Sum.inl (Int.ofNat x)) (.bool true) = kvs (put l x) := by
  unfold putD put
  by_cases h : x ∈ l
  · rw [if_pos h, if_pos]
    · unfold kvs
      rw [List.map_map]
      refine List.map_congr_left fun y hy => ?_
      simp only [Function.comp]
      split <;> rfl
    · rw [List.any_eq_true]
      exact ⟨(Sum.inl (Int.ofNat x), .bool true), List.mem_map.mpr ⟨x, h, rfl⟩, by simp⟩
  · rw [if_neg h, if_neg]
    · simp [kvs]
    · intro h2
      rw [List.any_eq_true] at h2
      obtain ⟨p, hp, e⟩ := h2
      obtain ⟨y, hy, rfl⟩ := List.mem_map.mp hp
      rw [decide_eq_true_eq] at e
      have e2 : Int.ofNat y = Int.ofNat x := Sum.inl.inj e
      have : y = x := Int.ofNat.inj e2
      subst this
      exact h hy
def ks (m : Nat) : Nat → List Nat
  | 0 => []
  | i + 1 => if (2 * i + 1) ∣ m then put (put (ks m i) (2 * i + 1)) (m / (2 * i + 1)) else ks m i
theorem nd_ks (m i : Nat) : (ks m i).Nodup := by
  induction i with
  | zero => simp [ks]
  | succ i ih =>
    unfold ks
    split
    · exact nd_put (nd_put ih)
    · exact ih
theorem len_ks (m i : Nat) : (ks m i).length ≤ 2 * i := by
  induction i with
  | zero => simp [ks]
  | succ i ih =>
    unfold ks
    split
    · have h1 := len_put (put (ks m i) (2 * i + 1)) (m / (2 * i + 1))
      have h2 := len_put (ks m i) (2 * i + 1)
      omega
    · omega
theorem odd_of_dvd {m x : Nat} (hm : m % 2 = 1) (h : x ∣ m) : x % 2 = 1 := by
  obtain ⟨k, rfl⟩ := h
  rw [Nat.mul_mod] at hm
  rcases Nat.mod_two_eq_zero_or_one x with e | e
  · rw [e] at hm; simp at hm
  · exact e
theorem mem_ks {m : Nat} (hm : m % 2 = 1) (i x : Nat) : x ∈ ks m i ↔ x ∣ m ∧ (x < 2 * i + 1 ∨ m / x < 2 * i + 1) := by
  have hm0 : 0 < m := by omega
  have hpos : ∀ {y}, y ∣ m → 0 < y ∧ 0 < m / y ∧ y * (m / y) = m := fun {y} h => by
    have h1 := Nat.pos_of_dvd_of_pos h hm0
    exact ⟨h1, Nat.div_pos (Nat.le_of_dvd hm0 h) h1, Nat.mul_div_cancel' h⟩
  induction i with
  | zero =>
    simp only [ks, List.not_mem_nil, false_iff, not_and]
    intro h
    have := hpos h
    omega
  | succ i ih =>
    have ho : ∀ {y}, y ∣ m → y % 2 = 1 ∧ (m / y) % 2 = 1 := fun {y} h => ⟨odd_of_dvd hm h, odd_of_dvd hm (Nat.div_dvd_of_dvd h)⟩
    have ih' : x ∈ ks m i ↔ (x ∣ m ∧ (x < 2 * i + 1 ∨ m / x < 2 * i + 1)) := ih
    unfold ks
    split
    · rename_i hd
      rw [mem_put, mem_put]
      refine Iff.trans (or_congr_left (or_congr_left ih')) ?_
      constructor
      · rintro ((⟨h1, h2⟩ | rfl) | rfl)
        · exact ⟨h1, by omega⟩
        · exact ⟨hd, .inl (by omega)⟩
        · refine ⟨Nat.div_dvd_of_dvd hd, .inr ?_⟩
          rw [Nat.div_div_self hd (by omega)]
          omega
      · rintro ⟨h1, h2⟩
        have h3 := ho h1
        rcases h2 with h2 | h2
        · by_cases hx : x = 2 * i + 1
          · exact .inl (.inr hx)
          · exact .inl (.inl ⟨h1, .inl (by omega)⟩)
        · by_cases hx : m / x = 2 * i + 1
          · right
            rw [← hx, Nat.div_div_self h1 (by omega)]
          · exact .inl (.inl ⟨h1, .inr (by omega)⟩)
    · rename_i hd
      refine Iff.trans ih' ?_
      refine and_congr_right fun h1 => ?_
      have h3 := ho h1
      constructor
      · rintro (h | h) <;> omega
      · rintro (h | h)
        · left
          have : x ≠ 2 * i + 1 := fun e => hd (e ▸ h1)
          omega
        · right
          have : m / x ≠ 2 * i + 1 := fun e => hd (e ▸ Nat.div_dvd_of_dvd h1)
          omega
theorem ks_end {m k : Nat} (hm : m % 2 = 1) (h : ¬ (2 * k + 1) * (2 * k + 1) ≤ m) : (ks m k).length = (oL m).length := by
  refine len_of_mem (nd_ks _ _) (nd_oL _) fun x => ?_
  rw [mem_ks hm, mem_oL (by omega)]
  constructor
  · rintro ⟨h1, h2⟩
    exact ⟨odd_of_dvd hm h1, h1⟩
  · rintro ⟨h1, h2⟩
    refine ⟨h2, Classical.byContradiction fun hx => ?_⟩
    rw [not_or] at hx
    have h3 : x * (m / x) = m := Nat.mul_div_cancel' h2
    have h4 : (2 * k + 1) * (2 * k + 1) ≤ x * (m / x) := Nat.mul_le_mul (by omega) (by omega)
    omega
theorem halves {n : Nat} (h1 : 1 ≤ n) (h2 : n ≤ 100000) : ∃ m : Nat, 1 ≤ m ∧ m ≤ n ∧ m % 2 = 1 ∧ (oL m).length = (oL n).length ∧
    (Y.whl (fun (n : D) => (O.asB (O.bin eqD (O.bin mulID (O.bin fdivD (O.ok n) (O.ok (.int 2))) (O.ok (.int 2))) (O.ok n)))) (fun (n : D) => (Y.of (O.bin fdivD (O.ok n) (O.ok (.int 2))) fun n => (Y.nx n))) (.int (n : Nat)) : Y D Empty D) = .nx (.int (m : Nat)) := by
  induction n using Nat.strongRecOn with
  | ind n ih =>
    have e1 : ((n : Int) / 2) = ((n / 2 : Nat) : Int) := by norm_cast
    have m1 : mulID (.int ((n / 2 : Nat) : Int)) (.int 2) = some (.int (((n / 2 : Nat) : Int) * 2)) := mulID_small (.inr (by omega))
    by_cases he : n % 2 = 0
    · obtain ⟨m, a1, a2, a3, a4, a5⟩ := ih (n / 2) (by omega) (by omega) (by omega)
      refine ⟨m, a1, by omega, a3, ?_, ?_⟩
      · rw [a4]
        have := oL_double (n := n / 2) (by omega)
        rw [show 2 * (n / 2) = n by omega] at this
        exact this.symm
      · rw [Y.whl_unfold]
        have e2 : ((n / 2 : Nat) : Int) * 2 = (n : Int) := by omega
        simp -implicitDefEqProofs only [O.bind_ok, fdiv_s (show (0 : Int) < 2 by omega) (by omega), e1, O.lift_some, m1, e2, eqD_int, decide_true, bool_b, Y.of_ok, if_true]
        exact a5
    · refine ⟨n, h1, Nat.le_refl _, by omega, rfl, ?_⟩
      rw [Y.whl_unfold]
      have e2 : ¬ ((n / 2 : Nat) : Int) * 2 = (n : Int) := by omega
      simp -implicitDefEqProofs only [O.bind_ok, fdiv_s (show (0 : Int) < 2 by omega) (by omega), e1, O.lift_some, m1, e2, eqD_int, decide_false, bool_b, Y.of_ok, Bool.false_eq_true, if_false]
theorem odds_ok {n : Nat} (h1 : 1 ≤ n) (h2 : n ≤ 100000) : c__law_odds (.int (n : Nat)) = .ok (.int ((hL n).length : Nat)) := by
  obtain ⟨m, a1, a2, a3, a4, a5⟩ := halves h1 h2
  unfold c__law_odds
  rw [a5, Y.then_nx, K_len h1, ← a4]
  obtain ⟨k, k1, k2, k3⟩ := least_not (fun i => (2 * i + 1) * (2 * i + 1) ≤ m) m (by
    intro h
    have : (2 * m + 1) * 1 ≤ (2 * m + 1) * (2 * m + 1) := Nat.mul_le_mul_left _ (by omega)
    omega)
  refine whl_then (fun y => Y.fin (fun _ => PyData.none) y = O.ok (PyData.int ((oL m).length : Nat))) k (fun i : Nat => (kvs (ks m i), PyData.int ((2 * i + 1 : Nat) : Int))) rfl ?_ ?_ ?_
  · intro i hi
    have hc := k2 i hi
    have hle : 2 * i + 1 ≤ m := Nat.le_trans (by have : (2 * i + 1) * 1 ≤ (2 * i + 1) * (2 * i + 1) := Nat.mul_le_mul_left _ (by omega); omega) hc
    have m1 : mulID (.int ((2 * i + 1 : Nat) : Int)) (.int ((2 * i + 1 : Nat) : Int)) = some (.int (((2 * i + 1 : Nat) : Int) * ((2 * i + 1 : Nat) : Int))) := mulID_small (.inl (by omega))
    have g1 : ((2 * i + 1 : Nat) : Int) * ((2 * i + 1 : Nat) : Int) ≤ (m : Nat) := by exact_mod_cast hc
    refine ⟨by simp -implicitDefEqProofs only [O.bind_ok, O.lift_some, m1, leD_int, g1, decide_true, bool_b], ?_⟩
    have e6 : (m : Int) / ((2 * i + 1 : Nat) : Int) = ((m / (2 * i + 1) : Nat) : Int) := by norm_cast
    have m2 : mulID (.int ((m / (2 * i + 1) : Nat) : Int)) (.int ((2 * i + 1 : Nat) : Int)) = some (.int (((m / (2 * i + 1) : Nat) : Int) * ((2 * i + 1 : Nat) : Int))) := mulID_small (.inr (by omega))
    simp -implicitDefEqProofs only [O.bind_ok, fdiv_s (show (0 : Int) < ((2 * i + 1 : Nat) : Int) by omega) (by omega), e6, O.lift_some, m2, eqD_int, bool_b, Y.of_ok]
    have e5 : decide (((m / (2 * i + 1) : Nat) : Int) * ((2 * i + 1 : Nat) : Int) = (m : Int)) = decide ((2 * i + 1) ∣ m) := by
      rw [decide_eq_decide]
      constructor
      · intro h
        exact ⟨m / (2 * i + 1), by rw [Nat.mul_comm]; exact_mod_cast h.symm⟩
      · intro h
        have := Nat.div_mul_cancel h
        exact_mod_cast this
    rw [e5]
    have hl := len_ks m i
    have hl2 : (kvs (ks m i)).length < 16777216 := by unfold kvs; rw [List.length_map]; omega
    have hl3 : (kvs (put (ks m i) (2 * i + 1))).length < 16777216 := by
      have := len_put (ks m i) (2 * i + 1)
      unfold kvs; rw [List.length_map]; omega
    have p1 : O.putIx (kvs (ks m i)) (.int ((2 * i + 1 : Nat) : Int)) (.bool true) = .ok (kvs (put (ks m i) (2 * i + 1))) := by
      unfold O.putIx DL.keyOf
      dsimp only
      rw [if_pos hl2]
      exact congrArg O.ok (put_kvs _ _)
    have p2 : O.putIx (kvs (put (ks m i) (2 * i + 1))) (.int ((m / (2 * i + 1) : Nat) : Int)) (.bool true) = .ok (kvs (put (put (ks m i) (2 * i + 1)) (m / (2 * i + 1)))) := by
      unfold O.putIx DL.keyOf
      dsimp only
      rw [if_pos hl3]
      exact congrArg O.ok (put_kvs _ _)
    have e7 : ((2 * i + 1 : Nat) : Int) + 2 = ((2 * (i + 1) + 1 : Nat) : Int) := by omega
    by_cases hd : (2 * i + 1) ∣ m
    · simp -implicitDefEqProofs only [hd, decide_true, if_true, Y.of_ok, p1, p2, Y.then_nx, O.bind_ok, addD_int, O.lift_some, e7]
      simp only [ks, hd, if_true]
    · simp -implicitDefEqProofs only [hd, decide_false, Bool.false_eq_true, if_false, Y.then_nx, O.bind_ok, addD_int, O.lift_some, e7, Y.of_ok]
      simp only [ks, hd, if_false]
  · have m1 : mulID (.int ((2 * k + 1 : Nat) : Int)) (.int ((2 * k + 1 : Nat) : Int)) = some (.int (((2 * k + 1 : Nat) : Int) * ((2 * k + 1 : Nat) : Int))) := mulID_small (.inl (by omega))
    have g1 : ¬ ((2 * k + 1 : Nat) : Int) * ((2 * k + 1 : Nat) : Int) ≤ (m : Nat) := by exact_mod_cast k3
    simp -implicitDefEqProofs only [O.bind_ok, O.lift_some, m1, leD_int, g1, decide_false, bool_b]
  · have hlen : lenD (cellD (.dK (kvs (ks m k)))) = some (.int ((oL m).length : Nat)) := by
      rw [← ks_end a3 k3]
      simp [cellD, lenD, kvs]
    simp -implicitDefEqProofs only [O.bind_ok, hlen, O.lift_some, Y.of_ok]
    rfl
end K87
namespace K87
open PySem PySem.Spec PyProof.Rows L2 DL
theorem word_range : W__law_word "OutOfRange" = some ("range" : Str) := by decide +kernel
theorem rs_range : RS.contains ("OutOfRange" : Str) = true := by decide +kernel
theorem tryW_range {mk : D → D} : (Y.tryW RS W__law_word mk (.exc "OutOfRange") : Y Unit Empty D) = .ret (mk (.str "range")) := by
  unfold Y.tryW
  dsimp only
  rw [if_pos rs_range, word_range]
theorem ix_last {xs : List D} {d : D} : ixD (.tuple (xs ++ [d])) (.int (-1)) = some d := by
  show L2.atI (xs ++ [d]) (-1) = some d
  unfold L2.atI ixN
  rw [if_neg (by omega)]
  have h : -(((xs ++ [d]).length : Nat) : Int) ≤ -1 := by simp; omega
  simp [h]
  have : (-1 + ((xs.length : Int) + 1)).toNat = xs.length := by omega
  simp [this, show (1 : Int) ≤ (xs.length : Int) + 1 by omega]
/-- the heaps: the first, the last -/
theorem hL_first {n : Nat} (h1 : 1 ≤ n) : ∃ r, hL n = 1 :: r := by
  unfold hL
  obtain ⟨m, rfl⟩ := Nat.exists_eq_add_of_le h1
  rw [show 1 + m = m + 1 by omega, List.range'_succ, List.filter_cons_of_pos]
  · exact ⟨_, rfl⟩
  · rw [P_iff (Nat.le_refl 1)]
    exact ⟨m + 1, by omega, by simp [t]⟩
theorem hL_last {n : Nat} (h1 : 1 ≤ n) : ∃ s r, hL n = s ++ [r] := by
  obtain ⟨q, hq⟩ := hL_first h1
  rcases List.eq_nil_or_concat (hL n) with e | ⟨s, r, e⟩
  · rw [e] at hq; cases hq
  · exact ⟨s, r, by rw [e, List.concat_eq_append]⟩
def due (n : Nat) : D := .tuple ((hL n).map (hp n))
theorem hL_len (n : Nat) : (hL n).length ≤ n := Nat.le_trans (List.length_filter_le _ _) (by simp)
theorem okA_hp (k n r : Nat) : okA (k + 1) (hp n r) = true := by
  unfold hp okA
  simp [okA]
theorem okA_due {n k : Nat} (h2 : n ≤ 100000) : okA (k + 2) (due n) = true := by
  have := hL_len n
  unfold due
  rw [show okA (k + 2) (.tuple ((hL n).map (hp n))) = (decide (((hL n).map (hp n)).length ≤ 16777216) && ((hL n).map (hp n)).all (okA (k + 1))) by simp [okA]]
  rw [Bool.and_eq_true, decide_eq_true_eq, List.length_map, List.all_eq_true]
  refine ⟨by omega, fun x hx => ?_⟩
  obtain ⟨r, _, rfl⟩ := List.mem_map.mp hx
  exact okA_hp _ _ _
theorem told0 {n : Nat} (h1 : 1 ≤ n) (h2 : n ≤ 100000) : c__law_told (.int 0) (.int (n : Nat)) = .ok (due n) := by
  unfold c__law_told
  simp -implicitDefEqProofs [heaps_ok h1 h2, Y.fin, due]
theorem last_ok {n : Nat} (h1 : 1 ≤ n) : ∃ r, r ∈ hL n ∧ ixD (due n) (.int (-1)) = some (hp n r) := by
  obtain ⟨s, r, e⟩ := hL_last h1
  refine ⟨r, by rw [e]; simp, ?_⟩
  unfold due
  rw [e, List.map_append]
  exact ix_last
theorem told1 {n r : Nat} (h1 : 1 ≤ n) (h2 : n ≤ 100000) (hr : ixD (due n) (.int (-1)) = some (hp n r)) : c__law_told (.int 1) (.int (n : Nat)) = .ok (hp n r) := by
  unfold c__law_told c_tallest_of
  have hr' : ixD (.tuple ((hL n).map (hp n))) (.int (-1)) = some (hp n r) := hr
  simp -implicitDefEqProofs [heaps_ok h1 h2, Y.fin, hr']
theorem told2 {n : Nat} (h2 : n ≤ 100000) : c__law_told (.int 2) (.int (n : Nat)) = .ok (.int (TH n : Nat)) := by
  unfold c__law_told
  simp -implicitDefEqProofs [heaps_to_ok h2, Y.fin]
theorem check_bad {i : Int} (h : ¬ (1 ≤ i ∧ i ≤ 100000)) : c_check_logs (.int i) = .exc "OutOfRange" := by
  unfold c_check_logs
  have hk : k_MOST_LOGS = .int 100000 := rfl
  have e : numB 1 100000 (.int i) = false := by simp [numB]; omega
  rw [hk, isnum _ _ rfl, e]
  simp -implicitDefEqProofs [Y.fin]
theorem to_bad {i : Int} (h : ¬ (0 ≤ i ∧ i ≤ 100000)) : c_heaps_to (.int i) = .exc "OutOfRange" := by
  unfold c_heaps_to
  have hk : k_MOST_LOGS = .int 100000 := rfl
  have e : numB 0 100000 (.int i) = false := by simp [numB]; omega
  rw [hk, isnum _ _ rfl, e]
  simp -implicitDefEqProofs [Y.fin]
theorem heaps_bad {i : Int} (h : ¬ (1 ≤ i ∧ i ≤ 100000)) : c_heaps_of (.int i) = .exc "OutOfRange" := by
  unfold c_heaps_of
  rw [check_bad h]
  rfl
theorem bad0 {i : Int} (h : ¬ (1 ≤ i ∧ i ≤ 100000)) : c__law_told (.int 0) (.int i) = .ok (.str "range") := by
  unfold c__law_told
  simp -implicitDefEqProofs [heaps_bad h, Y.fin, tryW_range]
theorem bad1 {i : Int} (h : ¬ (1 ≤ i ∧ i ≤ 100000)) : c__law_told (.int 1) (.int i) = .ok (.str "range") := by
  unfold c__law_told c_tallest_of
  simp -implicitDefEqProofs [heaps_bad h, Y.fin, tryW_range]
theorem bad2 {i : Int} (h : ¬ (0 ≤ i ∧ i ≤ 100000)) : c__law_told (.int 2) (.int i) = .ok (.str "range") := by
  unfold c__law_told
  simp -implicitDefEqProofs [to_bad h, Y.fin, tryW_range]
/-! ### one heap -/
theorem logs_ok {top rows : Nat} (h1 : top ≤ 100000) (h2 : rows ≤ 100000) : c_logs_of (.tuple [.int (top : Nat), .int (rows : Nat)]) = .ok (.int ((rows * top + t rows : Nat) : Int)) := by
  unfold c_logs_of
  have m1 : mulID (.int (rows : Nat)) (.int (top : Nat)) = some (.int ((rows : Int) * (top : Int))) := mulID_small (.inl (by omega))
  have m2 : mulID (.int (rows : Nat)) (.int ((rows : Int) - 1)) = some (.int ((rows : Int) * ((rows : Int) - 1))) := mulID_small (.inl (by omega))
  simp -implicitDefEqProofs only [unp2_t, O.bind_ok, m1, subD_int, O.lift_some, m2, fdiv_s (show (0 : Int) < 2 by omega) (by omega), tI, addD_int, Y.of_ok]
  simp [Y.fin]
theorem isheap_ok {top rows : Nat} (h1 : 1 ≤ top) (h2 : top ≤ 100000) (h3 : 1 ≤ rows) (h4 : rows ≤ 100000) (h5 : rows * top + t rows ≤ 100000) : c_is_heap (.tuple [.int (top : Nat), .int (rows : Nat)]) = .ok (.bool true) := by
  unfold c_is_heap
  have hk : k_MOST_LOGS = .int 100000 := rfl
  have hok : okD 60 (.tuple [.int (top : Nat), .int (rows : Nat)]) = true := rfl
  have e1 : numB 1 100000 (.int (top : Nat)) = true := by simp [numB]; omega
  have e2 : numB 1 100000 (.int (rows : Nat)) = true := by simp [numB]; omega
  have e3 : ((rows * top + t rows : Nat) : Int) ≤ 100000 := by omega
  have g : O.geL false (fun d1 => O.some' (c_is_number d1 (.int 1) (.int 100000))) [.int (top : Nat), .int (rows : Nat)] = .ok true := by
    simp -implicitDefEqProofs only [O.geL, isnum _ _ (ok_int _), e1, e2, O.bind_ok]
    rfl
  simp -implicitDefEqProofs only [hk, O.bind_ok, isT_ok hok, O.lift_some, isT_t', tru_b, Bool.not_true, Bool.false_eq_true, if_false, len_t, neD_int, bool_b, items_t, g, Y.of_ok, logs_ok h2 h4, leD_int, e3, decide_true]
  rfl
theorem odd_ok : c_is_heap (.tuple [.int 1, .int 446]) = .ok (.bool true) ∧ c_is_heap .none = .ok (.bool false) ∧ c_is_heap (.list [.int 1, .int 2]) = .ok (.bool false) ∧ c_is_heap (.tuple [.int 1]) = .ok (.bool false) ∧ c_is_heap (.tuple [.int 0, .int 1]) = .ok (.bool false) ∧ c_is_heap (.tuple [.int 1, .int 0]) = .ok (.bool false) ∧ c_is_heap (.tuple [.int 100001, .int 1]) = .ok (.bool false) ∧ c_is_heap (.tuple [.int 1, .int 447]) = .ok (.bool false) ∧ c_is_heap (.tuple [.bool true, .int 1]) = .ok (.bool false) ∧ c_is_heap (.tuple [.int 1, .none]) = .ok (.bool false) ∧ c_is_heap (.tuple [.int 1, .int 2, .int 3]) = .ok (.bool false) :=
  ⟨rfl, rfl, rfl, rfl, rfl, rfl, rfl, rfl, rfl, rfl, rfl⟩
theorem joined_ok (a b c d : Int) : c_joined (.tuple [.int a, .int b]) (.tuple [.int c, .int d]) = if a + b = c then .ok (.tuple [.int a, .int (b + d)]) else .ok .none := by
  unfold c_joined
  by_cases h : a + b = c
  · simp -implicitDefEqProofs [h, Y.fin, tupD]
  · simp -implicitDefEqProofs [h, Y.fin]
def cut (top rows k : Nat) : D := .tuple [.tuple [.int (top : Nat), .int (k : Nat)], .tuple [.int ((top + k : Nat) : Int), .int ((rows - k : Nat) : Int)]]
theorem rng2_nat {a b : Nat} (hb : b ≤ 1000000) (ha : a ≤ 1000000) : rng2D [.int (a : Nat), .int (b : Nat)] = some ((List.range' a (b - a)).map fun i => PyData.int (i : Nat)) := by
  rw [rng2_int (okR_of (by omega) (by omega)) (okR_of (by omega) (by omega))]
  congr 1
  unfold rngI
  rw [List.map_map, List.range'_eq_map_range, List.map_map, show ((b : Int) - (a : Int)).toNat = b - a by omega]
  refine List.map_congr_left fun i _ => ?_
  simp [Function.comp]
theorem rng2_1 {r : Nat} (hr : r ≤ 1000000) : rng2D [.int 1, .int (r : Nat)] = some ((List.range' 1 (r - 1)).map fun i => PyData.int (i : Nat)) := rng2_nat (a := 1) hr (by omega)
def cuts (top rows : Nat) : List D := (List.range' 1 (rows - 1)).map (cut top rows)
theorem cut_turn {top rows k : Nat} (hk : k ∈ List.range' 1 (rows - 1)) : (O.some' (O.tup (O.cons (O.ok (.tuple [.int (top : Nat), .int (k : Nat)])) (O.cons (O.tup (O.cons (O.bin addD (O.ok (.int (top : Nat))) (O.ok (.int (k : Nat)))) (O.cons (O.bin subD (O.ok (.int (rows : Nat))) (O.ok (.int (k : Nat)))) (O.ok [])))) (O.ok []))))) = .ok (some (cut top rows k)) := by
  rw [List.mem_range'_1] at hk
  have e : (rows : Int) - (k : Int) = ((rows - k : Nat) : Int) := by omega
  simp -implicitDefEqProofs [tupD, cut, e]
theorem cuts_ok {top rows : Nat} (h : rows ≤ 1000) : c_cuts_of (.tuple [.int (top : Nat), .int (rows : Nat)]) = .ok (.tuple (cuts top rows)) := by
  unfold c_cuts_of
  rw [unp2_t]
  simp -implicitDefEqProofs only [O.bind_ok, rng2_1 (show rows ≤ 1000000 by omega), O.lift_some]
  rw [lcL_all (g := cut top rows) (fun k hk => cut_turn hk) (by simp; omega)]
  simp -implicitDefEqProofs [Y.fin, cuts]
theorem due_ok {top rows : Nat} (h : rows ≤ 1000) : ((O.lc (O.rng2 (O.cons (O.ok (.int 1)) (O.cons (O.ok (.int (rows : Nat))) (O.ok [])))) (fun d40 => (O.some' (O.tup (O.cons (O.ok (.tuple [.int (top : Nat), d40])) (O.cons (O.tup (O.cons (O.bin addD (O.ok (.int (top : Nat))) (O.ok d40)) (O.cons (O.bin subD (O.ok (.int (rows : Nat))) (O.ok d40)) (O.ok [])))) (O.ok []))))))).bind O.asL) = .ok (cuts top rows) := by
  simp -implicitDefEqProofs only [O.bind_ok, rng2_1 (show rows ≤ 1000000 by omega), O.lift_some]
  rw [lcL_all (g := cut top rows) (fun k hk => cut_turn hk) (by simp; omega)]
  simp -implicitDefEqProofs [cuts]
theorem okA_cuts {k top rows : Nat} (h : rows ≤ 1000) : okA (k + 3) (.tuple (cuts top rows)) = true := by
  simp only [okA, Bool.and_eq_true, decide_eq_true_eq, List.all_eq_true]
  refine ⟨by unfold cuts; simp; omega, fun x hx => ?_⟩
  obtain ⟨r, _, rfl⟩ := List.mem_map.mp hx
  unfold cut
  simp [okA]
theorem sum_top (top : Nat) : ∀ rows : Nat, ((List.range rows).map fun i => ((top + i : Nat) : Int)).sum = ((rows * top + t rows : Nat) : Int)
  | 0 => by simp [t]
  | r + 1 => by
    rw [List.range_succ, List.map_append, List.sum_append, sum_top top r]
    simp only [List.map_cons, List.map_nil, List.sum_cons, List.sum_nil, t]
    rw [Nat.succ_mul]
    omega
theorem law_logs_ok {top rows : Nat} (h : rows ≤ 1000) : c__law_logs (.int (top : Nat)) (.int (rows : Nat)) = .ok (.int ((rows * top + t rows : Nat) : Int)) := by
  unfold c__law_logs
  simp -implicitDefEqProofs only [O.bind_ok, rng1_nat (show rows ≤ 16777216 by omega), O.lift_some]
  rw [lcL_all (g := fun i : Nat => PyData.int ((top + i : Nat) : Int)) (fun k hk => by simp -implicitDefEqProofs) (by simp; omega)]
  have e : (List.map (fun i : Nat => PyData.int ((top + i : Nat) : Int)) (List.range rows)) = ((List.range rows).map fun i => ((top + i : Nat) : Int)).map PyData.int := by rw [List.map_map]; rfl
  rw [e]
  simp -implicitDefEqProofs only [O.bind_ok, cellD_l, sum_l, sum_top, O.lift_some, Y.of_ok]
  rfl
end K87
namespace K87
open PySem PySem.Spec PyProof.Rows L2 DL
/-! ### the law, block by block -/
noncomputable def b1 : D → List D → Y (List D) (List D) D := (fun (turn : D) (draws : List D) => (Y.of (((c__law_take draws (.int 3)).bind fun (t5 : D × List D) => ((O.lift (ixD (.list [(.int 30), (.int 1000), (.int 100000)]) t5.1)).bind fun t6 => (O.ok (t6, t5.2)))).bind fun (x4 : D × List D) => ((c__law_take x4.2 x4.1).bind fun (t7 : D × List D) => ((O.lift (addD (.int 1) t7.1)).bind fun t8 => (O.ok (t8, t7.2))))) fun (x3 : D × List D) => (Y.then' (Y.of (O.asB (O.bin eqD (O.ok turn) (O.ok (.int 0)))) fun t10 => if t10 = true then (Y.of ((c__law_take x3.2 (.int 17)).bind fun (t12 : D × List D) => ((O.lift (shlD (.int 1) t12.1)).bind fun t13 => (O.ok (t13, t12.2)))) fun (x11 : D × List D) => (Y.nx (x11.2, x11.1))) else (Y.of (O.asB (O.bin eqD (O.ok turn) (O.ok (.int 1)))) fun t14 => if t14 = true then (Y.of ((c__law_take x3.2 (.int 8)).bind fun (t16 : D × List D) => ((O.lift (ixD (.list [(.int 3), (.int 5), (.int 9), (.int 15), (.int 45), (.int 105), (.int 315), (.int 945)]) t16.1)).bind fun t17 => ((c__law_take t16.2 (.int 100)).bind fun (t18 : D × List D) => ((O.lift (addD (.int 1) t18.1)).bind fun t19 => ((O.lift (mulID t17 t19)).bind fun t20 => (O.ok (t20, t18.2))))))) fun (x15 : D × List D) => (Y.nx (x15.2, x15.1))) else (Y.nx (x3.2, x3.1)))) (fun (s9 : List D × D) => match s9 with | (draws, n) => (Y.of (c__law_heaps n) fun due => (Y.of (O.or (O.notB (O.tru ((O.cell (O.lst (O.cons (c__law_told (.int 0) n) (O.cons (c__law_told (.int 1) n) (O.ok []))))).bind fun a21 => ((O.cell (O.lst (O.cons (O.ok due) (O.cons (O.bin ixD (O.ok due) (O.ok (.int (-1)))) (O.ok []))))).bind fun a22 => (c__law_alike 8 a21 a22))))) (O.or (O.asB (O.bin neD (O.un lenD (O.ok due)) (c__law_odds n))) (O.asB (O.bin neD (O.bin ixD (O.ok due) (O.ok (.int 0))) (O.ok (.tuple [n, (.int 1)])))))) fun t23 => if t23 = true then (Y.ret (.bool false)) else (Y.of (O.bin ixD (O.bin ixD (O.ok due) (O.ok (.int (-1)))) (O.ok (.int 1))) fun rows => (Y.of (O.asB (O.bin gtD (O.bin mulID (O.ok rows) (O.bin addD (O.ok rows) (O.ok (.int 1)))) (O.bin mulID (O.ok (.int 2)) (O.ok n)))) fun t24 => if t24 = true then (Y.ret (.bool false)) else (Y.of (O.items (O.sl (O.ok due) (O.ok none) (O.part (O.ok (.int 6))))) fun ds => (Y.forL (fun (d26 : D) (_ : Unit) => (unp2 .bad d26 fun top rows => (Y.of (O.or (O.notB (O.tru ((c_is_heap (.tuple [top, rows])).bind fun a27 => (c__law_says a27 (.bool true))))) (O.notB (O.tru ((c_logs_of (.tuple [top, rows])).bind fun a28 => (c__law_alike 8 a28 n))))) fun t29 => if t29 = true then (Y.ret (.bool false)) else (Y.of (O.cell (O.lst (O.cons (O.bin addD (O.ok top) (O.bin fdivD (O.bin subD (O.ok rows) (O.ok (.int 1))) (O.ok (.int 2)))) (O.cons (O.bin addD (O.ok top) (O.bin fdivD (O.ok rows) (O.ok (.int 2)))) (O.ok []))))) fun middle => (Y.of (O.or (O.and (O.asB (O.bin ltD (O.bin mulID (O.bin fdivD (O.ok rows) (O.ok (.int 2))) (O.ok (.int 2))) (O.ok rows))) (O.asB (O.bin neD (O.bin mulID (O.ok rows) (O.bin ixD (O.ok middle) (O.ok (.int 0)))) (O.ok n)))) (O.and (O.asB (O.bin eqD (O.bin mulID (O.bin fdivD (O.ok rows) (O.ok (.int 2))) (O.ok (.int 2))) (O.ok rows))) (O.asB (O.bin neD (O.bin mulID (O.bin fdivD (O.ok rows) (O.ok (.int 2))) (O.un sumD (O.ok middle))) (O.ok n))))) fun t30 => if t30 = true then (Y.ret (.bool false)) else (Y.of (O.and (O.asB (O.bin leD (O.bin addD (O.ok n) (O.ok rows)) (O.ok (.int 100000)))) (O.asB (O.bin ninD (O.tup (O.cons (O.bin addD (O.ok top) (O.ok (.int 1))) (O.cons (O.ok rows) (O.ok [])))) ((O.bin addD (O.ok n) (O.ok rows)).bind fun a31 => (c_heaps_of a31))))) fun t32 => if t32 = true then (Y.ret (.bool false)) else (Y.nx ()))))))) ds ()).then' (fun _ => (Y.nx draws)))))))))))
noncomputable def k1 : List D × D → Y (List D) (List D) D := (fun (s9 : List D × D) => match s9 with | (draws, n) => (Y.of (c__law_heaps n) fun due => (Y.of (O.or (O.notB (O.tru ((O.cell (O.lst (O.cons (c__law_told (.int 0) n) (O.cons (c__law_told (.int 1) n) (O.ok []))))).bind fun a21 => ((O.cell (O.lst (O.cons (O.ok due) (O.cons (O.bin ixD (O.ok due) (O.ok (.int (-1)))) (O.ok []))))).bind fun a22 => (c__law_alike 8 a21 a22))))) (O.or (O.asB (O.bin neD (O.un lenD (O.ok due)) (c__law_odds n))) (O.asB (O.bin neD (O.bin ixD (O.ok due) (O.ok (.int 0))) (O.ok (.tuple [n, (.int 1)])))))) fun t23 => if t23 = true then (Y.ret (.bool false)) else (Y.of (O.bin ixD (O.bin ixD (O.ok due) (O.ok (.int (-1)))) (O.ok (.int 1))) fun rows => (Y.of (O.asB (O.bin gtD (O.bin mulID (O.ok rows) (O.bin addD (O.ok rows) (O.ok (.int 1)))) (O.bin mulID (O.ok (.int 2)) (O.ok n)))) fun t24 => if t24 = true then (Y.ret (.bool false)) else (Y.of (O.items (O.sl (O.ok due) (O.ok none) (O.part (O.ok (.int 6))))) fun ds => (Y.forL (fun (d26 : D) (_ : Unit) => (unp2 .bad d26 fun top rows => (Y.of (O.or (O.notB (O.tru ((c_is_heap (.tuple [top, rows])).bind fun a27 => (c__law_says a27 (.bool true))))) (O.notB (O.tru ((c_logs_of (.tuple [top, rows])).bind fun a28 => (c__law_alike 8 a28 n))))) fun t29 => if t29 = true then (Y.ret (.bool false)) else (Y.of (O.cell (O.lst (O.cons (O.bin addD (O.ok top) (O.bin fdivD (O.bin subD (O.ok rows) (O.ok (.int 1))) (O.ok (.int 2)))) (O.cons (O.bin addD (O.ok top) (O.bin fdivD (O.ok rows) (O.ok (.int 2)))) (O.ok []))))) fun middle => (Y.of (O.or (O.and (O.asB (O.bin ltD (O.bin mulID (O.bin fdivD (O.ok rows) (O.ok (.int 2))) (O.ok (.int 2))) (O.ok rows))) (O.asB (O.bin neD (O.bin mulID (O.ok rows) (O.bin ixD (O.ok middle) (O.ok (.int 0)))) (O.ok n)))) (O.and (O.asB (O.bin eqD (O.bin mulID (O.bin fdivD (O.ok rows) (O.ok (.int 2))) (O.ok (.int 2))) (O.ok rows))) (O.asB (O.bin neD (O.bin mulID (O.bin fdivD (O.ok rows) (O.ok (.int 2))) (O.un sumD (O.ok middle))) (O.ok n))))) fun t30 => if t30 = true then (Y.ret (.bool false)) else (Y.of (O.and (O.asB (O.bin leD (O.bin addD (O.ok n) (O.ok rows)) (O.ok (.int 100000)))) (O.asB (O.bin ninD (O.tup (O.cons (O.bin addD (O.ok top) (O.ok (.int 1))) (O.cons (O.ok rows) (O.ok [])))) ((O.bin addD (O.ok n) (O.ok rows)).bind fun a31 => (c_heaps_of a31))))) fun t32 => if t32 = true then (Y.ret (.bool false)) else (Y.nx ()))))))) ds ()).then' (fun _ => (Y.nx draws))))))))
noncomputable def b2 (n : D) : D → Unit → Y Unit Unit D := (fun (d26 : D) (_ : Unit) => (unp2 .bad d26 fun top rows => (Y.of (O.or (O.notB (O.tru ((c_is_heap (.tuple [top, rows])).bind fun a27 => (c__law_says a27 (.bool true))))) (O.notB (O.tru ((c_logs_of (.tuple [top, rows])).bind fun a28 => (c__law_alike 8 a28 n))))) fun t29 => if t29 = true then (Y.ret (.bool false)) else (Y.of (O.cell (O.lst (O.cons (O.bin addD (O.ok top) (O.bin fdivD (O.bin subD (O.ok rows) (O.ok (.int 1))) (O.ok (.int 2)))) (O.cons (O.bin addD (O.ok top) (O.bin fdivD (O.ok rows) (O.ok (.int 2)))) (O.ok []))))) fun middle => (Y.of (O.or (O.and (O.asB (O.bin ltD (O.bin mulID (O.bin fdivD (O.ok rows) (O.ok (.int 2))) (O.ok (.int 2))) (O.ok rows))) (O.asB (O.bin neD (O.bin mulID (O.ok rows) (O.bin ixD (O.ok middle) (O.ok (.int 0)))) (O.ok n)))) (O.and (O.asB (O.bin eqD (O.bin mulID (O.bin fdivD (O.ok rows) (O.ok (.int 2))) (O.ok (.int 2))) (O.ok rows))) (O.asB (O.bin neD (O.bin mulID (O.bin fdivD (O.ok rows) (O.ok (.int 2))) (O.un sumD (O.ok middle))) (O.ok n))))) fun t30 => if t30 = true then (Y.ret (.bool false)) else (Y.of (O.and (O.asB (O.bin leD (O.bin addD (O.ok n) (O.ok rows)) (O.ok (.int 100000)))) (O.asB (O.bin ninD (O.tup (O.cons (O.bin addD (O.ok top) (O.ok (.int 1))) (O.cons (O.ok rows) (O.ok [])))) ((O.bin addD (O.ok n) (O.ok rows)).bind fun a31 => (c_heaps_of a31))))) fun t32 => if t32 = true then (Y.ret (.bool false)) else (Y.nx ())))))))
noncomputable def b3 (top rows : D) : D → Unit → Y Unit Unit D := (fun (d46 : D) (_ : Unit) => (unp2 .bad d46 fun upper lower => (Y.of (O.or (O.notB (O.tru ((c_joined upper lower).bind fun a47 => (c__law_alike 8 a47 (.tuple [top, rows]))))) (O.asB (O.bin neD (O.bin addD (c_logs_of upper) (c_logs_of lower)) (c_logs_of (.tuple [top, rows]))))) fun t48 => if t48 = true then (Y.ret (.bool false)) else (Y.nx ()))))
noncomputable def b4 : D → List D → Y (List D) (List D) D := (fun (turn : D) (draws : List D) => (Y.of ((c__law_take draws (.int 6)).bind fun (t52 : D × List D) => ((O.lift (addD (.int 1) t52.1)).bind fun t53 => ((c__law_take t52.2 (.int 4)).bind fun (t54 : D × List D) => ((O.lift (addD (.int 1) t54.1)).bind fun t55 => ((O.lift (tupD (t53 :: (t55 :: [])))).bind fun t56 => (O.ok (t56, t54.2))))))) fun (x51 : D × List D) => (Y.of ((c__law_take x51.2 (.int 8)).bind fun (t59 : D × List D) => ((O.lift (addD (.int 1) t59.1)).bind fun t60 => ((c__law_take t59.2 (.int 4)).bind fun (t61 : D × List D) => ((O.lift (addD (.int 1) t61.1)).bind fun t62 => ((O.lift (tupD (t60 :: (t62 :: [])))).bind fun t63 => (O.ok (t63, t61.2))))))) fun (x58 : D × List D) => (Y.of (O.ife (O.asB (O.bin eqD (O.bin addD (O.bin ixD (O.ok x51.1) (O.ok (.int 0))) (O.bin ixD (O.ok x51.1) (O.ok (.int 1)))) (O.bin ixD (O.ok x58.1) (O.ok (.int 0))))) (O.tup (O.cons (O.bin ixD (O.ok x51.1) (O.ok (.int 0))) (O.cons (O.bin addD (O.bin ixD (O.ok x51.1) (O.ok (.int 1))) (O.bin ixD (O.ok x58.1) (O.ok (.int 1)))) (O.ok [])))) (O.ok .none)) fun both => (Y.of (O.notB (O.tru ((c_joined x51.1 x58.1).bind fun a64 => (c__law_alike 8 a64 both)))) fun t65 => if t65 = true then (Y.ret (.bool false)) else (Y.nx x58.2))))))
theorem mem_cut {α : Type} {xs : List α} {lo hi : Option Int} {x : α} (h : x ∈ DL.cutD xs lo hi) : x ∈ xs := by
  unfold DL.cutD at h
  exact List.mem_of_mem_drop (List.mem_of_mem_take h)
theorem in_heaps {n r top : Nat} (h1 : 1 ≤ r) (h2 : 1 ≤ top) (hn : n = r * top + t r) (hb : n ≤ 100000) : ninD (.tuple [.int (top : Nat), .int (r : Nat)]) (due n) = some (.bool false) := by
  have hr : r ∈ hL n := mem_hL.mpr ⟨h1, (P_iff h1).mpr ⟨top, h2, hn⟩⟩
  have e : hp n r = .tuple [.int (top : Nat), .int (r : Nat)] := by
    unfold hp
    rw [show n - t r = r * top by omega, Nat.mul_div_cancel_left _ (by omega)]
  have hd : okD 60 (due n) = true := okA_okD (okA_due (k := 0) hb) (by omega)
  have ht : okD 60 (.tuple [.int (top : Nat), .int (r : Nat)]) = true := rfl
  unfold ninD
  have : inD (.tuple [.int (top : Nat), .int (r : Nat)]) (due n) = some (.bool true) := by
    unfold due at hd ⊢
    unfold inD
    simp only [ht, hd, and_self, if_true]
    congr 2
    rw [List.any_eq_true]
    exact ⟨_, List.mem_map.mpr ⟨r, hr, e⟩, by
      have := eqv_tupI [(top : Int), (r : Int)] [(top : Int), (r : Int)]
      rw [decide_eq_true rfl] at this
      exact this⟩
  rw [this]
  rfl
theorem heap_turn {n r : Nat} (hb : n ≤ 100000) (hr : r ∈ hL n) : b2 (.int (n : Nat)) (hp n r) () = .nx () := by
  obtain ⟨r1, pr⟩ := mem_hL.mp hr
  obtain ⟨top, t1, e⟩ := (P_iff r1).mp pr
  have eh : hp n r = .tuple [.int (top : Nat), .int (r : Nat)] := by
    unfold hp
    rw [show n - t r = r * top by omega, Nat.mul_div_cancel_left _ (by omega)]
  have hrt : r * 1 ≤ r * top := Nat.mul_le_mul_left r t1
  have htr : 1 * top ≤ r * top := Nat.mul_le_mul_right top r1
  have g1 : c_is_heap (.tuple [.int (top : Nat), .int (r : Nat)]) = .ok (.bool true) := isheap_ok t1 (by omega) r1 (by omega) (by omega)
  have g2 : c_logs_of (.tuple [.int (top : Nat), .int (r : Nat)]) = .ok (.int (n : Nat)) := by rw [logs_ok (by omega) (by omega), ← e]
  have g3 : c__law_alike 8 (.int (n : Nat)) (.int (n : Nat)) = .ok (.bool true) := alike_ok rfl
  have q1 : ((r : Int) - 1) / 2 = (((r - 1) / 2 : Nat) : Int) := by omega
  have q2 : (r : Int) / 2 = ((r / 2 : Nat) : Int) := by omega
  have m1 : mulID (.int ((r / 2 : Nat) : Int)) (.int 2) = some (.int (((r / 2 : Nat) : Int) * 2)) := mulID_small (.inr (by omega))
  have m2 : mulID (.int (r : Nat)) (.int ((top : Int) + ((r - 1) / 2 : Nat))) = some (.int ((r : Int) * ((top : Int) + ((r - 1) / 2 : Nat)))) := mulID_small (.inl (by omega))
  have m3 : ∀ x : Int, mulID (.int ((r / 2 : Nat) : Int)) (.int x) = some (.int (((r / 2 : Nat) : Int) * x)) := fun x => mulID_small (.inl (by omega))
  have fd : ∀ x : Int, fdivD (.int x) (.int 2) = some (.int (x / 2)) := fun x => fdiv_s (by omega) (by omega)
  have sm : sumD (.list [.int ((top : Int) + ((r - 1) / 2 : Nat)), .int ((top : Int) + (r / 2 : Nat))]) = some (.int (((top : Int) + ((r - 1) / 2 : Nat)) + ((top : Int) + (r / 2 : Nat)))) := by
    have := sum_l [((top : Int) + ((r - 1) / 2 : Nat)), ((top : Int) + (r / 2 : Nat))]
    simpa using this
  -- odd, even
  have a1 : (((r / 2 : Nat) : Int) * 2 < (r : Int) ∧ (r : Int) * ((top : Int) + ((r - 1) / 2 : Nat)) = (n : Int)) ∨ (((r / 2 : Nat) : Int) * 2 = (r : Int) ∧ ((r / 2 : Nat) : Int) * (((top : Int) + ((r - 1) / 2 : Nat)) + ((top : Int) + (r / 2 : Nat))) = (n : Int)) := by
    rcases Nat.mod_two_eq_zero_or_one r with h | h
    · right
      refine ⟨by omega, ?_⟩
      obtain ⟨q, rfl⟩ : ∃ q, r = 2 * q := ⟨r / 2, by omega⟩
      have h3 := t_even q
      rw [show 2 * q / 2 = q by omega, show (2 * q - 1) / 2 = q - 1 by omega]
      have h4 : ((q - 1 : Nat) : Int) = (q : Int) - 1 := by omega
      rw [h4]
      have h5 : (n : Int) = 2 * (q : Int) * (top : Int) + (t (2 * q) : Int) := by exact_mod_cast e
      have h6 : (t (2 * q) : Int) + (q : Int) = 2 * (q : Int) * (q : Int) := by exact_mod_cast h3
      grind
    · left
      refine ⟨by omega, ?_⟩
      obtain ⟨q, rfl⟩ : ∃ q, r = 2 * q + 1 := ⟨r / 2, by omega⟩
      rw [show (2 * q + 1 - 1) / 2 = q by omega]
      have h3 := t_odd q
      have h5 : (n : Int) = (2 * (q : Int) + 1) * (top : Int) + (t (2 * q + 1) : Int) := by exact_mod_cast e
      have h6 : (t (2 * q + 1) : Int) = (2 * (q : Int) + 1) * (q : Int) := by exact_mod_cast h3
      have h7 : ((2 * q + 1 : Nat) : Int) = 2 * (q : Int) + 1 := by omega
      rw [h7]
      grind
  have e8 : (n : Int) + (r : Int) = ((n + r : Nat) : Int) := by omega
  have e9 : (top : Int) + 1 = ((top + 1 : Nat) : Int) := by omega
  unfold b2
  rw [eh, unp2_t]
  simp -implicitDefEqProofs only [O.bind_ok, g1, says_ok, tru_b, O.lift_some, Bool.not_true, Bool.false_eq_true, if_false, g2, g3, Y.of_ok, subD_int, fd, q1, addD_int, q2]
  rw [lstF_ok (by simp)]
  simp -implicitDefEqProofs only [O.bind_ok, O.lift_some, cellD_l, Y.of_ok, m1, ltD_int, bool_b, ix_l0, m2, neD_int, eqD_int, sm, m3]
  have last : (Y.of (O.and (O.asB (O.lift (leD (.int ((n : Int) + (r : Int))) (.int 100000)))) (O.asB (O.bin ninD (O.lift (tupD [.int ((top : Int) + 1), .int (r : Nat)])) (c_heaps_of (.int ((n : Int) + (r : Int))))))) fun t32 => if t32 = true then (Y.ret (.bool false)) else (Y.nx ()) : Y Unit Unit D) = .nx () := by
    simp -implicitDefEqProofs only [leD_int, O.lift_some, O.bind_ok, bool_b]
    by_cases hle : (n : Int) + (r : Int) ≤ 100000
    · have hh := heaps_ok (n := n + r) (by omega) (by omega)
      have hi := in_heaps (n := n + r) (r := r) (top := top + 1) r1 (by omega) (by rw [Nat.mul_succ]; omega) (by omega)
      unfold due at hi
      simp -implicitDefEqProofs only [hle, decide_true, if_true, e8, e9, hh, tupD_ok (show [PyData.int ((top + 1 : Nat) : Int), PyData.int (r : Nat)].length ≤ 16777216 by simp), O.lift_some, O.bind_ok, hi, bool_b, Y.of_ok, Bool.false_eq_true, if_false, ite_self]
    · simp -implicitDefEqProofs only [hle, decide_false, Bool.false_eq_true, if_false, Y.of_ok]
  rcases a1 with ⟨h1, h2⟩ | ⟨h1, h2⟩
  · have h3 : ¬ ((r / 2 : Nat) : Int) * 2 = (r : Int) := by omega
    simp -implicitDefEqProofs only [decide_eq_true h1, decide_eq_true h2, decide_eq_false h3, if_true, Bool.not_true, Bool.false_eq_true, if_false, Y.of_ok, O.bind_ok]
    exact last
  · have h3 : ¬ ((r / 2 : Nat) : Int) * 2 < (r : Int) := by omega
    simp -implicitDefEqProofs only [decide_eq_true h1, decide_eq_true h2, decide_eq_false h3, if_true, Bool.not_true, Bool.false_eq_true, if_false, Y.of_ok, O.bind_ok]
    exact last
theorem k1_ok {n : Nat} (h1 : 1 ≤ n) (h2 : n ≤ 100000) (dr : List D) : k1 (dr, .int (n : Nat)) = .nx dr := by
  obtain ⟨r, hr, hlast⟩ := last_ok h1
  obtain ⟨q, hq⟩ := hL_first h1
  obtain ⟨r1, pr⟩ := mem_hL.mp hr
  have hdue : due n = .tuple (hp n 1 :: q.map (hp n)) := by unfold due; rw [hq]; rfl
  have hp1 : hp n 1 = .tuple [.int (n : Nat), .int 1] := by unfold hp; simp [t]
  have hl : lenD (due n) = some (.int ((hL n).length : Nat)) := by unfold due; simp
  have h0 : ixD (due n) (.int 0) = some (.tuple [.int (n : Nat), .int 1]) := by rw [hdue, hp1]; exact ix_t0 _ _
  have hnn : neD (.tuple [.int (n : Nat), .int 1]) (.tuple [.int (n : Nat), .int 1]) = some (.bool false) := neD_self rfl
  have ho := odds_ok h1 h2
  have al : c__law_alike 8 (.list [due n, hp n r]) (.list [due n, hp n r]) = .ok (.bool true) := by
    refine alike_ok ?_
    have e1 := okA_due (k := 4) h2
    have e2 := okA_hp 5 n r
    simp only [okA, List.length_cons, List.length_nil, List.all_cons, List.all_nil, e1, e2, Bool.and_true, decide_eq_true_eq]
    omega
  have hx1 : ixD (hp n r) (.int 1) = some (.int (r : Nat)) := by unfold hp; exact ix_t1 _ _ _
  have hrn := P_le pr
  have hpr : t r + r ≤ n := by
    unfold P at pr
    rw [Bool.and_eq_true, decide_eq_true_eq] at pr
    exact pr.1
  have m1 : mulID (.int (r : Nat)) (.int ((r : Int) + 1)) = some (.int ((r : Int) * ((r : Int) + 1))) := mulID_small (.inl (by omega))
  have m2 : mulID (.int 2) (.int (n : Nat)) = some (.int (2 * (n : Int))) := mulID_small (.inl (by omega))
  have g1 : ¬ (2 * (n : Int)) < (r : Int) * ((r : Int) + 1) := by
    have := rr_le.mpr hpr
    have h3 : (r : Int) * ((r : Int) + 1) ≤ 2 * (n : Int) := by exact_mod_cast this
    omega
  unfold k1
  dsimp only
  rw [law_heaps_ok h2]
  show Y.of (O.ok (due n)) _ = _
  rw [Y.of_ok]
  simp -implicitDefEqProofs only [O.bind_ok, told0 h1 h2, told1 h1 h2 hlast, hlast, O.lift_some, lstF_ok (show [due n, hp n r].length ≤ 16777216 by simp), cellD_l, al, tru_b, Bool.not_true, Bool.false_eq_true, if_false, hl, ho, neD_int, decide_true, bool_b, h0, hnn, Y.of_ok, hx1, m1, m2, addD_int, gtD_int, g1, decide_false]
  have hs : slD (due n) none (some 6) = some (.tuple (DL.cutD ((hL n).map (hp n)) none (some 6))) := rfl
  simp -implicitDefEqProofs only [O.part, O.part_int, O.bind_ok, hs, O.lift_some, items_t, Y.of_ok]
  have hf : (Y.forL (b2 (.int (n : Nat))) (DL.cutD ((hL n).map (hp n)) none (some 6)) () : Y Unit (List D) D) = .nx () := forL_same fun d hd => by
    obtain ⟨r', hr', rfl⟩ := List.mem_map.mp (mem_cut hd)
    exact heap_turn h2 hr'
  show (Y.forL (b2 (.int (n : Nat))) (DL.cutD ((hL n).map (hp n)) none (some 6)) ()).then' _ = _
  rw [hf]
  rfl
theorem b1_ok (j : Nat) (ns : List Int) : ∃ ns' : List Int, b1 (.int (j : Nat)) (dI ns) = .nx (dI ns') := by
  obtain ⟨v1, n1, e1, l1, u1⟩ := take_ok ns (b := 3) (by omega)
  have hb : ∃ w : Int, ixD (.list [.int 30, .int 1000, .int 100000]) (.int v1) = some (.int w) ∧ 0 < w ∧ w ≤ 100000 := by
    rcases (show v1 = 0 ∨ v1 = 1 ∨ v1 = 2 by omega) with rfl | rfl | rfl
    · exact ⟨30, rfl, by omega, by omega⟩
    · exact ⟨1000, rfl, by omega, by omega⟩
    · exact ⟨100000, rfl, by omega, by omega⟩
  obtain ⟨w, ew, w1, w2⟩ := hb
  obtain ⟨v2, n2, e2, l2, u2⟩ := take_ok n1 (b := w) w1
  have fin : ∀ (z : Int) (dr : List D), 1 ≤ z → z ≤ 100000 → k1 (dr, .int z) = .nx dr := fun z dr z1 z2 => by
    obtain ⟨m, rfl⟩ := Int.eq_ofNat_of_zero_le (show 0 ≤ z by omega)
    exact k1_ok (by omega) (by omega) dr
  unfold b1
  simp -implicitDefEqProofs only [e1, O.bind_ok, ew, O.lift_some, e2, addD_int, Y.of_ok, eqD_int, bool_b]
  by_cases h0 : (j : Int) = 0
  · obtain ⟨v3, n3, e3, l3, u3⟩ := take_ok n2 (b := 17) (by omega)
    have hs : ∃ z : Int, shlD (.int 1) (.int v3) = some (.int z) ∧ 1 ≤ z ∧ z ≤ 100000 := by
      obtain ⟨m, rfl⟩ := Int.eq_ofNat_of_zero_le l3
      have hm : m < 17 := by omega
      refine ⟨1 * 2 ^ m, ?_, ?_⟩
      · have : okPow 1 (m : Nat) = true := by
          unfold okPow
          simp
          omega
        show (if okPow 1 (m : Nat) = true then _ else _) = _
        rw [if_pos this]
        rfl
      · have hd : ∀ m : Nat, m < 17 → (1 : Int) ≤ 1 * 2 ^ m ∧ (1 : Int) * 2 ^ m ≤ 100000 := by decide
        exact hd m hm
    obtain ⟨z, ez, z1, z2⟩ := hs
    simp -implicitDefEqProofs only [h0, decide_true, if_true, e3, O.bind_ok, ez, O.lift_some, Y.of_ok, Y.then_nx]
    exact ⟨n3, fin z _ z1 z2⟩
  · by_cases h1 : (j : Int) = 1
    · obtain ⟨v3, n3, e3, l3, u3⟩ := take_ok n2 (b := 8) (by omega)
      obtain ⟨v4, n4, e4, l4, u4⟩ := take_ok n3 (b := 100) (by omega)
      have hs : ∃ z : Int, ixD (.list [.int 3, .int 5, .int 9, .int 15, .int 45, .int 105, .int 315, .int 945]) (.int v3) = some (.int z) ∧ 1 ≤ z ∧ z ≤ 945 := by
        rcases (show v3 = 0 ∨ v3 = 1 ∨ v3 = 2 ∨ v3 = 3 ∨ v3 = 4 ∨ v3 = 5 ∨ v3 = 6 ∨ v3 = 7 by omega) with rfl | rfl | rfl | rfl | rfl | rfl | rfl | rfl
        · exact ⟨3, rfl, by omega, by omega⟩
        · exact ⟨5, rfl, by omega, by omega⟩
        · exact ⟨9, rfl, by omega, by omega⟩
        · exact ⟨15, rfl, by omega, by omega⟩
        · exact ⟨45, rfl, by omega, by omega⟩
        · exact ⟨105, rfl, by omega, by omega⟩
        · exact ⟨315, rfl, by omega, by omega⟩
        · exact ⟨945, rfl, by omega, by omega⟩
      obtain ⟨z, ez, z1, z2⟩ := hs
      have m1 : mulID (.int z) (.int (1 + v4)) = some (.int (z * (1 + v4))) := mulID_small (.inl (by omega))
      simp -implicitDefEqProofs only [h0, h1, decide_true, decide_false, Bool.false_eq_true, if_false, if_true, e3, O.bind_ok, ez, O.lift_some, e4, addD_int, m1, Y.of_ok, Y.then_nx]
      have hz1 : 1 * 1 ≤ z * (1 + v4) := Int.mul_le_mul z1 (by omega) (by omega) (by omega)
      have hz2 : z * (1 + v4) ≤ 945 * 100 := Int.mul_le_mul z2 (by omega) (by omega) (by omega)
      exact ⟨n4, fin _ _ (by omega) (by omega)⟩
    · simp -implicitDefEqProofs only [h0, h1, decide_false, Bool.false_eq_true, if_false, Y.then_nx]
      exact ⟨n2, fin _ _ (by omega) (by omega)⟩
theorem b3_ok {top rows k : Nat} (h1 : top ≤ 1000) (h2 : rows ≤ 1000) (hk : k ∈ List.range' 1 (rows - 1)) : b3 (.int (top : Nat)) (.int (rows : Nat)) (cut top rows k) () = .nx () := by
  rw [List.mem_range'_1] at hk
  have hj := joined_ok (top : Nat) (k : Nat) ((top + k : Nat) : Int) ((rows - k : Nat) : Int)
  rw [if_pos (by omega)] at hj
  have e1 : (k : Int) + ((rows - k : Nat) : Int) = (rows : Int) := by omega
  rw [e1] at hj
  have al : c__law_alike 8 (.tuple [.int (top : Nat), .int (rows : Nat)]) (.tuple [.int (top : Nat), .int (rows : Nat)]) = .ok (.bool true) := alike_ok rfl
  have hs : ((k * top + t k : Nat) : Int) + (((rows - k) * (top + k) + t (rows - k) : Nat) : Int) = ((rows * top + t rows : Nat) : Int) := by
    obtain ⟨m, rfl⟩ : ∃ m, rows = k + m := ⟨rows - k, by omega⟩
    rw [show k + m - k = m by omega, t_add]
    have : k * top + t k + (m * (top + k) + t m) = (k + m) * top + (t k + t m + k * m) := by grind
    exact_mod_cast this
  unfold b3 cut
  rw [unp2_t]
  simp -implicitDefEqProofs only [hj, O.bind_ok, al, tru_b, O.lift_some, Bool.not_true, Bool.false_eq_true, if_false, logs_ok (show top ≤ 100000 by omega) (show k ≤ 100000 by omega), logs_ok (show top + k ≤ 100000 by omega) (show rows - k ≤ 100000 by omega), logs_ok (show top ≤ 100000 by omega) (show rows ≤ 100000 by omega), addD_int, hs, neD_int, decide_true, bool_b, Y.of_ok]
theorem b4_ok (d : D) (ns : List Int) : ∃ ns' : List Int, b4 d (dI ns) = .nx (dI ns') := by
  obtain ⟨v1, n1, e1, l1, u1⟩ := take_ok ns (b := 6) (by omega)
  obtain ⟨v2, n2, e2, l2, u2⟩ := take_ok n1 (b := 4) (by omega)
  obtain ⟨v3, n3, e3, l3, u3⟩ := take_ok n2 (b := 8) (by omega)
  obtain ⟨v4, n4, e4, l4, u4⟩ := take_ok n3 (b := 4) (by omega)
  have tt : ∀ a b : Int, tupD [.int a, .int b] = some (.tuple [.int a, .int b]) := fun a b => tupD_ok (by simp)
  have al : ∀ a b : Int, c__law_alike 8 (.tuple [.int a, .int b]) (.tuple [.int a, .int b]) = .ok (.bool true) := fun a b => alike_ok rfl
  have aln : c__law_alike 8 .none .none = .ok (.bool true) := alike_ok rfl
  unfold b4
  simp -implicitDefEqProofs only [e1, e2, e3, e4, O.bind_ok, O.lift_some, addD_int, tt, Y.of_ok, ix_t0, ix_t1, eqD_int, bool_b, joined_ok]
  by_cases h : 1 + v1 + (1 + v2) = 1 + v3
  · simp -implicitDefEqProofs only [h, decide_true, if_true, tt, O.bind_ok, O.lift_some, Y.of_ok, al, tru_b, Bool.not_true, Bool.false_eq_true, if_false]
    exact ⟨n4, rfl⟩
  · simp -implicitDefEqProofs only [h, decide_false, Bool.false_eq_true, if_false, O.bind_ok, O.lift_some, Y.of_ok, aln, tru_b, Bool.not_true]
    exact ⟨n4, rfl⟩
end K87
namespace K87
open PySem PySem.Spec PyProof.Rows L2 DL
/-! ### the law, block by block -/
/-! ### the law -/
theorem odd_sum (n : Nat) : ((List.range ((n + 1) / 2)).map fun i => n / (1 + i * 2)).sum = OH n := by
  have key : ∀ m : Nat, (List.range' 1 m).filter (fun d => decide (d % 2 = 1)) = (List.range ((m + 1) / 2)).map fun i => 1 + i * 2 := by
    intro m
    induction m with
    | zero => rfl
    | succ m ih =>
      rw [List.range'_concat, List.filter_append, ih, Nat.one_mul]
      by_cases h : m % 2 = 0
      · rw [List.filter_cons_of_pos (by rw [decide_eq_true_eq]; omega), show (m + 1 + 1) / 2 = (m + 1) / 2 + 1 by omega, List.range_succ, List.map_append]
        simp
        omega
      · rw [List.filter_cons_of_neg (by rw [decide_eq_true_eq]; omega), show (m + 1 + 1) / 2 = (m + 1) / 2 by omega]
        simp
  unfold OH
  rw [key, List.map_map]
  rfl
theorem rng3_odd {n : Nat} (hn : n ≤ 100000) : rng3D [.int 1, .int ((n : Int) + 1), .int 2] = some ((List.range ((n + 1) / 2)).map fun i => PyData.int ((1 + i * 2 : Nat) : Int)) := by
  have hs : Builtin.Range.rangeSize 1 ((n : Int) + 1) 2 = (((n + 1) / 2 : Nat) : Int) := by
    unfold Builtin.Range.rangeSize
    rw [if_pos (by decide)]
    split <;> omega
  have h1 : okR 1 = true := okR_of (by decide) (by decide)
  have h2 : okR ((n : Int) + 1) = true := okR_of (by omega) (by omega)
  have h3 : Builtin.Range.small 1 ((n : Int) + 1) 2 = true := by
    unfold Builtin.Range.small
    rw [hs]
    simp [Builtin.Range.rangeFitsLong]
    omega
  have hN : rng3N 1 ((n : Int) + 1) 2 = some ((n + 1) / 2) := by
    unfold rng3N
    rw [if_pos ⟨h1, h2, by decide, by decide, h3, by rw [hs]; omega⟩, hs, Int.toNat_natCast]
  unfold rng3D
  dsimp only
  rw [hN, Option.map_some]
  congr 1
theorem natI {v : Int} (h : 0 ≤ v) : ∃ a : Nat, v = (a : Int) := Int.eq_ofNat_of_zero_le h
theorem sum_nat (f : Nat → Nat) (l : List Nat) : (l.map fun i => ((f i : Nat) : Int)).sum = (((l.map f).sum : Nat) : Int) := by
  induction l with
  | nil => rfl
  | cons x l ih => simp only [List.map_cons, List.sum_cons, ih]; omega
theorem few_ok {f : Nat} (hf : f ≤ 100000) : O.lcL (fun d69 => (O.some' (O.un lenD (c__law_heaps d69)))) ((List.range' 1 f).map fun i => PyData.int (i : Nat)) [] = .ok (((List.range' 1 f).map fun m => (((hL m).length : Nat) : Int)).map PyData.int) := by
  rw [lcL_all (g := fun m : Nat => PyData.int (((hL m).length : Nat) : Int)) (fun k hk => ?_) (by simp; omega)]
  · rw [List.map_map]; rfl
  · rw [List.mem_range'_1] at hk
    rw [law_heaps_ok (by omega)]
    simp -implicitDefEqProofs
theorem oddL_ok {f : Nat} (hf : f ≤ 100000) : O.lcL (fun d77 => (O.some' (O.bin fdivD (O.ok (.int (f : Nat))) (O.ok d77)))) ((List.range ((f + 1) / 2)).map fun i => PyData.int ((1 + i * 2 : Nat) : Int)) [] = .ok (((List.range ((f + 1) / 2)).map fun i => ((f / (1 + i * 2) : Nat) : Int)).map PyData.int) := by
  rw [lcL_all (emb := fun i : Nat => PyData.int ((1 + i * 2 : Nat) : Int)) (g := fun i : Nat => PyData.int ((f / (1 + i * 2) : Nat) : Int)) (fun k hk => ?_) (by simp; omega)]
  · rw [List.map_map]; rfl
  · rw [List.mem_range] at hk
    have e : (f : Int) / ((1 + k * 2 : Nat) : Int) = ((f / (1 + k * 2) : Nat) : Int) := by norm_cast
    simp -implicitDefEqProofs only [O.bind_ok, fdiv_s (show (0 : Int) < ((1 + k * 2 : Nat) : Int) by omega) (by omega), e, O.lift_some]
theorem words_ok : (O.lcL (fun d81 => (unp2 .bad d81 fun which bad => (O.some' (c__law_told which bad)))) [.tuple [.int 0, .int 0], .tuple [.int 0, .int 100001], .tuple [.int 1, .int 0], .tuple [.int 1, .int 100001], .tuple [.int 2, .int (-1)], .tuple [.int 2, .int 100001]] []) = .ok [.str "range", .str "range", .str "range", .str "range", .str "range", .str "range"] := by
  have a1 := bad0 (i := 0) (by omega)
  have a2 := bad0 (i := 100001) (by omega)
  have a3 := bad1 (i := 0) (by omega)
  have a4 := bad1 (i := 100001) (by omega)
  have a5 := bad2 (i := -1) (by omega)
  have a6 := bad2 (i := 100001) (by omega)
  simp -implicitDefEqProofs [O.lcL, a1, a2, a3, a4, a5, a6]
theorem odds_list : (O.lcL (fun d83 => (O.when (O.notB (O.tru ((c_is_heap d83).bind fun a84 => (c__law_says a84 (.bool false))))) (O.ok d83))) [.none, .list [.int 1, .int 2], .tuple [.int 1], .tuple [.int 0, .int 1], .tuple [.int 1, .int 0], .tuple [.int 100001, .int 1], .tuple [.int 1, .int 447], .tuple [.bool true, .int 1], .tuple [.int 1, .none], .tuple [.int 1, .int 2, .int 3]] []) = .ok [] := by
  obtain ⟨_, a1, a2, a3, a4, a5, a6, a7, a8, a9, a10⟩ := odd_ok
  refine lcL_nil (fun d hd => ?_) (by simp)
  have hf : ∀ d, c_is_heap d = .ok (.bool false) → (O.when (O.notB (O.tru ((c_is_heap d).bind fun a84 => (c__law_says a84 (.bool false))))) (O.ok d)) = .ok none := fun d h => by
    rw [h]
    simp -implicitDefEqProofs [says_ok]
  simp only [List.mem_cons, List.not_mem_nil, or_false] at hd
  rcases hd with rfl | rfl | rfl | rfl | rfl | rfl | rfl | rfl | rfl | rfl
  · exact hf _ a1
  · exact hf _ a2
  · exact hf _ a3
  · exact hf _ a4
  · exact hf _ a5
  · exact hf _ a6
  · exact hf _ a7
  · exact hf _ a8
  · exact hf _ a9
  · exact hf _ a10
theorem law_ok (ns : List Int) (hn : ns.length ≤ 63) : c_law (.list (dI ns)) = .ok (.bool true) := by
  obtain ⟨ds, hd⟩ := draws_ok ns hn
  have r5 : rng1D [.int 5] = some ((List.range 5).map fun i => PyData.int (i : Nat)) := rng1_nat (n := 5) (by omega)
  have r4 : rng1D [.int 4] = some ((List.range 4).map fun i => PyData.int (i : Nat)) := rng1_nat (n := 4) (by omega)
  have al2 : ∀ i : Int, c__law_alike 8 (.int i) (.int i) = .ok (.bool true) := fun i => alike_ok rfl
  have tt : ∀ a b : Int, tupD [.int a, .int b] = some (.tuple [.int a, .int b]) := fun a b => tupD_ok (by simp)
  unfold c_law
  refine st (dI ds) (by rw [hd]; rfl) ?_
  refine st ((List.range 5).map fun i => PyData.int (i : Nat)) (by simp -implicitDefEqProofs only [O.bind_ok, r5, O.lift_some]) ?_
  refine stI (I := fun (_ : List D) (s : List D) => ∃ ns : List Int, s = dI ns) ?_ ⟨ds, rfl⟩ ?_
  · rintro d r s hd ⟨n1, rfl⟩
    obtain ⟨j, _, rfl⟩ := List.mem_map.mp hd
    obtain ⟨n2, h⟩ := b1_ok j n1
    exact ⟨_, h, n2, rfl⟩
  rintro s ⟨n1, rfl⟩
  obtain ⟨v1, n2, e1, l1, u1⟩ := take_ok n1 (b := 40) (by omega)
  obtain ⟨v2, n3, e2, l2, u2⟩ := take_ok n2 (b := 30) (by omega)
  obtain ⟨top, ht⟩ := natI (v := 1 + v1) (by omega)
  obtain ⟨rows, hr⟩ := natI (v := 1 + v2) (by omega)
  have al1 : c__law_alike 8 (.tuple (cuts top rows)) (.tuple (cuts top rows)) = .ok (.bool true) := alike_ok (okA_cuts (k := 4) (by omega))
  refine st (PyData.tuple [.int (top : Nat), .int (rows : Nat)], dI n3) (by
    simp -implicitDefEqProofs only [e1, e2, O.bind_ok, O.lift_some, addD_int, tt, ht, hr]) ?_
  dsimp only
  rw [unp2_t]
  refine st (.tuple (cuts top rows)) (cuts_ok (by omega)) ?_
  refine st (cuts top rows) (due_ok (by omega)) ?_
  refine stF (by
    simp -implicitDefEqProofs only [O.bind_ok, tupOf_l, O.lift_some, al1, tru_b, Bool.not_true, Bool.false_eq_true, if_false, logs_ok (show top ≤ 100000 by omega) (show rows ≤ 100000 by omega), law_logs_ok (show rows ≤ 1000 by omega), al2]) ?_
  refine st (cuts top rows) rfl ?_
  refine stS () (show (Y.forL (b3 (.int (top : Nat)) (.int (rows : Nat))) (cuts top rows) () : Y Unit Empty D) = .nx () from forL_same fun d hd => by
    obtain ⟨k, hk, rfl⟩ := List.mem_map.mp hd
    exact b3_ok (by omega) (by omega) hk) ?_
  refine st ((List.range 4).map fun i => PyData.int (i : Nat)) (by simp -implicitDefEqProofs only [O.bind_ok, r4, O.lift_some]) ?_
  refine stI (I := fun (_ : List D) (s : List D) => ∃ ns : List Int, s = dI ns) ?_ ⟨n3, rfl⟩ ?_
  · rintro d r s hd ⟨n1, rfl⟩
    obtain ⟨n2, h⟩ := b4_ok d n1
    exact ⟨_, h, n2, rfl⟩
  rintro s ⟨n4, rfl⟩
  obtain ⟨v3, n5, e3, l3, u3⟩ := take_ok n4 (b := 60) (by omega)
  obtain ⟨few, rfl⟩ := natI l3
  have rf : rng2D [.int 1, .int ((few : Int) + 1)] = some ((List.range' 1 few).map fun i => PyData.int (i : Nat)) := by
    have := rng2_1 (r := few + 1) (by omega)
    rw [Nat.add_sub_cancel] at this
    exact this
  have sf : sumD (.list (((List.range' 1 few).map fun m => (((hL m).length : Nat) : Int)).map PyData.int)) = some (.int ((TH few : Nat) : Int)) := by
    rw [sum_l, sum_nat, TH_sum]
  refine st (PyData.int (few : Nat), dI n5) (by rw [e3]; rfl) ?_
  have hfew : (O.un sumD (O.cell (O.lc (O.rng2 (O.cons (O.ok (.int 1)) (O.cons (O.bin addD (O.ok (.int (few : Nat))) (O.ok (.int 1))) (O.ok [])))) (fun d69 => (O.some' (O.un lenD (c__law_heaps d69))))))) = .ok (.int ((TH few : Nat) : Int)) := by
    exact un_cell_lc (by simp -implicitDefEqProofs only [O.bind_ok, addD_int, O.lift_some, rf]) (few_ok (f := few) (by omega)) sf
  refine stF (by
    dsimp only
    rw [hfew, told2 (show few ≤ 100000 by omega)]
    simp -implicitDefEqProofs only [O.bind_ok, al2, O.lift_some, tru_b, Bool.not_true]) ?_
  obtain ⟨v4, n6, e4, l4, u4⟩ := take_ok n5 (b := 2) (by omega)
  have hb : ∃ w : Int, ixD (.list [.int 1000, .int 100001]) (.int v4) = some (.int w) ∧ 0 < w ∧ w ≤ 100001 := by
    rcases (show v4 = 0 ∨ v4 = 1 by omega) with rfl | rfl
    · exact ⟨1000, rfl, by omega, by omega⟩
    · exact ⟨100001, rfl, by omega, by omega⟩
  obtain ⟨w, ew, w1, w2⟩ := hb
  obtain ⟨v5, n7, e5, l5, u5⟩ := take_ok n6 (b := w) w1
  obtain ⟨far, rfl⟩ := natI l5
  have so : sumD (.list (((List.range ((far + 1) / 2)).map fun i => ((far / (1 + i * 2) : Nat) : Int)).map PyData.int)) = some (.int ((TH far : Nat) : Int)) := by
    rw [sum_l, sum_nat, odd_sum, OH_TH]
  refine st (PyData.int (far : Nat), dI n7) (by
    simp -implicitDefEqProofs only [e4, O.bind_ok, ew, O.lift_some, e5]) ?_
  have hfar : (O.un sumD (O.cell (O.lc (O.rng3 (O.cons (O.ok (.int 1)) (O.cons (O.bin addD (O.ok (.int (far : Nat))) (O.ok (.int 1))) (O.cons (O.ok (.int 2)) (O.ok []))))) (fun d77 => (O.some' (O.bin fdivD (O.ok (.int (far : Nat))) (O.ok d77))))))) = .ok (.int ((TH far : Nat) : Int)) := by
    have hy := rng3_odd (n := far) (by omega)
    exact un_cell_lc (by simp -implicitDefEqProofs only [O.bind_ok, addD_int, O.lift_some, hy]) (oddL_ok (f := far) (by omega)) so
  refine stF (by
    dsimp only
    rw [hfar, told2 (show far ≤ 100000 by omega)]
    simp -implicitDefEqProofs only [O.bind_ok, ltD_int, O.lift_some, bool_b, neD_int, decide_true, Bool.not_true, ite_self]) ?_
  refine stF (by
    dsimp only
    by_cases h : (3000 : Int) ≤ (far : Int)
    · obtain ⟨m, rfl⟩ : ∃ m, far = m + 1 := ⟨far - 1, by omega⟩
      have e1 : ((m + 1 : Nat) : Int) - 1 = (m : Int) := by omega
      have e2 : ((TH (m + 1) : Nat) : Int) - ((TH m : Nat) : Int) = (((hL (m + 1)).length : Nat) : Int) := by
        rw [TH_succ]; omega
      simp -implicitDefEqProofs only [O.bind_ok, geD_int, O.lift_some, bool_b, told2 (show m + 1 ≤ 100000 by omega), subD_int, e1, told2 (show m ≤ 100000 by omega), e2, odds_ok (show 1 ≤ m + 1 by omega) (show m + 1 ≤ 100000 by omega), neD_int, decide_true, Bool.not_true, ite_self]
    · simp -implicitDefEqProofs only [O.bind_ok, geD_int, O.lift_some, bool_b, h, decide_false, Bool.false_eq_true, if_false]) ?_
  have hm : mulF (.list [.str "range"]) (.int 6) = some (.lst [.str "range", .str "range", .str "range", .str "range", .str "range", .str "range"]) := rfl
  have hne : neD (.list [.str "range", .str "range", .str "range", .str "range", .str "range", .str "range"]) (.list [.str "range", .str "range", .str "range", .str "range", .str "range", .str "range"]) = some (.bool false) := neD_self rfl
  have h0 := heaps_to_ok (n := 0) (by omega)
  have h00 : TH 0 = 0 := rfl
  rw [h00] at h0
  have h0' : c_heaps_to (.int 0) = .ok (.int 0) := h0
  refine stF (by
    rw [items_e, cell_lc rfl words_ok]
    simp -implicitDefEqProofs only [O.bind_ok, hm, O.lift_some, cellD_l, hne, bool_b, Bool.false_eq_true, if_false, h0', neD_int, decide_true, Bool.not_true]) ?_
  refine st (.bool true) (by
    rw [items_e, cell_lc rfl odds_list, odd_ok.1]
    simp -implicitDefEqProofs) ?_
  rfl
end K87
namespace K87
open PySem PySem.Spec PyProof.Rows L2 DL
theorem plain : ∀ ns : List Int, ns.length ≤ 63 → (∀ z ∈ ns, Builtin.Int.intBits z ≤ 1048576) → F_law [.dat (.list (ns.map PyData.int))] = some (.ret (.bool true) []) := by
  intro ns hn _
  have h := cl_law (.list (dI ns))
  rw [law_ok ns hn] at h
  exact h
end K87
open PySem PySem.W PyProof.Rows
set_option maxHeartbeats 0 in
theorem PySem.Challenge.cw_sawheld_k87_whole_heaps_of_logs_holds : PySem.Challenge.rw_sawheld_k87_whole_heaps_of_logs.Holds := by
  w_on; o_law; k_head; (case hw => w_witness2)
  k_fill
  refine DL.walk_all (l := PySem.Challenge.rw_sawheld_k87_whole_heaps_of_logs) (n := 63) (k := 9) (x := "script") (CX := fun _ => L2.CX0) rfl (by decide) rfl ⟨rfl, by decide, by decide⟩ (fun w h Y => PySem.W.kIn_of Y) ?F (fun _ _ _ _ _ h => h)
  case F =>
    intro w mg fa h Y KX G hmg all
    refine' K87.all_mk K87.plain KX G hmg all ?a0 ?l0 ?c0 ?k0 ?a1 ?l1 ?c1 ?k1 ?a2 ?l2 ?c2 ?k2 ?a3 ?l3 ?c3 ?k3 ?a4 ?l4 ?c4 ?k4 ?a5 ?l5 ?c5 ?k5 ?a6 ?l6 ?c6 ?k6 ?a7 ?l7 ?c7 ?k7 ?a8 ?l8 ?c8 ?k8 ?a9 ?l9 ?c9 ?k9 ?a10 ?l10 ?c10 ?k10 ?a11 ?l11 ?c11 ?k11 ?a12 ?l12 ?c12 ?k12 ?a13 ?l13 ?c13 ?k13 ?a14 ?l14 ?c14 ?k14 ?a15 ?l15 ?c15 ?k15 ?a16 ?l16 ?c16 ?k16 ?a17 ?l17 ?c17 ?k17 ?a18 ?l18 ?c18 ?k18 ?r2 ?t2 ?u2 ?v2 ?z_isinstance ?z_bool ?z_int ?z_all ?z_len ?z_tuple ?z_range ?z_list ?z_reversed ?z_abs ?z_str ?z_sum ?h_MOST_LOGS ?g_OutOfRange ?g_Malformed ?g_NotThere ?g_Refused ?g_TooMuch ?g_SawError ?xq_OutOfRange ?xk_OutOfRange ?xt_OutOfRange ?hn_E ?ht_E ?hg_OutOfRange ?hk_OutOfRange ?xb_OutOfRange ?hd_OutOfRange ?ha_OutOfRange ?hm_OutOfRange ?ki_OutOfRange_OutOfRange ?ki_OutOfRange_Malformed ?ki_OutOfRange_NotThere ?ki_OutOfRange_Refused ?ki_OutOfRange_TooMuch ?em_OutOfRange
    (case a0 => k_is); (case l0 => k_is); (case c0 => k_is); (case k0 => k_is)
    (case a1 => k_is); (case l1 => k_is); (case c1 => k_is); (case k1 => k_is)
    (case a2 => k_is); (case l2 => k_is); (case c2 => k_is); (case k2 => k_is)
    (case a3 => k_is); (case l3 => k_is); (case c3 => k_is); (case k3 => k_is)
    (case a4 => k_is); (case l4 => k_is); (case c4 => k_is); (case k4 => k_is)
    (case a5 => k_is); (case l5 => k_is); (case c5 => k_is); (case k5 => k_is)
    (case a6 => k_is); (case l6 => k_is); (case c6 => k_is); (case k6 => k_is)
    (case a7 => k_is); (case l7 => k_is); (case c7 => k_is); (case k7 => k_is)
    (case a8 => k_is); (case l8 => k_is); (case c8 => k_is); (case k8 => k_is)
    (case a9 => k_is); (case l9 => k_is); (case c9 => k_is); (case k9 => k_is)
    (case a10 => k_is); (case l10 => k_is); (case c10 => k_is); (case k10 => k_is)
    (case a11 => k_is); (case l11 => k_is); (case c11 => k_is); (case k11 => k_is)
    (case a12 => k_is); (case l12 => k_is); (case c12 => k_is); (case k12 => k_is)
    (case a13 => k_is); (case l13 => k_is); (case c13 => k_is); (case k13 => k_is)
    (case a14 => k_is); (case l14 => k_is); (case c14 => k_is); (case k14 => k_is)
    (case a15 => k_is); (case l15 => k_is); (case c15 => k_is); (case k15 => k_is)
    (case a16 => k_is); (case l16 => k_is); (case c16 => k_is); (case k16 => k_is)
    (case a17 => k_is); (case l17 => k_is); (case c17 => k_is); (case k17 => k_is)
    (case a18 => k_is); (case l18 => k_is); (case c18 => k_is); (case k18 => k_is)
    (case r2 => k_is); (case t2 => exact ⟨rfl, rfl, ⟨_, _, rfl⟩, ⟨_, _, rfl⟩, ⟨_, rfl⟩, ⟨_, _, rfl⟩, by decide⟩); (case u2 => first | rfl | decide +kernel | k_is); (case v2 => decide +kernel)
    (case z_isinstance => k_is); (case z_bool => k_is); (case z_int => k_is); (case z_all => k_is); (case z_len => k_is); (case z_tuple => k_is); (case z_range => k_is); (case z_list => k_is); (case z_reversed => k_is); (case z_abs => k_is); (case z_str => k_is); (case z_sum => k_is); (case h_MOST_LOGS => k_is)
    (case g_OutOfRange => k_is)
    (case g_Malformed => k_is)
    (case g_NotThere => k_is)
    (case g_Refused => k_is)
    (case g_TooMuch => k_is)
    (case g_SawError => k_is)
    (case xq_OutOfRange => k_exc)
    (case xk_OutOfRange => k_is)
    (case xt_OutOfRange => k_is)
    (case hn_E => k_is)
    (case ht_E => k_is)
    (case hg_OutOfRange => k_is)
    (case hk_OutOfRange => k_is)
    (case xb_OutOfRange => k_is)
    (case hd_OutOfRange => k_is)
    (case ha_OutOfRange => k_is)
    (case hm_OutOfRange => k_is)
    (case ki_OutOfRange_OutOfRange => kit_is)
    (case ki_OutOfRange_Malformed => kit_is)
    (case ki_OutOfRange_NotThere => kit_is)
    (case ki_OutOfRange_Refused => kit_is)
    (case ki_OutOfRange_TooMuch => kit_is)
    (case em_OutOfRange => kts_exm)
