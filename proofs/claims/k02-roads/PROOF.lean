import PyProof.Rows.All
import Wide.All
import OpenK.AllK
import Wide.FinOn
import PySem.Challenge.RW_chainclaims_k02_whole_roads_and_lost_cel
import HandS.ForMost
import HandS.ForExc
import HandS.IsInst
import HandS.Flow
import HandS.Style
import HandS.RaiseMore
import HandS.Conv
import HandS.Defaults
import HandS.Small
import HandS.DictTup
import HandS.Zip
import HandS.TupAny
import HandS.More
import HandS.Lambda
import HandS.EndTab
import HandS.TryMany
import HandS.ExcInit
import HandS.DictComp
import HandS.ClsMeth
import KE.SortKeyHeap
import KE.SortData
import PyProof.Draws
import PyProof.EnumMake
import HandS.TupMul
import HandS.ExcField
import HandS.RevTup
import KE.KDictZip
import KE.GoesZip
set_option Elab.async false
set_option linter.all false
set_option maxRecDepth 100000
set_option maxHeartbeats 8000000
/-! Values without a heap (D), memory of what changes (Mem), how they stand for the layer's values over the layer's heap (Rep, Good), what a step keeps (Nxt). -/
namespace EV
open PySem PySem.Spec PyProof.Rows L2

/-- a value: data, or a cell of the memory -/
inductive D where
  | non | bl (b : Bool) | int (i : Int) | str (x : Str)
  | tup (xs : List D) | lst (xs : List D) | dic (ks : List Key) (xs : List D)
  | ref (n : Nat) | fn | scr (ns : List Int)
  | pr (x y : D)
deriving Inhabited

mutual
def deq : D → D → Bool
  | .non, .non => true
  | .bl a, .bl b => a == b
  | .int a, .int b => decide (a = b)
  | .str a, .str b => decide (a = b)
  | .tup xs, .tup ys => deqs xs ys
  | .lst xs, .lst ys => deqs xs ys
  | .dic ks xs, .dic ls ys => decide (ks = ls) && deqs xs ys
  | .ref a, .ref b => decide (a = b)
  | .fn, .fn => true
  | .scr a, .scr b => decide (a = b)
  | .pr a b, .pr c d => deq a c && deq b d
  | _, _ => false
def deqs : List D → List D → Bool
  | [], [] => true
  | x :: xs, y :: ys => deq x y && deqs xs ys
  | _, _ => false
end
mutual
theorem deq_iff : ∀ a b : D, deq a b = true ↔ a = b
  | .non, b => by cases b <;> simp [deq]
  | .bl a, b => by cases b <;> simp [deq]
  | .int a, b => by cases b <;> simp [deq]
  | .str a, b => by cases b <;> simp [deq]
  | .tup xs, b => by
    cases b with
    | tup ys => simp [deq, deqs_iff xs ys]
    | _ => simp [deq]
  | .lst xs, b => by
    cases b with
    | lst ys => simp [deq, deqs_iff xs ys]
    | _ => simp [deq]
  | .dic ks xs, b => by
    cases b with
    | dic ls ys => simp [deq, deqs_iff xs ys]
    | _ => simp [deq]
  | .ref a, b => by cases b <;> simp [deq]
  | .fn, b => by cases b <;> simp [deq]
  | .scr a, b => by cases b <;> simp [deq]
  | .pr x y, b => by
    cases b with
    | pr z w => simp [deq, deq_iff x z, deq_iff y w]
    | _ => simp [deq]
theorem deqs_iff : ∀ a b : List D, deqs a b = true ↔ a = b
  | [], b => by cases b <;> simp [deqs]
  | x :: xs, b => by
    cases b with
    | nil => simp [deqs]
    | cons y ys => simp [deqs, deq_iff x y, deqs_iff xs ys]
end
instance : DecidableEq D := fun a b => decidable_of_iff _ (deq_iff a b)
inductive Cell where
  | lst (xs : List D) | dic (ks : List Key) (xs : List D) | ins (c : Nat) (ns : List Str) (xs : List D)
deriving Inhabited, DecidableEq
abbrev Mem := List Cell

/-- a text of code points -/
def sOk (x : Str) : Bool := x.cps.all (· < 0x110000)
/-- what the top has written: its part K, the classes' addresses, tables of code objects -/
structure Gw where
  K : PySem.W.Frag
  cl : Nat → Addr
  xc : Nat → Addr
  xf : Nat → Str
  tabs : List (Addr × Str)

/-- a tuple, its object known but for the items -/
def TupS (K : PySem.W.Frag) (H : Hp) (a : Addr) (xs : List V) : Prop :=
  (∃ o : Obj, H a = some (.frz o (.tup xs)) ∧ o.dict = none) ∨ ∃ (o : Obj) (its : Array Value) (n : Nat), K.lookup a = some o ∧ o.dict = none ∧ o.cls = .type "tuple" ∧ o.data = .seq its n ∧ its.size ≤ sizeLine ∧ Vals xs its.toList
theorem TupS.sqT {K : PySem.W.Frag} {H : Hp} {a : Addr} {xs : List V} (h : TupS K H a xs) : SqT K H a xs := by
  rcases h with ⟨o, h, _⟩ | ⟨o, its, n, h1, _, h2, h3, h4, h5⟩
  · exact .inl (.inr ⟨o, h⟩)
  · exact .inr ⟨o, its, n, h1, h2, h3, h4, h5⟩
theorem TupS.of {K : PySem.W.Frag} {H : Hp} {a : Addr} {xs : List V} {o : Obj} (h : H a = some (.frz o (.tup xs))) (d : o.dict = none) : TupS K H a xs := .inl ⟨o, h, d⟩
theorem TupS.exact {X : Cx} {pins : List (Addr × Obj)} {σ : L2.St} {H : Hp} {s : Shared} {a : Addr} {xs : List V} (I : Inv X pins σ H s) (h : TupS X.K H a xs) :
    ∃ (o : Obj) (its : Array Value) (n : Nat), s.heap.get? a = some o ∧ o.cls = .type "tuple" ∧ o.data = .seq its n ∧ o.dict = none ∧ its.size ≤ sizeLine ∧ Vals xs its.toList := by
  rcases h with ⟨o, h, d⟩ | ⟨o, its, n, h1, h0, h2, h3, h4, h5⟩
  · have z : ObjOk X.prog X.w H s.heap a (.frz o (.tup xs)) := I.hok a _ h
    obtain ⟨e, hz, its, r, o', e', hc, n, hd⟩ := z
    rw [e] at e'; cases e'
    exact ⟨o, its.toArray, n, e, hc, hd, d, by rw [List.size_toArray, ← r.length]; exact hz, r⟩
  · exact ⟨o, its, n, I.kIn _ _ h1, h2, h3, h0, h4, h5⟩
mutual
def Rep (G : Gw) (μ τ : List Addr) (H : Hp) : D → V → Prop
  | .non, v => v = .non
  | .bl b, v => v = .bl b
  | .int i, v => v = .int i
  | .str x, v => v = .str x ∧ sOk x = true
  | .tup ds, v => ∃ a vs, v = .ref a ∧ TupS G.K H a vs ∧ Reps G μ τ H ds vs
  | .lst ds, v => ∃ a vs, v = .ref a ∧ H a = some (.lst vs) ∧ a ∉ μ ∧ a ∉ τ ∧ Reps G μ τ H ds vs
  | .dic ks ds, v => ∃ a vs, v = .ref a ∧ H a = some (.dK (ks.zip vs)) ∧ ks.length = vs.length ∧ a ∉ μ ∧ a ∉ τ ∧ Reps G μ τ H ds vs
  | .ref n, v => ∃ a, v = .ref a ∧ μ[n]? = some a
  | .fn, v => ∃ a, v = .ref a
  | .scr ns, v => ∃ a, v = .ref a ∧ ((Rd H a (.lst (ns.map V.int)) ∧ a ∉ μ ∧ a ∉ τ) ∨ ∀ H', SqL G.K H' a (ns.map V.int))
  | .pr x y, v => ∃ a p q, v = .ref a ∧ SqT G.K H a [p, q] ∧ Rep G μ τ H x p ∧ Rep G μ τ H y q
def Reps (G : Gw) (μ τ : List Addr) (H : Hp) : List D → List V → Prop
  | [], vs => vs = []
  | d :: ds, vs => ∃ v r, vs = v :: r ∧ Rep G μ τ H d v ∧ Reps G μ τ H ds r
end

def CellRep (G : Gw) (μ τ : List Addr) (H : Hp) (a : Addr) : Cell → Prop
  | .lst ds => ∃ vs, H a = some (.lst vs) ∧ Reps G μ τ H ds vs
  | .dic ks ds => ∃ vs, H a = some (.dK (ks.zip vs)) ∧ ks.length = vs.length ∧ Reps G μ τ H ds vs
  | .ins c ns ds => ∃ dx vs, H a = some (.ins (G.cl c) dx (ns.zip vs)) ∧ ns.length = vs.length ∧ Reps G μ τ H ds vs

/-- the memory stands for the tracked cells -/
structure Good (G : Gw) (μ τ : List Addr) (m : Mem) (H : Hp) : Prop where
  len : μ.length = m.length
  cell : ∀ (n : Nat) (c : Cell) (a : Addr), m[n]? = some c → μ[n]? = some a → CellRep G μ τ H a c
  nodup : μ.Nodup
  dis : ∀ a ∈ τ, a ∉ μ ∧ H a ≠ none
  tabs : LamX.Tabs G.tabs H

/-- what may stand in a tracked cell -/
def MutO : HO → Prop
  | .lst _ => True
  | .dK _ => True
  | .ins _ _ _ => True
  | _ => False
theorem codeO_mut {c : Addr} {q : Str} : ¬ MutO (LamX.CodeO c q) := fun z => z
/-- tables of code objects stand while no object but changing ones is written -/
theorem tabs_upd {T : List (Addr × Str)} {H : Hp} {p : Addr} {o : HO} (t : LamX.Tabs T H) (h : ∀ u, H p = some u → MutO u) : LamX.Tabs T (upd H p o) := fun x hx => by
  obtain ⟨ps, h1, h2, h3⟩ := t x hx
  have ne : ∀ {b : Addr} {u : HO}, H b = some u → ¬ MutO u → b ≠ p := fun {b u} e n z => n (h u (z ▸ e))
  refine ⟨ps, by rw [upd_ne (ne h1 id)]; exact h1, h2, fun pos cv hc => ?_⟩
  obtain ⟨c, e1, e2⟩ := h3 pos cv hc
  exact ⟨c, e1, by rw [upd_ne (ne e2 codeO_mut)]; exact e2⟩
theorem tabs_laid {T : List (Addr × Str)} {H : Hp} {p : Addr} {o : HO} (t : LamX.Tabs T H) (h : H p = none) : LamX.Tabs T (upd H p o) := tabs_upd t fun u e => by rw [h] at e; cases e
theorem CellRep.mut {G : Gw} {μ τ : List Addr} {H : Hp} {a : Addr} {c : Cell} (h : CellRep G μ τ H a c) : ∃ o, H a = some o ∧ MutO o := by
  cases c with
  | lst ds => obtain ⟨vs, h, _⟩ := h; exact ⟨_, h, trivial⟩
  | dic ks ds => obtain ⟨vs, h, _⟩ := h; exact ⟨_, h, trivial⟩
  | ins c ns ds => obtain ⟨dx, vs, h, _⟩ := h; exact ⟨_, h, trivial⟩
theorem Good.mut {G : Gw} {μ τ : List Addr} {m : Mem} {H : Hp} (g : Good G μ τ m H) {a : Addr} (h : a ∈ μ) : ∃ o, H a = some o ∧ MutO o := by
  obtain ⟨n, hn, e⟩ := List.getElem_of_mem h
  have hm : n < m.length := by rw [← g.len]; exact hn
  exact (g.cell n m[n] a (by simp [hm]) (by simp [hn, e])).mut

/-- a step: new cells are new objects; what stands outside of the tracked cells stays (a code table may grow) -/
structure Nxt (μ τ : List Addr) (H : Hp) (μ' τ' : List Addr) (H' : Hp) : Prop where
  pre : ∀ (n : Nat) (a : Addr), μ[n]? = some a → μ'[n]? = some a
  keep : ∀ a o, H a = some o → a ∉ μ → (∀ ps, o ≠ .tbl ps) → H' a = some o
  tbl : ∀ a ps, H a = some (.tbl ps) → ∃ more, H' a = some (.tbl (ps ++ more))
  newM : ∀ a, a ∈ μ' → a ∈ μ ∨ H a = none
  newT : ∀ a, a ∈ τ' → a ∈ τ ∨ a ∈ μ ∨ H a = none
theorem Nxt.refl {μ τ : List Addr} {H : Hp} : Nxt μ τ H μ τ H := ⟨fun _ _ h => h, fun _ _ h _ _ => h, fun a ps h => ⟨#[], by simpa using h⟩, fun _ h => .inl h, fun _ h => .inl h⟩

section
variable {G : Gw} {μ τ μ' τ' μ'' τ'' μ₀ τ₀ : List Addr} {H H' H'' H₀ : Hp} {m m' : Mem}
theorem Nxt.sub (n : Nxt μ τ H μ' τ' H') {a : Addr} (h : a ∈ μ) : a ∈ μ' := by
  obtain ⟨i, hi, e⟩ := List.getElem_of_mem h
  have := n.pre i a (by simp [hi, e])
  exact List.mem_of_getElem? this
/-- what is no object behind the step was none ahead, or was tracked -/
theorem Nxt.none_of (h : Nxt μ τ H μ' τ' H') {a : Addr} (e : H' a = none) : a ∈ μ ∨ H a = none := by
  cases q : H a with
  | none => exact .inr rfl
  | some o =>
    by_cases ha : a ∈ μ
    · exact .inl ha
    · by_cases ho : ∃ ps, o = .tbl ps
      · obtain ⟨ps, rfl⟩ := ho
        obtain ⟨more, z⟩ := h.tbl a ps q
        rw [z] at e; cases e
      · have z := h.keep a o q ha (fun ps r => ho ⟨ps, r⟩)
        rw [z] at e; cases e
theorem Nxt.trans (h1 : Nxt μ τ H μ' τ' H') (h2 : Nxt μ' τ' H' μ'' τ'' H'') : Nxt μ τ H μ'' τ'' H'' := by
  refine ⟨fun n a e => h2.pre n a (h1.pre n a e), fun a o e hm hn => ?_, fun a ps e => ?_, fun a h => ?_, fun a h => ?_⟩
  · refine h2.keep a o (h1.keep a o e hm hn) (fun z => ?_) hn
    rcases h1.newM a z with z | z
    · exact hm z
    · rw [z] at e; cases e
  · obtain ⟨m1, e1⟩ := h1.tbl a ps e
    obtain ⟨m2, e2⟩ := h2.tbl a _ e1
    exact ⟨m1 ++ m2, by rw [e2, Array.append_assoc]⟩
  · rcases h2.newM a h with z | z
    · exact h1.newM a z
    · exact h1.none_of z
  · rcases h2.newT a h with z | z
    · exact h1.newT a z
    · rcases z with z | z
      · rcases h1.newM a z with z | z
        · exact .inr (.inl z)
        · exact .inr (.inr z)
      · exact .inr (h1.none_of z)
theorem Rd.nxt (h : Nxt μ τ H μ' τ' H') {a : Addr} {u : HO} (hm : a ∉ μ) (r : Rd H a u) (hu : ∀ ps, u ≠ .tbl ps) : Rd H' a u := by
  rcases r with r | ⟨o, r⟩
  · exact .inl (h.keep a _ r hm hu)
  · exact .inr ⟨o, h.keep a _ r hm (fun ps z => by cases z)⟩
theorem Rd_some {H : Hp} {a : Addr} {u : HO} (r : Rd H a u) : H a ≠ none := by
  rcases r with r | ⟨o, r⟩ <;> rw [r] <;> simp
theorem SqT.nxt {K : PySem.W.Frag} (h : Nxt μ τ H μ' τ' H') (hμ : ∀ a ∈ μ, ∃ o, H a = some o ∧ MutO o) {a : Addr} {xs : List V} (r : SqT K H a xs) : SqT K H' a xs := by
  rcases r with r | r
  · refine .inl (Rd.nxt h (fun z => ?_) r (fun ps z => by cases z))
    obtain ⟨o, e, mo⟩ := hμ a z
    rcases r with r | ⟨o', r⟩ <;> rw [r] at e <;> cases e <;> exact mo
  · exact .inr r
theorem TupS.nxt {K : PySem.W.Frag} (h : Nxt μ τ H μ' τ' H') (hμ : ∀ a ∈ μ, ∃ o, H a = some o ∧ MutO o) {a : Addr} {xs : List V} (r : TupS K H a xs) : TupS K H' a xs := by
  rcases r with ⟨o, e, d⟩ | r
  · refine .inl ⟨o, h.keep a _ e (fun z => ?_) (fun ps z => by cases z), d⟩
    obtain ⟨o', e', mo⟩ := hμ a z
    rw [e] at e'; cases e'; exact mo
  · exact .inr r
theorem not_new (h : Nxt μ τ H μ' τ' H') {a : Addr} (e : H a ≠ none) (h1 : a ∉ μ) (h2 : a ∉ τ) : a ∉ μ' ∧ a ∉ τ' :=
  ⟨fun z => (h.newM a z).elim h1 e, fun z => (h.newT a z).elim h2 fun z => z.elim h1 e⟩
mutual
theorem Rep.nxt (h : Nxt μ τ H μ' τ' H') (hμ : ∀ a ∈ μ, ∃ o, H a = some o ∧ MutO o) : ∀ {d : D} {v : V}, Rep G μ τ H d v → Rep G μ' τ' H' d v
  | .non, _, r => r
  | .bl _, _, r => r
  | .int _, _, r => r
  | .str _, _, r => r
  | .tup ds, v, r => by
    obtain ⟨a, vs, e, q, rs⟩ := r
    exact ⟨a, vs, e, TupS.nxt h hμ q, Reps.nxt h hμ rs⟩
  | .lst ds, v, r => by
    obtain ⟨a, vs, e, q, n1, n2, rs⟩ := r
    obtain ⟨n3, n4⟩ := not_new h (by rw [q]; simp) n1 n2
    exact ⟨a, vs, e, h.keep a _ q n1 (fun ps z => by cases z), n3, n4, Reps.nxt h hμ rs⟩
  | .dic ks ds, v, r => by
    obtain ⟨a, vs, e, q, l, n1, n2, rs⟩ := r
    obtain ⟨n3, n4⟩ := not_new h (by rw [q]; simp) n1 n2
    exact ⟨a, vs, e, h.keep a _ q n1 (fun ps z => by cases z), l, n3, n4, Reps.nxt h hμ rs⟩
  | .ref n, v, r => by
    obtain ⟨a, e, q⟩ := r
    exact ⟨a, e, h.pre n a q⟩
  | .fn, v, r => r
  | .scr ns, v, r => by
    obtain ⟨a, e, ⟨q, n1, n2⟩ | q⟩ := r
    · obtain ⟨n3, n4⟩ := not_new h (Rd_some q) n1 n2
      exact ⟨a, e, .inl ⟨Rd.nxt h n1 q (fun ps z => by cases z), n3, n4⟩⟩
    · exact ⟨a, e, .inr q⟩
  | .pr x y, v, r => by
    obtain ⟨a, p, q, e, t, r1, r2⟩ := r
    exact ⟨a, p, q, e, SqT.nxt h hμ t, Rep.nxt h hμ r1, Rep.nxt h hμ r2⟩
theorem Reps.nxt (h : Nxt μ τ H μ' τ' H') (hμ : ∀ a ∈ μ, ∃ o, H a = some o ∧ MutO o) : ∀ {ds : List D} {vs : List V}, Reps G μ τ H ds vs → Reps G μ' τ' H' ds vs
  | [], _, r => r
  | d :: ds, vs, r => by
    obtain ⟨v, r', e, q, rs⟩ := r
    exact ⟨v, r', e, Rep.nxt h hμ q, Reps.nxt h hμ rs⟩
end
theorem Rep.next (h : Nxt μ τ H μ' τ' H') (g : Good G μ τ m H) {d : D} {v : V} (r : Rep G μ τ H d v) : Rep G μ' τ' H' d v := Rep.nxt h (fun _ => g.mut) r
theorem Reps.next (h : Nxt μ τ H μ' τ' H') (g : Good G μ τ m H) {d : List D} {v : List V} (r : Reps G μ τ H d v) : Reps G μ' τ' H' d v := Reps.nxt h (fun _ => g.mut) r

/-! ### rows -/
theorem Reps.length : ∀ {ds : List D} {vs : List V}, Reps G μ τ H ds vs → vs.length = ds.length
  | [], _, r => by cases (show _ = [] from r); rfl
  | d :: ds, vs, r => by
    obtain ⟨v, r', rfl, q, rs⟩ := r
    simp [Reps.length rs]
theorem Reps.get : ∀ {ds : List D} {vs : List V} {i : Nat} {d : D}, Reps G μ τ H ds vs → ds[i]? = some d → ∃ v, vs[i]? = some v ∧ Rep G μ τ H d v
  | d :: ds, _, 0, _, r, e => by
    obtain ⟨v, r', rfl, q, rs⟩ := r
    simp at e; subst e
    exact ⟨v, rfl, q⟩
  | d :: ds, _, i + 1, _, r, e => by
    obtain ⟨v, r', rfl, q, rs⟩ := r
    obtain ⟨w, h1, h2⟩ := Reps.get (i := i) rs (by simpa using e)
    exact ⟨w, by simpa using h1, h2⟩
theorem Reps.getV : ∀ {ds : List D} {vs : List V} {i : Nat} {v : V}, Reps G μ τ H ds vs → vs[i]? = some v → ∃ d, ds[i]? = some d ∧ Rep G μ τ H d v := fun {ds vs i v} r e => by
  have hl := r.length
  have hi := (List.getElem?_eq_some_iff.mp e).1
  have hd : i < ds.length := by omega
  obtain ⟨w, h1, h2⟩ := r.get (i := i) (d := ds[i]) (by simp [hd])
  rw [e] at h1; cases h1
  exact ⟨_, by simp [hd], h2⟩
theorem Reps.cons {d : D} {v : V} {ds : List D} {vs : List V} (q : Rep G μ τ H d v) (r : Reps G μ τ H ds vs) : Reps G μ τ H (d :: ds) (v :: vs) := ⟨v, vs, rfl, q, r⟩
theorem Reps.nil : Reps G μ τ H [] [] := rfl
theorem Reps.append : ∀ {ds es : List D} {vs ws : List V}, Reps G μ τ H ds vs → Reps G μ τ H es ws → Reps G μ τ H (ds ++ es) (vs ++ ws)
  | [], _, _, _, r, s => by cases (show _ = [] from r); exact s
  | d :: ds, es, vs, ws, r, s => by
    obtain ⟨v, r', rfl, q, rs⟩ := r
    exact ⟨v, r' ++ ws, rfl, q, Reps.append rs s⟩
theorem Reps.take : ∀ {ds : List D} {vs : List V} (n : Nat), Reps G μ τ H ds vs → Reps G μ τ H (ds.take n) (vs.take n)
  | _, _, 0, _ => rfl
  | [], _, n + 1, r => by cases (show _ = [] from r); rfl
  | d :: ds, _, n + 1, r => by
    obtain ⟨v, r', rfl, q, rs⟩ := r
    exact ⟨v, r'.take n, rfl, q, Reps.take n rs⟩
theorem Reps.drop : ∀ {ds : List D} {vs : List V} (n : Nat), Reps G μ τ H ds vs → Reps G μ τ H (ds.drop n) (vs.drop n)
  | _, _, 0, r => r
  | [], _, n + 1, r => by cases (show _ = [] from r); rfl
  | d :: ds, _, n + 1, r => by
    obtain ⟨v, r', rfl, q, rs⟩ := r
    exact Reps.drop n rs
theorem Reps.set {d : D} {v : V} (q : Rep G μ τ H d v) : ∀ {ds : List D} {vs : List V} (n : Nat), Reps G μ τ H ds vs → Reps G μ τ H (ds.set n d) (vs.set n v)
  | [], _, _, r => by cases (show _ = [] from r); rfl
  | e :: ds, _, 0, r => by
    obtain ⟨w, r', rfl, p, rs⟩ := r
    exact ⟨v, r', rfl, q, rs⟩
  | e :: ds, _, n + 1, r => by
    obtain ⟨w, r', rfl, p, rs⟩ := r
    exact ⟨w, r'.set n v, rfl, p, Reps.set q n rs⟩
theorem Reps.reverse : ∀ {ds : List D} {vs : List V}, Reps G μ τ H ds vs → Reps G μ τ H ds.reverse vs.reverse
  | [], _, r => by cases (show _ = [] from r); rfl
  | d :: ds, _, r => by
    obtain ⟨v, r', rfl, q, rs⟩ := r
    rw [List.reverse_cons, List.reverse_cons]
    exact (Reps.reverse rs).append (.cons q .nil)

/-! ### the tracked cells change, new ones come -/
theorem Nxt.write {n : Nat} {a : Addr} {o : HO} (g : Good G μ τ m H) (hn : μ[n]? = some a) : Nxt μ τ H μ τ (upd H a o) := by
  have hm : a ∈ μ := List.mem_of_getElem? hn
  refine ⟨fun _ _ h => h, fun b u e hb _ => ?_, fun b ps e => ⟨#[], ?_⟩, fun _ h => .inl h, fun _ h => .inl h⟩
  · rw [upd_ne (fun (z : b = a) => hb (z ▸ hm))]; exact e
  · obtain ⟨u, e', mo⟩ := g.mut hm
    rw [upd_ne (fun z => by subst z; rw [e] at e'; cases e'; exact mo)]
    simpa using e
theorem CellRep.nxt (h : Nxt μ τ H μ' τ' H') (hμ : ∀ a ∈ μ, ∃ o, H a = some o ∧ MutO o) {a : Addr} {c : Cell} (e : H' a = H a) (r : CellRep G μ τ H a c) : CellRep G μ' τ' H' a c := by
  cases c with
  | lst ds => obtain ⟨vs, h1, h2⟩ := r; exact ⟨vs, e.trans h1, h2.nxt h hμ⟩
  | dic ks ds => obtain ⟨vs, h1, h2, h3⟩ := r; exact ⟨vs, e.trans h1, h2, h3.nxt h hμ⟩
  | ins c ns ds => obtain ⟨dx, vs, h1, h2, h3⟩ := r; exact ⟨dx, vs, e.trans h1, h2, h3.nxt h hμ⟩
theorem Good.write {n : Nat} {a : Addr} {o : HO} {c : Cell} (g : Good G μ τ m H) (hn : μ[n]? = some a) (hc : CellRep G μ τ (upd H a o) a c) : Good G μ τ (m.set n c) (upd H a o) := by
  have nx : Nxt μ τ H μ τ (upd H a o) := Nxt.write g hn
  have hm : a ∈ μ := List.mem_of_getElem? hn
  refine ⟨by simpa using g.len, fun k c' b e1 e2 => ?_, g.nodup, fun b hb => ⟨(g.dis b hb).1, ?_⟩, tabs_upd g.tabs fun u e => by
    obtain ⟨u', e', mo⟩ := g.mut hm
    rw [e] at e'; cases e'; exact mo⟩
  · by_cases hk : k = n
    · subst hk
      rw [hn] at e2; cases e2
      have hlt : k < m.length := by rw [← g.len]; exact (List.getElem?_eq_some_iff.mp hn).1
      rw [List.getElem?_set_self hlt] at e1; cases e1
      exact hc
    · rw [List.getElem?_set_ne (fun z => hk z.symm)] at e1
      have hb : b ≠ a := fun z => by
        subst z
        obtain ⟨h1, e1'⟩ := List.getElem?_eq_some_iff.mp e2
        obtain ⟨h2, e2'⟩ := List.getElem?_eq_some_iff.mp hn
        exact hk ((List.getElem_inj g.nodup).mp (e1'.trans e2'.symm))
      exact (g.cell k c' b e1 e2).nxt nx (fun _ => g.mut) (upd_ne hb)
  · rw [upd_ne (fun (z : b = a) => (g.dis b hb).1 (z ▸ hm))]
    exact (g.dis b hb).2
/-- a reserved object is let go -/
theorem Nxt.free {p : Addr} (h : Nxt μ τ H μ' (p :: τ) H') : Nxt μ τ H μ' τ H' := ⟨h.pre, h.keep, h.tbl, h.newM, fun a z => .inl z⟩
theorem Good.free {p : Addr} (g : Good G μ (p :: τ) m H) : Good G μ τ m H := by
  have nx : Nxt μ (p :: τ) H μ τ H := ⟨fun _ _ h => h, fun _ _ h _ _ => h, fun a ps h => ⟨#[], by simpa using h⟩, fun _ h => .inl h, fun _ h => .inl (List.mem_cons_of_mem _ h)⟩
  exact ⟨g.len, fun n c a e1 e2 => (g.cell n c a e1 e2).nxt nx (fun _ => g.mut) rfl, g.nodup, fun a h => g.dis a (List.mem_cons_of_mem _ h), g.tabs⟩
theorem Reps.free {p : Addr} {ds : List D} {vs : List V} (g : Good G μ (p :: τ) m H) (r : Reps G μ (p :: τ) H ds vs) : Reps G μ τ H ds vs :=
  r.nxt (⟨fun _ _ h => h, fun _ _ h _ _ => h, fun a ps h => ⟨#[], by simpa using h⟩, fun _ h => .inl h, fun _ h => .inl (List.mem_cons_of_mem _ h)⟩ : Nxt μ (p :: τ) H μ τ H) (fun _ => g.mut)
/-- a reserved object becomes a tracked cell -/
theorem pre_snoc {p : Addr} {n : Nat} {a : Addr} (h : μ[n]? = some a) : (μ ++ [p])[n]? = some a := by
  rw [List.getElem?_append_left (List.getElem?_eq_some_iff.mp h).1]; exact h
mutual
theorem Rep.track {p : Addr} : ∀ {d : D} {v : V}, Rep G μ (p :: τ) H d v → Rep G (μ ++ [p]) τ H d v
  | .non, _, r => r
  | .bl _, _, r => r
  | .int _, _, r => r
  | .str _, _, r => r
  | .tup ds, v, r => by
    obtain ⟨a, vs, e, q, rs⟩ := r
    exact ⟨a, vs, e, q, Reps.track rs⟩
  | .lst ds, v, r => by
    obtain ⟨a, vs, e, q, n1, n2, rs⟩ := r
    exact ⟨a, vs, e, q, by simp only [List.mem_cons, not_or] at n2; simp only [List.mem_append, List.mem_singleton, not_or]; exact ⟨n1, n2.1⟩, fun z => n2 (List.mem_cons_of_mem _ z), Reps.track rs⟩
  | .dic ks ds, v, r => by
    obtain ⟨a, vs, e, q, l, n1, n2, rs⟩ := r
    exact ⟨a, vs, e, q, l, by simp only [List.mem_cons, not_or] at n2; simp only [List.mem_append, List.mem_singleton, not_or]; exact ⟨n1, n2.1⟩, fun z => n2 (List.mem_cons_of_mem _ z), Reps.track rs⟩
  | .ref n, v, r => by
    obtain ⟨a, e, q⟩ := r
    exact ⟨a, e, pre_snoc q⟩
  | .fn, v, r => r
  | .scr ns, v, r => by
    obtain ⟨a, e, ⟨q, n1, n2⟩ | q⟩ := r
    · exact ⟨a, e, .inl ⟨q, by simp only [List.mem_cons, not_or] at n2; simp only [List.mem_append, List.mem_singleton, not_or]; exact ⟨n1, n2.1⟩, fun z => n2 (List.mem_cons_of_mem _ z)⟩⟩
    · exact ⟨a, e, .inr q⟩
  | .pr x y, v, r => by
    obtain ⟨a, b, q, e, t, r1, r2⟩ := r
    exact ⟨a, b, q, e, t, Rep.track r1, Rep.track r2⟩
theorem Reps.track {p : Addr} : ∀ {ds : List D} {vs : List V}, Reps G μ (p :: τ) H ds vs → Reps G (μ ++ [p]) τ H ds vs
  | [], _, r => r
  | d :: ds, vs, r => by
    obtain ⟨v, r', e, q, rs⟩ := r
    exact ⟨v, r', e, Rep.track q, Reps.track rs⟩
end
theorem CellRep.track {p : Addr} {a : Addr} {c : Cell} (r : CellRep G μ (p :: τ) H a c) : CellRep G (μ ++ [p]) τ H a c := by
  cases c with
  | lst ds => obtain ⟨vs, h1, h2⟩ := r; exact ⟨vs, h1, h2.track⟩
  | dic ks ds => obtain ⟨vs, h1, h2, h3⟩ := r; exact ⟨vs, h1, h2, h3.track⟩
  | ins c ns ds => obtain ⟨dx, vs, h1, h2, h3⟩ := r; exact ⟨dx, vs, h1, h2, h3.track⟩
theorem Nxt.track {p : Addr} (h : Nxt μ τ H μ' (p :: τ) H') (hp : H p = none) : Nxt μ τ H (μ' ++ [p]) τ H' := by
  refine ⟨fun n a e => pre_snoc (h.pre n a e), h.keep, h.tbl, fun a z => ?_, fun a z => .inl z⟩
  rcases List.mem_append.mp z with z | z
  · exact h.newM a z
  · rw [List.mem_singleton] at z
    rw [z]; exact .inr hp
theorem Good.track {p : Addr} {c : Cell} (g : Good G μ (p :: τ) m H) (hc : CellRep G μ (p :: τ) H p c) (hp : p ∉ τ) : Good G (μ ++ [p]) τ (m ++ [c]) H := by
  have hpm : p ∉ μ := (g.dis p List.mem_cons_self).1
  refine ⟨by simp [g.len], fun n c' a e1 e2 => ?_, ?_, fun a ha => ⟨?_, (g.dis a (List.mem_cons_of_mem _ ha)).2⟩, g.tabs⟩
  · by_cases hn : n < m.length
    · rw [List.getElem?_append_left hn] at e1
      rw [List.getElem?_append_left (by rw [g.len]; exact hn)] at e2
      exact (g.cell n c' a e1 e2).track
    · have hn' : n = m.length := by
        have := (List.getElem?_eq_some_iff.mp e1).1
        simp at this; omega
      subst hn'
      rw [List.getElem?_append_right (Nat.le_refl _)] at e1
      rw [List.getElem?_append_right (by rw [g.len]; exact Nat.le_refl _)] at e2
      simp [g.len] at e1 e2
      subst e1; subst e2
      exact hc.track
  · rw [List.nodup_append]
    refine ⟨g.nodup, by simp, fun a ha b hb => ?_⟩
    rw [List.mem_singleton] at hb
    subst hb
    exact fun z => hpm (z ▸ ha)
  · rw [List.mem_append, List.mem_singleton, not_or]
    exact ⟨(g.dis a (List.mem_cons_of_mem _ ha)).1, fun z => hp (z ▸ ha)⟩
/-- a new object is laid: reserved at first -/
theorem Nxt.laid {p : Addr} {o : HO} (hp : H p = none) : Nxt μ τ H μ (p :: τ) (upd H p o) := by
  refine ⟨fun _ _ h => h, fun b u e hb _ => ?_, fun b ps e => ⟨#[], ?_⟩, fun _ h => .inl h, fun a h => ?_⟩
  · rw [upd_ne (ne_of_none e hp)]; exact e
  · rw [upd_ne (ne_of_none e hp)]; simpa using e
  · rcases List.mem_cons.mp h with rfl | h
    · exact .inr (.inr hp)
    · exact .inl h
theorem Good.laid {p : Addr} {o : HO} (g : Good G μ τ m H) (hp : H p = none) : Good G μ (p :: τ) m (upd H p o) := by
  have nx : Nxt μ τ H μ (p :: τ) (upd H p o) := Nxt.laid hp
  have ne : ∀ a ∈ μ, a ≠ p := fun a ha => by
    obtain ⟨u, e, _⟩ := g.mut ha
    exact ne_of_none e hp
  refine ⟨g.len, fun n c a e1 e2 => (g.cell n c a e1 e2).nxt nx (fun _ => g.mut) (upd_ne (ne a (List.mem_of_getElem? e2))), g.nodup, fun a ha => ?_, tabs_laid g.tabs hp⟩
  rcases List.mem_cons.mp ha with rfl | ha
  · exact ⟨fun z => ne a z rfl, by rw [upd_same]; simp⟩
  · refine ⟨(g.dis a ha).1, ?_⟩
    have q := (g.dis a ha).2
    rw [upd_ne (fun (z : a = p) => q (z ▸ hp))]
    exact q
/-- the reserved object is written -/
theorem Nxt.rewrite {p : Addr} {o : HO} {u : HO} (hp : p ∈ τ) (h0 : H p = some u) (hu : ∀ ps, u ≠ .tbl ps) (hq : Nxt μ₀ τ₀ H₀ μ τ H) (hn : H₀ p = none) : Nxt μ₀ τ₀ H₀ μ τ (upd H p o) := by
  refine ⟨hq.pre, fun b w e hb ht => ?_, fun b ps e => ?_, hq.newM, hq.newT⟩
  · rw [upd_ne (ne_of_none e hn)]; exact hq.keep b w e hb ht
  · rw [upd_ne (ne_of_none e hn)]; exact hq.tbl b ps e
end
end EV

/-! A small language: its trees (Ex, St), what they come to (evE, exS, callAt). -/
namespace EV
open PySem PySem.Spec PyProof.Rows L2

/-- an own exception class: its name, the field that its __init__ keeps -/
structure Xc where
  name : Str
  fld : Option Str
/-! ### results -/
inductive R (α : Type) where
  | ok (a : α) (m : Mem) | ex (x : Nat) (p : Option D) (m : Mem) | bad
def R.bind {α β : Type} (r : R α) (k : α → Mem → R β) : R β :=
  match r with
  | .ok a m => k a m
  | .ex x p m => .ex x p m
  | .bad => .bad
@[simp] theorem R.bind_ok {α β : Type} (a : α) (m : Mem) (k : α → Mem → R β) : (R.ok a m).bind k = k a m := rfl
@[simp] theorem R.bind_ex {α β : Type} (x : Nat) (p : Option D) (m : Mem) (k : α → Mem → R β) : (R.ex x p m : R α).bind k = .ex x p m := rfl
@[simp] theorem R.bind_bad {α β : Type} (k : α → Mem → R β) : (R.bad : R α).bind k = .bad := rfl
/-- a value, or none such -/
def R.of {α : Type} (o : Option α) (m : Mem) : R α := match o with
  | some a => .ok a m
  | none => .bad
@[simp] theorem R.of_some {α : Type} (a : α) (m : Mem) : R.of (some a) m = .ok a m := rfl
@[simp] theorem R.of_none {α : Type} (m : Mem) : (R.of (none : Option α) m) = .bad := rfl

/-! ### data -/
/-- the longest row that is let -/
def lim : Nat := 16777216
mutual
def pd : D → PyData
  | .non => .none
  | .bl b => .bool b
  | .int i => .int i
  | .str x => .str x
  | .tup ds => .tuple (pds ds)
  | .lst ds => .list (pds ds)
  | .dic _ _ => .none
  | .ref _ => .none
  | .fn => .none
  | .scr _ => .none
  | .pr _ _ => .none
def pds : List D → List PyData
  | [] => []
  | d :: ds => pd d :: pds ds
end
/-- data alone, nested n deep at most -/
def plain : Nat → D → Bool
  | _, .non => true
  | _, .bl _ => true
  | _, .int _ => true
  | _, .str _ => true
  | n + 1, .tup ds => ds.all (plain n)
  | n + 1, .lst ds => ds.all (plain n)
  | _, _ => false
/-- a list, told by itself or a cell of the memory -/
def lstOf (m : Mem) : D → Option (List D)
  | .lst xs => some xs
  | .ref n => match m[n]? with
    | some (.lst xs) => some xs
    | _ => none
  | _ => none
def seqOf (m : Mem) : D → Option (List D)
  | .tup xs => some xs
  | d => lstOf m d
def dicOf (m : Mem) : D → Option (List Key × List D)
  | .dic ks xs => some (ks, xs)
  | .ref n => match m[n]? with
    | some (.dic ks xs) => some (ks, xs)
    | _ => none
  | _ => none
/-- a cell's list is told by itself -/
def res (m : Mem) (d : D) : D := match d with
  | .ref n => match m[n]? with
    | some (.lst xs) => .lst xs
    | _ => d
  | _ => d
def keyD : D → Option Key
  | .int i => some (.inl i)
  | .str x => some (.inr x)
  | _ => none
def keyOf : Key → D
  | .inl i => .int i
  | .inr x => .str x
/-- what stands under a key -/
def dget : List Key → List D → Key → Option D
  | k :: ks, x :: xs, q => if k = q then some x else dget ks xs q
  | _, _, _ => none
/-- whether a key is there -/
def kin (ks : List Key) (q : Key) : Bool := ks.any fun k => decide (k = q)
/-- a key's value stored -/
def dputK (ks : List Key) (q : Key) : List Key := if kin ks q then ks else ks ++ [q]
def dsetX {α : Type} : List Key → List α → Key → α → List α
  | k :: ks, x :: xs, q, y => (if k = q then y else x) :: dsetX ks xs q y
  | _, xs, _, _ => xs
def dputX {α : Type} (ks : List Key) (xs : List α) (q : Key) (y : α) : List α := if kin ks q then dsetX ks xs q y else xs ++ [y]
def isB : D → Option Bool
  | .bl b => some b
  | _ => none
def isI : D → Option Int
  | .int i => some i
  | _ => none
def isS : D → Option Str
  | .str x => some x
  | _ => none
/-- all of a kind -/
def allOf {α : Type} (f : D → Option α) : List D → Option (List α)
  | [] => some []
  | d :: ds => match f d with
    | some a => match allOf f ds with
      | some r => some (a :: r)
      | none => none
    | none => none

/-! ### operators -/
def mulOk (i j : Int) : Bool := decide ((-(2 ^ 64) < i ∧ i < 2 ^ 64) ∨ (-(2 ^ 64) < j ∧ j < 2 ^ 64))
def addD (d e : D) (m : Mem) : R D := match d, e with
  | .int i, .int j => .ok (.int (i + j)) m
  | .str x, .str y => if x.length + y.length ≤ lim then .ok (.str (x ++ y)) m else .bad
  | .tup xs, .tup ys => if xs.length + ys.length ≤ lim then .ok (.tup (xs ++ ys)) m else .bad
  | d, e => match lstOf m d, lstOf m e with
    | some xs, some ys => if xs.length + ys.length ≤ lim then .ok (.lst (xs ++ ys)) m else .bad
    | _, _ => .bad
def mulD (d e : D) (m : Mem) : R D := match d, e with
  | .int i, .int j => if mulOk i j then .ok (.int (i * j)) m else .bad
  | .tup xs, .int k => if xs.isEmpty = false ∧ -1000 ≤ k ∧ k ≤ 1000 ∧ xs.length ≤ 1000 then .ok (.tup (List.replicate k.toNat xs).flatten) m else .bad
  | d, .int k => match lstOf m d with
    | some xs => if xs.length * k.toNat ≤ lim ∧ -(2 ^ 63) ≤ k ∧ k < 2 ^ 63 then .ok (.lst (List.replicate k.toNat xs).flatten) m else .bad
    | none => .bad
  | _, _ => .bad
def binD (op : Operator) (d e : D) (m : Mem) : R D := match op with
  | .Add => addD d e m
  | .Mult => mulD d e m
  | .Sub => match d, e with
    | .int i, .int j => .ok (.int (i - j)) m
    | _, _ => .bad
  | .FloorDiv => match d, e with
    | .int i, .int j => if j ≠ 0 ∧ j.natAbs < 1073741824 then .ok (.int (i.fdiv j)) m else .bad
    | _, _ => .bad
  | .Mod => match d, e with
    | .int i, .int j => if j ≠ 0 then .ok (.int (i.fmod j)) m else .bad
    | _, _ => .bad
  | .Pow => match d, e with
    | .int i, .int j => if 0 ≤ j ∧ j ≤ 1000000 ∧ i.natAbs < 2 ^ 64 then .ok (.int (i ^ j.toNat)) m else .bad
    | _, _ => .bad
  | _ => .bad
def eqP (m : Mem) (d e : D) : Option Bool :=
  if plain 60 (res m d) && plain 60 (res m e) then some (PyData.eqv (pd (res m d)) (pd (res m e))) else none
/-- whether under each key of ks the other dict has the like -/
def eqKs (m : Mem) (ls : List Key) (ys : List D) : List Key → List D → Option Bool
  | k :: ks, x :: xs => match dget ls ys k with
    | none => some false
    | some y => match eqP m x y, eqKs m ls ys ks xs with
      | some e, some b => some (e && b)
      | _, _ => none
  | _, _ => some true
def eqD (m : Mem) (d e : D) : Option Bool := match dicOf m d, dicOf m e with
  | some p, some q => if p.1.length = q.1.length then eqKs m q.1 q.2 p.1 p.2 else some false
  | _, _ => eqP m d e
def ltD (d e : D) : Option Bool := match d, e with
  | .int i, .int j => some (decide (i < j))
  | .str x, .str y => some (decide (x.cps.toList < y.cps.toList))
  | .tup xs, e => if plain 60 (.tup xs) && plain 60 e && PySem.W.alike (pd (.tup xs)) (pd e) then some (PySem.W.dataLt (pd (.tup xs)) (pd e)) else none
  | _, _ => none
def inD (m : Mem) (d e : D) : Option Bool := match e with
  | .str z => match d with
    | .str x => if x.length = 1 then some (decide (x.cps.getD 0 0 ∈ z.cps.toList)) else none
    | _ => none
  | e => match seqOf m e with
    | some xs => if plain 50 (res m d) && xs.all (plain 50) then some (xs.any fun y => PyData.eqv (pd y) (pd (res m d))) else none
    | none => match dicOf m e with
      | some (ks, _) => match keyD d with
        | some q => some (kin ks q)
        | none => none
      | none => none
def cmpD (op : CmpOp) (d e : D) (m : Mem) : Option Bool := match op with
  | .Eq => eqD m d e
  | .NotEq => (eqD m d e).map (!·)
  | .Lt => ltD d e
  | .Gt => match d, e with
    | .int i, .int j => some (decide (j < i))
    | _, _ => none
  | .LtE => match d, e with
    | .int i, .int j => some (decide (i ≤ j))
    | _, _ => none
  | .GtE => match d, e with
    | .int i, .int j => some (decide (j ≤ i))
    | _, _ => none
  | .Is => match e with
    | .non => some (match d with | .non => true | _ => false)
    | .bl b => match d with
      | .bl c => some (b == c)
      | _ => none
    | _ => none
  | .IsNot => match e with
    | .non => some (match d with | .non => false | _ => true)
    | _ => none
  | .In => inD m d e
  | .NotIn => (inD m d e).map (!·)
/-- d[i] -/
def idxD (d i : D) (m : Mem) : Option D := match d with
  | .str z => match i with
    | .int k => if z.length ≤ lim then (atI z.cps.toList k).map fun c => .str ⟨#[c]⟩ else none
    | _ => none
  | d => match seqOf m d with
    | some xs => match i with
      | .int k => atI xs k
      | _ => none
    | none => match dicOf m d with
      | some p => match keyD i with
        | some q => dget p.1 p.2 q
        | none => none
      | none => none
def cutD {α : Type} (xs : List α) (lo hi : Option Int) : List α := (xs.drop (HT.sIx xs.length 0 lo)).take (HT.sIx xs.length xs.length hi - HT.sIx xs.length 0 lo)
/-- d[lo:hi] -/
def slcD (d : D) (lo hi : Option Int) (m : Mem) : Option D := match d with
  | .scr ns => some (.lst ((cutD ns lo hi).map .int))
  | .str z => if z.length ≤ lim then some (.str (cutS z lo hi)) else none
  | .tup xs => some (.tup (cutD xs lo hi))
  | d => (lstOf m d).map fun xs => .lst (cutD xs lo hi)
/-- d[::-1] -/
def revD (d : D) (m : Mem) : Option D := match d with
  | .str x => if x.length ≤ lim then some (.str ⟨x.cps.toList.reverse.toArray⟩) else none
  | d => (lstOf m d).map fun xs => .lst xs.reverse

/-! ### isinstance -/
inductive Ty where | int | bool | str | tuple | list | dict
deriving DecidableEq
def tyOf (m : Mem) : D → Option Ty
  | .bl _ => some .bool
  | .int _ => some .int
  | .str _ => some .str
  | .tup _ => some .tuple
  | .lst _ => some .list
  | .dic _ _ => some .dict
  | .ref n => match m[n]? with
    | some (.lst _) => some .list
    | some (.dic _ _) => some .dict
    | _ => none
  | _ => none
def isTy (t : Option Ty) (c : Ty) : Bool := match t, c with
  | some .bool, .int => true
  | some t, c => decide (t = c)
  | none, _ => false
/-- isinstance(d, ts) -/
def isiD (m : Mem) (d : D) (ts : List Ty) : Option Bool := match d with
  | .pr _ _ => none
  | .fn => none
  | .scr _ => none
  | .ref n => match m[n]? with
    | some (.ins _ _ _) => none
    | none => none
    | _ => some (ts.any (isTy (tyOf m d)))
  | d => some (ts.any (isTy (tyOf m d)))

/-! ### built-in functions and methods -/
inductive Bi where
  | len | all | any | sum | abs | int | str | repr | sorted | tuple | list | min | max | ord | sortedItems | dict
deriving DecidableEq
inductive Bm where
  | append | extend | pop | popAt | join | get2 | get1
deriving DecidableEq
def alikes (xs : List D) : Bool := xs.all fun x => xs.all fun y => PySem.W.alike (pd x) (pd y)
/-- what can be sorted -/
def canSort (xs : List D) : Bool := xs.all (plain 50) && alikes xs &&
  (xs.all (fun x => match x with | .tup (_ :: _) => true | _ => false) || xs.all fun x => match x with | .int _ => true | .str _ => true | _ => false)
def insD (le : D → D → Bool) (a : D) : List D → List D
  | [] => [a]
  | b :: r => if le a b then a :: b :: r else b :: insD le a r
/-- a stable sort that the kernel can run -/
def isrt (le : D → D → Bool) : List D → List D
  | [] => []
  | a :: r => insD le a (isrt le r)
theorem insD_eq {le : D → D → Bool} {a : D} : ∀ {l₁ l₂ : List D}, (∀ b ∈ l₁, (!le a b) = true) → (∀ b ∈ l₂, le a b = true) → insD le a (l₁ ++ l₂) = l₁ ++ a :: l₂
  | [], [], _, _ => rfl
  | [], b :: r, _, h => by
    show insD le a (b :: r) = _
    unfold insD
    rw [if_pos (h b List.mem_cons_self)]; rfl
  | b :: l, l₂, h, h2 => by
    show insD le a (b :: (l ++ l₂)) = _
    unfold insD
    have h1 := h b List.mem_cons_self
    rw [Bool.not_eq_true'] at h1
    rw [if_neg (by rw [h1]; decide), insD_eq (fun c hc => h c (List.mem_cons_of_mem _ hc)) h2]; rfl
theorem isrt_eq {le : D → D → Bool} (T : PySem.W.TotalLe le) : ∀ xs : List D, isrt le xs = xs.mergeSort le
  | [] => by simp [isrt]
  | a :: r => by
    have t1 : ∀ a b : D, (le a b || le b a) = true := fun a b => by rw [Bool.or_eq_true]; exact T.total a b
    obtain ⟨l₁, l₂, e1, e2, e3⟩ := List.mergeSort_cons T.trans t1 a r
    unfold isrt
    rw [isrt_eq T r, e2, e1]
    refine insD_eq e3 fun b hb => ?_
    have := List.pairwise_mergeSort T.trans t1 (a :: r)
    rw [e1] at this
    exact (List.pairwise_cons.mp (List.pairwise_append.mp this).2.1).1 b hb
theorem dataLe_total (k : D → PyData) : PySem.W.TotalLe (PySem.W.dataLe false k) := PySem.W.sortLe_total _ _ _
def srt (xs : List D) : List D := isrt (PySem.W.dataLe false pd) xs
theorem srt_eq (xs : List D) : srt xs = xs.mergeSort fun a b => PySem.W.dataLe false pd a b := isrt_eq (dataLe_total _) xs
def sortD (xs : List D) : Option D := if canSort xs then some (.lst (srt xs)) else none
def rotI (i : Int) : Option D := if i.natAbs.log2 < 1920 then some (.str (toString i)) else none
def pairsOf (ks : List Key) (xs : List D) : List D := (ks.zip xs).map fun p => .tup [keyOf p.1, p.2]
def foldMax : Int → List Int → Int
  | a, [] => a
  | a, b :: r => foldMax (if b > a then b else a) r
def foldMin : Int → List Int → Int
  | a, [] => a
  | a, b :: r => foldMin (if b < a then b else a) r
def extD (isMax : Bool) (xs : List D) : Option D := match allOf isI xs with
  | some (a :: r) => some (.int (if isMax then foldMax a r else foldMin a r))
  | _ => none
def lenD (as : List D) (m : Mem) : R D := match as with
  | [.str x] => if x.length ≤ lim then .ok (.int x.length) m else .bad
  | [.scr ns] => .ok (.int ns.length) m
  | [d] => match seqOf m d with
    | some xs => .ok (.int xs.length) m
    | none => match dicOf m d with
      | some p => .ok (.int p.1.length) m
      | none => .bad
  | _ => .bad
def allD (as : List D) (m : Mem) : R D := match as with
  | [d] => match (lstOf m d).bind (allOf isB) with
    | some bs => .ok (.bl (bs.all id)) m
    | none => .bad
  | _ => .bad
def anyD (as : List D) (m : Mem) : R D := match as with
  | [d] => match (lstOf m d).bind (allOf isB) with
    | some bs => .ok (.bl (bs.any id)) m
    | none => .bad
  | _ => .bad
def sumD (as : List D) (m : Mem) : R D := match as with
  | [d] => match (lstOf m d).bind (allOf isI) with
    | some ns => .ok (.int ns.sum) m
    | none => .bad
  | _ => .bad
def absD (as : List D) (m : Mem) : R D := match as with
  | [.int i] => .ok (.int (if i < 0 then -i else i)) m
  | _ => .bad
def intD (as : List D) (m : Mem) : R D := match as with
  | [.int i] => .ok (.int i) m
  | [.bl b] => .ok (.int (if b then 1 else 0)) m
  | _ => .bad
def strD (as : List D) (m : Mem) : R D := match as with
  | [.int i] => R.of (rotI i) m
  | [.str x] => .ok (.str x) m
  | _ => .bad
def reprD (as : List D) (m : Mem) : R D := match as with
  | [.int i] => R.of (rotI i) m
  | [.bl b] => .ok (.str (if b then "True" else "False")) m
  | [.non] => .ok (.str "None") m
  | [.str x] => if (reprText x).length ≤ lim ∧ sOk (reprText x) = true then .ok (.str (reprText x)) m else .bad
  | _ => .bad
/-- the keys of a dict, all texts or all whole numbers -/
def keyS : List Key → Option (List Str)
  | [] => some []
  | .inr x :: r => match keyS r with
    | some l => if sOk x then some (x :: l) else none
    | none => none
  | .inl _ :: _ => none
def keyI : List Key → Option (List Int)
  | [] => some []
  | .inl i :: r => match keyI r with
    | some l => some (i :: l)
    | none => none
  | .inr _ :: _ => none
def sortKeysD (ks : List Key) (m : Mem) : R D := match keyS ks with
  | some l => if l.length < 64 then .ok (.lst (srt (l.map .str))) m else .bad
  | none => match keyI ks with
    | some l => if l.length < 64 then .ok (.lst (srt (l.map .int))) m else .bad
    | none => .bad
def sortedD (as : List D) (m : Mem) : R D := match as with
  | [d] => match seqOf m d with
    | some xs => R.of (sortD xs) m
    | none => match dicOf m d with
      | some p => sortKeysD p.1 m
      | none => .bad
  | _ => .bad
/-- keys are sound, values whole numbers -/
def itmOk (ks : List Key) (xs : List D) : Bool := (ks.all fun q => match q with | .inl _ => true | .inr x => sOk x) && xs.all fun d => match d with | .int _ => true | _ => false
def sortedItemsD (as : List D) (m : Mem) : R D := match as with
  | [d] => match dicOf m d with
    | some p => if itmOk p.1 p.2 then R.of (sortD (pairsOf p.1 p.2)) m else .bad
    | none => .bad
  | _ => .bad
def tupleD (as : List D) (m : Mem) : R D := match as with
  | [.str x] => if x.length ≤ lim then .ok (.tup (x.cps.toList.map fun c => .str ⟨#[c]⟩)) m else .bad
  | [d] => match seqOf m d with
    | some xs => .ok (.tup xs) m
    | none => .bad
  | _ => .bad
def okKey : Key → Bool
  | .inl _ => true
  | .inr x => sOk x
def listD (as : List D) (m : Mem) : R D := match as with
  | [d] => match seqOf m d with
    | some xs => .ok (.lst xs) m
    | none => match dicOf m d with
      | some p => if p.1.all okKey then .ok (.lst (p.1.map keyOf)) m else .bad
      | none => .bad
  | _ => .bad
def maxD (as : List D) (m : Mem) : R D := match as with
  | [.int i, .int j] => .ok (.int (if j > i then j else i)) m
  | [d] => match (seqOf m d).bind (extD true) with
    | some r => .ok r m
    | none => .bad
  | _ => .bad
def minD (as : List D) (m : Mem) : R D := match as with
  | [.int i, .int j] => .ok (.int (if j < i then j else i)) m
  | [d] => match (seqOf m d).bind (extD false) with
    | some r => .ok r m
    | none => .bad
  | _ => .bad
def ordD (as : List D) (m : Mem) : R D := match as with
  | [.str x] => if x.length = 1 then .ok (.int (x.cps.getD 0 0 : Nat)) m else .bad
  | _ => .bad
def dspD : List D → List D → List Key → List D → Option D
  | k :: ks, v :: vs, qs, xs => match keyD k with
    | some q => dspD ks vs (dputK qs q) (dputX qs xs q v)
    | none => none
  | [], [], qs, xs => some (.dic qs xs)
  | _, _, _, _ => none
/-- pairs, parted -/
def splitP : List D → Option (List D × List D)
  | [] => some ([], [])
  | .tup [k, v] :: r => match splitP r with
    | some p => some (k :: p.1, v :: p.2)
    | none => none
  | _ :: _ => none
def dictD (as : List D) (m : Mem) : R D := match as with
  | [d] => match seqOf m d with
    | some xs => match splitP xs with
      | some p => R.of (dspD p.1 p.2 [] []) m
      | none => .bad
    | none => match dicOf m d with
      | some p => .ok (.dic p.1 p.2) m
      | none => .bad
  | _ => .bad
/-- zip of two tuples or of two lists -/
def zipS (m : Mem) (d e : D) : Option (List (D × D)) := match d, e with
  | .tup xs, .tup ys => some (xs.zip ys)
  | d, e => match lstOf m d, lstOf m e with
    | some xs, some ys => some (xs.zip ys)
    | _, _ => none
def zpvD (k : Nat) (zs : List (D × D)) (m : Mem) : R D := match k with
  | 0 => .ok (.tup (zs.map fun p => .tup [p.1, p.2])) m
  | 1 => .ok (.lst (zs.map fun p => .tup [p.1, p.2])) m
  | _ => R.of (dspD (zs.map (·.1)) (zs.map (·.2)) [] []) m
/-- tuple(zip(d, e)), list(zip(d, e)), dict(zip(d, e)) -/
def zpvA (k : Nat) (as : List D) (m : Mem) : R D := match as with
  | [d, e] => match zipS m d e with
    | some zs => zpvD k zs m
    | none => .bad
  | _ => .bad
def biD (b : Bi) (as : List D) (m : Mem) : R D := match b with
  | .len => lenD as m
  | .all => allD as m
  | .any => anyD as m
  | .sum => sumD as m
  | .abs => absD as m
  | .int => intD as m
  | .str => strD as m
  | .repr => reprD as m
  | .sorted => sortedD as m
  | .sortedItems => sortedItemsD as m
  | .tuple => tupleD as m
  | .list => listD as m
  | .max => maxD as m
  | .min => minD as m
  | .ord => ordD as m
  | .dict => dictD as m
def appendD (d : D) (as : List D) (m : Mem) : R D := match d, as with
  | .ref n, [y] => match m[n]? with
    | some (.lst xs) => if xs.length < lim then .ok .non (m.set n (.lst (xs ++ [y]))) else .bad
    | _ => .bad
  | _, _ => .bad
def extendD (d : D) (as : List D) (m : Mem) : R D := match d, as with
  | .ref n, [e] => match m[n]? with
    | some (.lst xs) => match lstOf m e with
      | some ys => if xs.length + ys.length ≤ lim then .ok .non (m.set n (.lst (xs ++ ys))) else .bad
      | none => .bad
    | _ => .bad
  | _, _ => .bad
def joinD (d : D) (as : List D) (m : Mem) : R D := match d, as with
  | .str sep, [e] => match (lstOf m e).bind (allOf isS) with
    | some ys => if (ys.map (·.length)).sum + sep.length * ys.length ≤ lim then .ok (.str (Txt.join sep ys)) m else .bad
    | none => .bad
  | _, _ => .bad
/-- of what the method is -/
def tyM (b : Bm) (d : D) (m : Mem) : Bool := match b with
  | .join => match d with
    | .str _ => true
    | _ => false
  | _ => match d with
    | .ref n => match m[n]? with
      | some (.lst _) => true
      | _ => false
    | _ => false
def bmD (b : Bm) (d : D) (as : List D) (m : Mem) : R D := match b with
  | .append => appendD d as m
  | .extend => extendD d as m
  | .join => joinD d as m
  | _ => .bad
/-- o[i] = v -/
def setD (d i v : D) (m : Mem) : Option Mem := match d with
  | .ref n => match m[n]? with
    | some (.lst xs) => match i with
      | .int k => (ixN xs.length k).map fun j => m.set n (.lst (xs.set j v))
      | _ => none
    | some (.dic ks xs) => match keyD i with
      | some q => if ks.length < lim then some (m.set n (.dic (dputK ks q) (dputX ks xs q v))) else none
      | none => none
    | _ => none
  | _ => none
/-- o.f -/
def fget : List Str → List D → Str → Option D
  | k :: ks, x :: xs, q => if k = q then some x else fget ks xs q
  | _, _, _ => none
def fldD (cs : List Nat) (d : D) (f : Str) (m : Mem) : Option D := match d with
  | .ref n => match m[n]? with
    | some (.ins c ns xs) => if cs.contains c then fget ns xs f else none
    | _ => none
  | _ => none
/-- an instance of a class, without an own attribute of the name -/
def isIns (c : Nat) (x : Str) (d : D) (m : Mem) : Bool := match d with
  | .ref n => match m[n]? with
    | some (.ins c' ns _) => decide (c' = c) && !ns.contains x
    | _ => false
  | _ => false

/-- a.pop() -/
def popD (d : D) (m : Mem) : R D := match d with
  | .ref n => match m[n]? with
    | some (.lst xs) => match xs[xs.length - 1]? with
      | some y => .ok y (m.set n (.lst xs.dropLast))
      | none => .bad
    | _ => .bad
  | _ => .bad
/-- d.get(k, x) -/
def dgetD (d k x : D) (m : Mem) : R D := match dicOf m d with
  | some (ks, xs) => match keyD k with
    | some q => .ok ((dget ks xs q).getD x) m
    | none => .bad
  | none => .bad
def delK : List Key → Key → List Key
  | [], _ => []
  | k :: ks, q => if k = q then delK ks q else k :: delK ks q
def delX {α : Type} : List Key → List α → Key → List α
  | k :: ks, x :: xs, q => if k = q then delX ks xs q else x :: delX ks xs q
  | _, _, _ => []
/-- d.pop(k) -/
def dpopD (d k : D) (m : Mem) : R D := match d with
  | .ref n => match m[n]? with
    | some (.dic ks xs) => match keyD k with
      | some q => match dget ks xs q with
        | some y => .ok y (m.set n (.dic (delK ks q) (delX ks xs q)))
        | none => .bad
      | none => .bad
    | _ => .bad
  | _ => .bad
def isDic (d : D) (m : Mem) : Bool := (dicOf m d).isSome

/-! ### the trees -/
mutual
inductive Ex where
  | var (i : Nat) | lit (c : Const) | glo (x : Str) (d : D)
  | bin (op : Operator) (a b : Ex) | neg (a : Ex) | not (a : Ex)
  | cmp (op : CmpOp) (a b : Ex) | cmp2 (o1 o2 : CmpOp) (a b c : Ex)
  | and (a b : Ex) | or (a b : Ex) | ife (c a b : Ex)
  | tup (es : Exs) | lst (es : Exs) | dsp (ks : Kvs)
  | lcp (own : List (Str × Nat)) (t : Tg) (it : It) (c : Cd) (e : Ex)
  | idx (a b : Ex) | slc (a : Ex) (lo hi : Op) | rev (a : Ex)
  | fld (a : Ex) (f : Str) (cs : List Nat)
  | call (f : Nat) (es : Exs) | cal0 | mk (f : Nat) (c : Nat) (es : Exs) | mth (f : Nat) (c : Nat) (x : Str) (a : Ex) (es : Exs)
  | bi (b : Bi) (es : Exs) | itm (a : Ex) | bm (b : Bm) (a : Ex) (es : Exs)
  | isi (a : Ex) (ts : List Ty)
  | alc (a : Ex)
  | lamc (f : Nat) (e : Ex) | srk (a : Ex) | inl (neg : Bool) (a : Ex) (x : Str) (ds : List D)
  | pop (a : Ex) | dget (a k x : Ex) | dpop (a k : Ex)
  | dcp (own : List (Str × Nat)) (t : Tg) (it : It) (c : Cd) (k v : Ex)
  | zpv (k : Nat) (es : Exs)
inductive Exs where
  | nil | cons (e : Ex) (es : Exs)
inductive Kvs where
  | nil | cons (k v : Ex) (r : Kvs)
inductive Op where
  | no | yes (e : Ex)
inductive Cd where
  | no | yes (e : Ex)
inductive It where
  | ex (e : Ex) | rng1 (a : Ex) | rng2 (a b : Ex) | zip (a b : Ex) | enm (a : Ex)
inductive Tg where
  | nm (i : Nat) | tp (ts : Tgs)
inductive Tgs where
  | nil | cons (t : Tg) (ts : Tgs)
end
abbrev Rho := List (Option D)
/-- what a call of a def with a lambda comes to; whether there is room for a raise -/
structure Lo where
  give : Nat → Ex → Rho → Mem → R D
  exc : Bool
  ctor : Option (Nat → List D → Mem → R D)
def wipeR (ρ : Rho) : List Nat → Rho
  | [] => ρ
  | v :: vs => (wipeR ρ vs).set v none
/-- the turns of a loop over a value -/
def itsD (m : Mem) : D → Option (List D)
  | .str x => some (x.cps.toList.map fun c => .str ⟨#[c]⟩)
  | d => seqOf m d
def rngD (lo hi : Int) : Option (List D) :=
  if -(2 ^ 62) ≤ lo ∧ lo < 2 ^ 62 ∧ -(2 ^ 62) ≤ hi ∧ hi < 2 ^ 62 then some ((List.range (hi - lo).toNat).map fun (i : Nat) => D.int (lo + (i : Int))) else none
mutual
/-- a target's names get a value -/
def tgD : Tg → D → Rho → Option Rho
  | .nm i, d, ρ => if i < ρ.length then some (ρ.set i (some d)) else none
  | .tp ts, d, ρ => match d with
    | .tup xs => tgsD ts xs ρ
    | .pr x y => tgsD ts [x, y] ρ
    | _ => none
def tgsD : Tgs → List D → Rho → Option Rho
  | .nil, [], ρ => some ρ
  | .cons t ts, x :: xs, ρ => match tgD t x ρ with
    | some ρ' => tgsD ts xs ρ'
    | none => none
  | _, _, _ => none
end
def zipD (d e : D) : Option (List D) := match d, e with
  | .tup xs, .tup ys => some ((xs.zip ys).map fun p => .pr p.1 p.2)
  | .lst xs, .lst ys => some ((xs.zip ys).map fun p => .pr p.1 p.2)
  | _, _ => none
def enmL (xs : List D) : List D := (xs.zipIdx).map fun p => .pr (.int p.2) p.1
def enmQ (m : Mem) (d : D) : Option (List D × Option (Nat × List D)) := match d with
  | .lst xs => some (enmL xs, none)
  | .tup xs => some (enmL xs, none)
  | .ref n => match m[n]? with
    | some (.lst xs) => some (enmL xs, some (n, xs))
    | _ => none
  | _ => none
/-- a walked cell stays as it is -/
def ckD (q : Option (Nat × List D)) (m : Mem) : Bool := match q with
  | none => true
  | some (n, xs) => decide (m[n]? = some (.lst xs))
/-- a comprehension's turns -/
def lcpL (q : Option (Nat × List D)) (tg : D → Rho → Option Rho) (cd : Rho → Mem → R Bool) (el : Rho → Mem → R D) (ρ : Rho) : List D → List D → Mem → R D
  | [], acc, m => if ckD q m then .ok (.lst acc) m else .bad
  | d :: ds, acc, m => if ckD q m then match tg d ρ with
    | none => .bad
    | some ρ' => (cd ρ' m).bind fun b m1 => if b then (el ρ' m1).bind fun y m2 => lcpL q tg cd el ρ ds (acc ++ [y]) m2 else lcpL q tg cd el ρ ds acc m1
    else .bad
/-- the loop of a dict comprehension -/
def dcpL (q : Option (Nat × List D)) (tg : D → Rho → Option Rho) (cd : Rho → Mem → R Bool) (ek ev : Rho → Mem → R D) (ρ : Rho) : List D → List Key → List D → Mem → R D
  | [], ks, xs, m => if ckD q m then .ok (.dic ks xs) m else .bad
  | d :: ds, ks, xs, m => if ckD q m then match tg d ρ with
    | none => .bad
    | some ρ' => (cd ρ' m).bind fun b m1 => if b then (ek ρ' m1).bind fun y m2 => (ev ρ' m2).bind fun z m3 => match keyD y with
        | some k => dcpL q tg cd ek ev ρ ds (dputK ks k) (dputX ks xs k z) m3
        | none => .bad
      else dcpL q tg cd ek ev ρ ds ks xs m1
    else .bad
/-- a truth value -/
def tst (r : R D) : R Bool := r.bind fun d m => match d with
  | .bl b => .ok b m
  | _ => .bad
@[simp] theorem tst_ok (b : Bool) (m : Mem) : tst (.ok (.bl b) m) = .ok b m := rfl
@[simp] theorem tst_ex (x : Nat) (p : Option D) (m : Mem) : tst (.ex x p m) = .ex x p m := rfl
@[simp] theorem tst_bad : tst .bad = .bad := rfl
def bothD {α : Type} (r : R D) (k : Bool → Mem → R α) : R α := (tst r).bind k
@[simp] theorem bothD_ok {α : Type} (b : Bool) (m : Mem) (k : Bool → Mem → R α) : bothD (.ok (.bl b) m) k = k b m := rfl
/-- a new cell -/
def alcD (d : D) (m : Mem) : R D := match d with
  | .lst xs => .ok (.ref m.length) (m ++ [.lst xs])
  | .dic ks xs => .ok (.ref m.length) (m ++ [.dic ks xs])
  | _ => .bad
def optI (d : D) : Option (Option Int) := match d with
  | .int i => some (some i)
  | _ => none
/-- an exception does not leave a comprehension -/
def calmR {α : Type} (r : R α) : R α := match r with
  | .ok a m => .ok a m
  | _ => .bad
def litD : Const → Option D
  | .none => some .non
  | .bool b => some (.bl b)
  | .int i => some (.int i)
  | .str x => if sOk x then some (.str x) else none
  | _ => none
/-- sorted(xs, key=lambda one: (len(one[2]), one)) -/
def hasK : D → Bool
  | .tup (_ :: _ :: .tup zs :: _) => decide (zs.length ≤ lim)
  | _ => false
def keyd : D → D
  | .tup (x :: y :: .tup zs :: r) => .tup [.int zs.length, .tup (x :: y :: .tup zs :: r)]
  | d => d
mutual
/-- no list stands in it -/
def noL : D → Bool
  | .tup ds => noLs ds
  | .lst _ => false
  | _ => true
def noLs : List D → Bool
  | [] => true
  | d :: ds => noL d && noLs ds
end
def srkD (d : D) (m : Mem) : R D := match lstOf m d with
  | some xs => if (xs.all fun x => plain 48 x && noL x && hasK x) && canSort (xs.map keyd) then .ok (.lst (isrt (PySem.W.dataLe false fun x => pd (keyd x)) xs)) m else .bad
  | none => .bad
section
variable (C : Nat → List D → Mem → R D) (o : Lo)
mutual
def evE : Ex → Rho → Mem → R D
  | .var i, ρ, m => match ρ[i]? with
    | some (some d) => .ok d m
    | _ => .bad
  | .lit c, _, m => R.of (litD c) m
  | .glo _ d, _, m => .ok d m
  | .bin op a b, ρ, m => (evE a ρ m).bind fun d m1 => (evE b ρ m1).bind fun e m2 => binD op d e m2
  | .neg a, ρ, m => (evE a ρ m).bind fun d m1 => match d with
    | .int i => .ok (.int (-i)) m1
    | _ => .bad
  | .not a, ρ, m => bothD (evE a ρ m) fun b m1 => .ok (.bl (!b)) m1
  | .cmp op a b, ρ, m => (evE a ρ m).bind fun d m1 => (evE b ρ m1).bind fun e m2 => R.of ((cmpD op d e m2).map .bl) m2
  | .cmp2 o1 o2 a b c, ρ, m => (evE a ρ m).bind fun d m1 => (evE b ρ m1).bind fun e m2 => bothD (R.of ((cmpD o1 d e m2).map .bl) m2) fun k m3 =>
      if k then (evE c ρ m3).bind fun f m4 => R.of ((cmpD o2 e f m4).map .bl) m4 else .ok (.bl false) m3
  | .and a b, ρ, m => bothD (evE a ρ m) fun k m1 => if k then evE b ρ m1 else .ok (.bl false) m1
  | .or a b, ρ, m => bothD (evE a ρ m) fun k m1 => if k then .ok (.bl true) m1 else evE b ρ m1
  | .ife c a b, ρ, m => bothD (evE c ρ m) fun k m1 => if k then evE a ρ m1 else evE b ρ m1
  | .tup es, ρ, m => (evEs es ρ m).bind fun ds m1 => .ok (.tup ds) m1
  | .lst es, ρ, m => (evEs es ρ m).bind fun ds m1 => .ok (.lst ds) m1
  | .dsp ks, ρ, m => (calmR (evKV ks ρ m)).bind fun p m1 => R.of (dspD p.1 p.2 [] []) m1
  | .lcp own t it c e, ρ, m => (evI it ρ m).bind fun xs m1 => if lim < xs.1.length then .bad else lcpL xs.2 (tgD t) (fun ρ' m => calmR (evC c ρ' m)) (fun ρ' m => calmR (evE e ρ' m)) (wipeR ρ (own.map (·.2))) xs.1 [] m1
  | .idx a b, ρ, m => (evE a ρ m).bind fun d m1 => (evE b ρ m1).bind fun e m2 => R.of (idxD d e m2) m2
  | .slc a lo hi, ρ, m => (evE a ρ m).bind fun d m1 => (evO lo ρ m1).bind fun l m2 => (evO hi ρ m2).bind fun h m3 => R.of (slcD d l h m3) m3
  | .rev a, ρ, m => (evE a ρ m).bind fun d m1 => R.of (revD d m1) m1
  | .fld a f cs, ρ, m => (evE a ρ m).bind fun d m1 => R.of (fldD cs d f m1) m1
  | .mk f c es, ρ, m => match o.ctor with
    | none => .bad
    | some K => (evEs es ρ m).bind fun ds m1 => (calmR (K f (.ref m1.length :: ds) (m1 ++ [.ins c [] []]))).bind fun d m2 => match d with
      | .non => .ok (.ref m1.length) m2
      | _ => .bad
  | .mth f c x a es, ρ, m => (evE a ρ m).bind fun d m1 => if isIns c x d m1 then (evEs es ρ m1).bind fun ds m2 => C f (d :: ds) m2 else .bad
  | .call f es, ρ, m => (evEs es ρ m).bind fun ds m1 => C f ds m1
  | .cal0, _, m => .bad
  | .bi b es, ρ, m => (evEs es ρ m).bind fun ds m1 => biD b ds m1
  | .zpv k es, ρ, m => (evEs es ρ m).bind fun ds m1 => zpvA k ds m1
  | .itm a, ρ, m => (evE a ρ m).bind fun d m1 => sortedItemsD [d] m1
  | .bm b a es, ρ, m => (evE a ρ m).bind fun d m1 => if tyM b d m1 then (evEs es ρ m1).bind fun ds m2 => bmD b d ds m2 else .bad
  | .isi a ts, ρ, m => (evE a ρ m).bind fun d m1 => R.of ((isiD m1 d ts).map .bl) m1
  | .alc a, ρ, m => (evE a ρ m).bind alcD
  | .lamc f e, ρ, m => o.give f e ρ m
  | .srk a, ρ, m => (evE a ρ m).bind fun d m1 => srkD d m1
  | .pop a, ρ, m => (evE a ρ m).bind popD
  | .dcp own t it c k v, ρ, m => (evI it ρ m).bind fun xs m1 => if lim < xs.1.length then .bad else dcpL xs.2 (tgD t) (fun ρ' m => calmR (evC c ρ' m)) (fun ρ' m => calmR (evE k ρ' m)) (fun ρ' m => calmR (evE v ρ' m)) (wipeR ρ (own.map (·.2))) xs.1 [] [] m1
  | .dget a k x, ρ, m => (evE a ρ m).bind fun d m1 => if isDic d m1 then (evE k ρ m1).bind fun q m2 => (evE x ρ m2).bind fun y m3 => dgetD d q y m3 else .bad
  | .dpop a k, ρ, m => (evE a ρ m).bind fun d m1 => if isDic d m1 then (evE k ρ m1).bind fun q m2 => dpopD d q m2 else .bad
  | .inl neg a _ ds, ρ, m => (evE a ρ m).bind fun d m1 => R.of (((inD m1 d (.tup ds)).map fun b => if neg then !b else b).map .bl) m1
def evEs : Exs → Rho → Mem → R (List D)
  | .nil, _, m => .ok [] m
  | .cons e es, ρ, m => (evE e ρ m).bind fun d m1 => (evEs es ρ m1).bind fun ds m2 => .ok (d :: ds) m2
def evKV : Kvs → Rho → Mem → R (List D × List D)
  | .nil, _, m => .ok ([], []) m
  | .cons k v r, ρ, m => (evE k ρ m).bind fun d m1 => (evE v ρ m1).bind fun e m2 => (evKV r ρ m2).bind fun p m3 => .ok (d :: p.1, e :: p.2) m3
def evO : Op → Rho → Mem → R (Option Int)
  | .no, _, m => .ok none m
  | .yes e, ρ, m => (evE e ρ m).bind fun d m1 => R.of (optI d) m1
def evC : Cd → Rho → Mem → R Bool
  | .no, _, m => .ok true m
  | .yes e, ρ, m => tst (evE e ρ m)
def evI : It → Rho → Mem → R (List D × Option (Nat × List D))
  | .ex e, ρ, m => (evE e ρ m).bind fun d m1 => match d with
    | .ref n => match m1[n]? with
      | some (.lst xs) => .ok (xs, some (n, xs)) m1
      | _ => .bad
    | d => R.of ((itsD m1 d).map fun xs => (xs, none)) m1
  | .rng1 a, ρ, m => (evE a ρ m).bind fun d m1 => match d with
    | .int i => R.of ((rngD 0 i).map fun xs => (xs, none)) m1
    | _ => .bad
  | .rng2 a b, ρ, m => (evE a ρ m).bind fun d m1 => (evE b ρ m1).bind fun e m2 => match d, e with
    | .int i, .int j => R.of ((rngD i j).map fun xs => (xs, none)) m2
    | _, _ => .bad
  | .zip a b, ρ, m => (evE a ρ m).bind fun d m1 => (evE b ρ m1).bind fun e m2 => R.of ((zipD d e).map fun xs => (xs, none)) m2
  | .enm a, ρ, m => (evE a ρ m).bind fun d m1 => R.of (enmQ m1 d) m1
end
end

/-! ### statements -/
mutual
inductive St where
  | asg (t : Tg) (e : Ex) | par (is : List Nat) (es : Exs)
  | seti (a i e : Ex) | setf (a : Ex) (f : Str) (cs : List Nat) (e : Ex)
  | aug (i : Nat) (op : Operator) (e : Ex) | augf (a : Ex) (f : Str) (cs : List Nat) (e : Ex)
  | expr (e : Ex) | ret (e : Ex) | retn | ifs (c : Ex) (a b : Ss)
  | fors (t : Tg) (it : It) (b : Ss) | whl (c : Ex) (b : Ss)
  | brk | cnt | pas | nev | rai (x : Nat) (es : Exs) | sasg (a i : Ex) (j : Nat) (es : Exs)
inductive Ss where
  | nil | cons (s : St) (r : Ss)
end
inductive O where
  | nx (ρ : Rho) (m : Mem) | rt (d : D) (m : Mem) | bk (ρ : Rho) (m : Mem) | ct (ρ : Rho) (m : Mem)
  | ex (x : Nat) (p : Option D) (ρ : Rho) (m : Mem) | bad
/-- an expression's result, then a statement's -/
def R.go {α : Type} (r : R α) (ρ : Rho) (k : α → Mem → O) : O := match r with
  | .ok a m => k a m
  | .ex x p m => .ex x p ρ m
  | .bad => .bad
@[simp] theorem R.go_ok {α : Type} (a : α) (m : Mem) (ρ : Rho) (k : α → Mem → O) : (R.ok a m).go ρ k = k a m := rfl
@[simp] theorem R.go_ex {α : Type} (x : Nat) (p : Option D) (m : Mem) (ρ : Rho) (k : α → Mem → O) : (R.ex x p m : R α).go ρ k = .ex x p ρ m := rfl
@[simp] theorem R.go_bad {α : Type} (ρ : Rho) (k : α → Mem → O) : (R.bad : R α).go ρ k = .bad := rfl
def O.then (r : O) (k : Rho → Mem → O) : O := match r with
  | .nx ρ m => k ρ m
  | r => r
@[simp] theorem O.then_nx (ρ : Rho) (m : Mem) (k : Rho → Mem → O) : (O.nx ρ m).then k = k ρ m := rfl
@[simp] theorem O.then_rt (d : D) (m : Mem) (k : Rho → Mem → O) : (O.rt d m).then k = .rt d m := rfl
@[simp] theorem O.then_bk (ρ : Rho) (m : Mem) (k : Rho → Mem → O) : (O.bk ρ m).then k = .bk ρ m := rfl
@[simp] theorem O.then_ct (ρ : Rho) (m : Mem) (k : Rho → Mem → O) : (O.ct ρ m).then k = .ct ρ m := rfl
@[simp] theorem O.then_ex (x : Nat) (p : Option D) (ρ : Rho) (m : Mem) (k : Rho → Mem → O) : (O.ex x p ρ m).then k = .ex x p ρ m := rfl
@[simp] theorem O.then_bad (k : Rho → Mem → O) : O.bad.then k = .bad := rfl
def O.test (r : R D) (ρ : Rho) (k : Bool → Mem → O) : O := (tst r).go ρ k
@[simp] theorem O.test_ok (b : Bool) (m : Mem) (ρ : Rho) (k : Bool → Mem → O) : O.test (.ok (.bl b) m) ρ k = k b m := rfl
/-- behind a loop's turn -/
def O.turn (r : O) (k : Rho → Mem → O) : O := match r with
  | .nx ρ m => k ρ m
  | .ct ρ m => k ρ m
  | .bk ρ m => .nx ρ m
  | r => r
@[simp] theorem O.turn_nx (ρ : Rho) (m : Mem) (k : Rho → Mem → O) : (O.nx ρ m).turn k = k ρ m := rfl
@[simp] theorem O.turn_rt (d : D) (m : Mem) (k : Rho → Mem → O) : (O.rt d m).turn k = .rt d m := rfl
@[simp] theorem O.turn_bk (ρ : Rho) (m : Mem) (k : Rho → Mem → O) : (O.bk ρ m).turn k = .nx ρ m := rfl
@[simp] theorem O.turn_ct (ρ : Rho) (m : Mem) (k : Rho → Mem → O) : (O.ct ρ m).turn k = k ρ m := rfl
@[simp] theorem O.turn_ex (x : Nat) (p : Option D) (ρ : Rho) (m : Mem) (k : Rho → Mem → O) : (O.ex x p ρ m).turn k = .ex x p ρ m := rfl
@[simp] theorem O.turn_bad (k : Rho → Mem → O) : O.bad.turn k = .bad := rfl
def forL (q : Option (Nat × List D)) (tg : D → Rho → Option Rho) (body : Rho → Mem → O) : List D → Rho → Mem → O
  | [], ρ, m => if ckD q m then .nx ρ m else .bad
  | d :: ds, ρ, m => if ckD q m then match tg d ρ with
    | none => .bad
    | some ρ' => (body ρ' m).turn fun ρ2 m2 => forL q tg body ds ρ2 m2
    else .bad
def whlL (c : Rho → Mem → R D) (body : Rho → Mem → O) : Nat → Rho → Mem → O
  | 0, _, _ => .bad
  | n + 1, ρ, m => O.test (c ρ m) ρ fun b m1 => if b then (body ρ m1).turn fun ρ2 m2 => whlL c body n ρ2 m2 else .nx ρ m1
/-- names get values, one by one -/
def setAll : List Nat → List D → Rho → Option Rho
  | [], [], ρ => some ρ
  | i :: is, d :: ds, ρ => if i < ρ.length then setAll is ds (ρ.set i (some d)) else none
  | _, _, _ => none
def fput : List Str → Str → List Str
  | [], f => [f]
  | g :: gs, f => if g = f then g :: gs else g :: fput gs f
def fputX : List Str → List D → Str → D → List D
  | g :: gs, x :: xs, f, y => if g = f then y :: xs else x :: fputX gs xs f y
  | _, xs, _, y => xs ++ [y]
/-- o.f = y -/
def fsetD (cs : List Nat) (d : D) (f : Str) (y : D) (m : Mem) : Option Mem := match d with
  | .ref n => match m[n]? with
    | some (.ins c ns xs) => if cs.contains c ∧ ns.length < 900 then some (m.set n (.ins c (fput ns f) (fputX ns xs f y))) else none
    | _ => none
  | _ => none
def O.ofM (o : Option Mem) (k : Mem → O) : O := match o with
  | some m => k m
  | none => .bad
@[simp] theorem O.ofM_some (m : Mem) (k : Mem → O) : O.ofM (some m) k = k m := rfl
@[simp] theorem O.ofM_none (k : Mem → O) : O.ofM none k = .bad := rfl
def O.ofR (o : Option Rho) (m : Mem) : O := match o with
  | some ρ => .nx ρ m
  | none => .bad
@[simp] theorem O.ofR_some (m : Mem) (ρ : Rho) : O.ofR (some ρ) m = .nx ρ m := rfl
@[simp] theorem O.ofR_none (m : Mem) : O.ofR none m = .bad := rfl
section
variable (C : Nat → List D → Mem → R D) (o : Lo) (w : Nat)
mutual
def exS : St → Rho → Mem → O
  | .asg t e, ρ, m => (evE C o e ρ m).go ρ fun d m1 => O.ofR (tgD t d ρ) m1
  | .par is es, ρ, m => (evEs C o es ρ m).go ρ fun ds m1 => O.ofR (setAll is ds ρ) m1
  | .seti a i e, ρ, m => (evE C o e ρ m).go ρ fun y m1 => (evE C o a ρ m1).go ρ fun d m2 => (evE C o i ρ m2).go ρ fun j m3 => O.ofM (setD d j y m3) fun m4 => .nx ρ m4
  | .setf a f cs e, ρ, m => (evE C o e ρ m).go ρ fun y m1 => (evE C o a ρ m1).go ρ fun d m2 => O.ofM (fsetD cs d f y m2) fun m3 => .nx ρ m3
  | .aug i op e, ρ, m => match ρ[i]? with
    | some (some x) => (evE C o e ρ m).go ρ fun y m1 => match x, y with
      | .int a, .int b => match op with
        | .Add => .nx (ρ.set i (some (.int (a + b)))) m1
        | .Sub => .nx (ρ.set i (some (.int (a - b)))) m1
        | _ => .bad
      | _, _ => .bad
    | _ => .bad
  | .augf a f cs e, ρ, m => (evE C o a ρ m).go ρ fun d m1 => match fldD cs d f m1 with
    | some (.int x) => (evE C o e ρ m1).go ρ fun y m2 => match y with
      | .int b => O.ofM (fsetD cs d f (.int (x + b)) m2) fun m3 => .nx ρ m3
      | _ => .bad
    | _ => .bad
  | .expr e, ρ, m => (evE C o e ρ m).go ρ fun _ m1 => .nx ρ m1
  | .ret e, ρ, m => (evE C o e ρ m).go ρ fun d m1 => .rt d m1
  | .retn, _, m => .rt .non m
  | .ifs c a b, ρ, m => O.test (evE C o c ρ m) ρ fun k m1 => if k then exSs a ρ m1 else exSs b ρ m1
  | .fors t it b, ρ, m => (evI C o it ρ m).go ρ fun xs m1 => forL xs.2 (tgD t) (fun ρ' m' => exSs b ρ' m') xs.1 ρ m1
  | .whl c b, ρ, m => whlL (evE C o c) (fun ρ' m' => exSs b ρ' m') w ρ m
  | .brk, ρ, m => .bk ρ m
  | .cnt, ρ, m => .ct ρ m
  | .pas, ρ, m => .nx ρ m
  | .nev, _, _ => .bad
  | .sasg a i j es, ρ, m => (evEs C o es ρ m).go ρ fun ds m1 => match ds with
    | [y, z] => (evE C o a ρ m1).go ρ fun d m2 => (evE C o i ρ m2).go ρ fun k m3 => O.ofM (setD d k y m3) fun m4 => if j < ρ.length then .nx (ρ.set j (some z)) m4 else .bad
    | _ => .bad
  | .rai x es, ρ, m => if o.exc then (evEs C o es ρ m).go ρ fun ds m1 => match ds with
    | [] => .ex x none ρ m1
    | [d] => .ex x (some d) ρ m1
    | _ => .bad
    else .bad
def exSs : Ss → Rho → Mem → O
  | .nil, ρ, m => .nx ρ m
  | .cons s r, ρ, m => (exS s ρ m).then fun ρ1 m1 => exSs r ρ1 m1
end
end

/-- the mark of a tuple that stands nowhere in the written part -/
def isMk : D → Option (List D)
  | .pr (.tup ds) .fn => some ds
  | _ => none
/-! ### defs -/
mutual
/-- all cells that are told lie below n -/
def bel (n : Nat) : D → Bool
  | .ref k => decide (k < n)
  | .tup ds => bels n ds
  | .lst ds => bels n ds
  | .dic _ ds => bels n ds
  | .pr x y => bel n x && bel n y
  | _ => true
def bels (n : Nat) : List D → Bool
  | [] => true
  | d :: ds => bel n d && bels n ds
end
def belC (n : Nat) : Cell → Bool
  | .lst xs => bels n xs
  | .dic _ xs => bels n xs
  | .ins _ _ xs => bels n xs
/-- the old cells, each as it was, or telling of old ones alone -/
def keepC (n : Nat) : Mem → Mem → Bool
  | [], _ => true
  | c :: M, c' :: m => (decide (c = c') || belC n c') && keepC n M m
  | _ :: _, [] => false
/-- behind a call new cells that nothing tells of are forgotten -/
def gcR (M : Mem) : R D → R D
  | .ok d m => if keepC M.length M m then
      if bel M.length d then .ok d (m.take M.length)
      else match d with
        | .ref n => match m[n]? with
          | some c => if belC M.length c ∧ M.length ≤ n then .ok (.ref M.length) (m.take M.length ++ [c]) else .ok d m
          | none => .ok d m
        | _ => .ok d m
    else .ok d m
  | .ex x p m => .ex x p m
  | .bad => .bad
/-- what an except clause returns: a text, [text], (text, e.f), [text, e.f], e.f, a number -/
inductive Hv where
  | t (s : Str) | l (s : Str) | tf (s : Str) | lf (s : Str) | f | i (k : Int)
deriving DecidableEq
/-- a def that calls what it gets and tells how that ended -/
inductive Told where
  | a (pre : Str) (hs : List (Nat × Str)) (n : Nat)
  | c (hs : List (Nat × Str)) (n : Nat)
  | d (fin : Option Hv) (hs : List (Nat × Hv)) (n : Nat)
/-- p: what the exception carries -/
def hvR (p : Option D) (m : Mem) : Hv → R D
  | .t s => .ok (.str s) m
  | .l s => .ok (.lst [.str s]) m
  | .i k => .ok (.int k) m
  | .f => match p with
    | some d => .ok d m
    | none => .bad
  | .tf s => match p with
    | some d => .ok (.tup [.str s, d]) m
    | none => .bad
  | .lf s => match p with
    | some d => .ok (.lst [.str s, d]) m
    | none => .bad
/-- the class that a method is of: its name, its number, the names of the attributes -/
structure Own where
  cn : Str
  c : Nat
  flds : List Str
structure Fn where
  name : Str
  np : Nat
  ns : Nat
  body : Ss
  told : Option Told
  lams : Bool
  qual : Str
  own : Option Own
def retO : O → R D
  | .nx _ m => .ok .non m
  | .rt d m => .ok d m
  | .ex x p _ m => .ex x p m
  | _ => .bad
@[simp] theorem retO_nx (ρ : Rho) (m : Mem) : retO (.nx ρ m) = .ok .non m := rfl
@[simp] theorem retO_rt (d : D) (m : Mem) : retO (.rt d m) = .ok d m := rfl
@[simp] theorem retO_ex (x : Nat) (p : Option D) (ρ : Rho) (m : Mem) : retO (.ex x p ρ m) = .ex x p m := rfl
def startR (n : Nat) (ds : List D) : Rho := ds.map some ++ List.replicate (n - ds.length) none
/-- a call whose arguments tell of no cell sees none of the cells that are there -/
def isoR (run : Mem → R D) (ds : List D) (m : Mem) : R D :=
  if !m.isEmpty && bels 0 ds then match run [] with
    | .ok d m' => if bel 0 d then .ok d m else run m
    | .ex x none m' => .ex x none m
    | .ex x (some d) m' => if bel 0 d then .ex x (some d) m else run m
    | .bad => run m
  else run m
def runFn (C : Nat → List D → Mem → R D) (o : Lo) (w : Nat) (fn : Fn) (ds : List D) (m : Mem) : R D :=
  if ds.length = fn.np then isoR (fun m => gcR m (retO (exSs C o w fn.body (startR fn.ns ds) m))) ds m else .bad
/-- what a told def makes of its call's end; 0: the base of all -/
def giveR : Told → R D → R D
  | .a pre _ _, .ok _ m => .ok (.str pre) m
  | .a _ hs n, .ex x _ m => if x < n then match hs.find? (fun h => h.1 == x || h.1 == 0) with
    | some h => .ok (.str h.2) m
    | none => .bad
    else .bad
  | .a _ _ _, .bad => .bad
  | .c _ _, .ok d m => .ok d m
  | .c hs n, .ex x _ m => if x < n then match hs.find? (fun h => h.1 == x || h.1 == 0) with
    | some h => .ok (.lst [.str h.2]) m
    | none => .bad
    else .bad
  | .c _ _, .bad => .bad
  | .d none _ _, .ok d m => .ok d m
  | .d (some h) _ _, .ok _ m => hvR none m h
  | .d _ hs n, .ex x p m => if x < n then match hs.find? (fun h => h.1 == x || h.1 == 0) with
    | some h => hvR (if h.1 == x then p else none) m h.2
    | none => .bad
    else .bad
  | .d _ _ _, .bad => .bad
def giveAt (T : List Fn) (C2 : Nat → List D → Mem → R D) (o2 : Lo) (f : Nat) (e : Ex) (ρ : Rho) (m : Mem) : R D := match T[f]? with
  | some fn => match fn.told with
    | some t => giveR t (evE C2 o2 e ρ m)
    | none => .bad
  | none => .bad
/-- no lambdas -/
def lo0 (k : Nat) : Lo := ⟨fun _ _ _ _ => .bad, decide (2 ≤ k), none⟩
def callAt (T : List Fn) (w : Nat) : Nat → Nat → List D → Mem → R D
  | 0, _, _, _ => .bad
  | 1, f, ds, m => match T[f]? with
    | some fn => runFn (callAt T w 0) (lo0 0) w fn ds m
    | none => .bad
  | 2, f, ds, m => match T[f]? with
    | some fn => runFn (callAt T w 1) (lo0 1) w fn ds m
    | none => .bad
  | k + 3, f, ds, m => match T[f]? with
    | some fn => runFn (callAt T w (k + 2)) ⟨giveAt T (callAt T w k) (lo0 k), true, some (callAt T w (k + 1))⟩ w fn ds m
    | none => .bad
/-- what a def's body at a level may do -/
def loAt (T : List Fn) (w : Nat) : Nat → Lo
  | 0 => lo0 0
  | 1 => lo0 1
  | k + 2 => ⟨giveAt T (callAt T w k) (lo0 k), true, some (callAt T w (k + 1))⟩
theorem callAt_succ (T : List Fn) (w k f : Nat) (ds : List D) (m : Mem) : callAt T w (k + 1) f ds m = match T[f]? with
    | some fn => runFn (callAt T w k) (loAt T w k) w fn ds m
    | none => .bad := by
  match k with
  | 0 => rfl
  | 1 => rfl
  | k + 2 => rfl
end EV

/-! Tuples that are made, their objects known; dict(t). -/
namespace EV
open PySem PySem.Spec PyProof.Rows L2
section
variable {X : Cx} {es : List Expr} {t : TA} {pos : Pos}
def tTupF (t : TA) : TE := fun σ H Q => t σ H fun xs H1 => xs.length ≤ sizeLine ∧ ∀ p o, H1 p = none → o.dict = none → Q (.ref p) (upd H1 p (.frz o (.tup xs)))
theorem pe_tupF {x1} (h : PA X es t) : PE X (.Tuple es x1 pos) (tTupF t) := by
  refine ⟨fun pins s σ H Q I hq => ?_⟩
  refine wpAny_Tuple_spliced (thn (h.run pos pins s σ H _ I hq) fun us s1 ⟨xs, H1, I1, r, z, q⟩ => ⟨by rw [← r.length]; exact z, ?_⟩)
  have hf : H1 s1.heap.objs.size = none := I1.hok.fresh (Nat.le_refl _)
  refine ⟨.ref s1.heap.objs.size, upd H1 s1.heap.objs.size (.frz { cls := .type "tuple", data := .seq us.toArray } (.tup xs)), I1.laid (t' := s1.toks) (fun b u e => Heap.get?_push_of_some _ e) (Nat.le_refl _) ?_, rfl, q _ _ hf rfl⟩
  exact ⟨Heap.get?_push_size _ rfl, z, us, r, ⟨_, Heap.get?_push_size _ rfl, rfl, _, rfl⟩⟩
theorem call_tupleF : CallR X (.type "tuple") (fun xs H Q => ∃ p ys, xs = [.ref p] ∧ ((SqL X.K H p ys ∧ ∀ l o, H l = none → o.dict = none → Q (.ref l) (upd H l (.frz o (.tup ys)))) ∨ (SqT X.K H p ys ∧ Q (.ref p) H))) := by
  intro pins s σ H xs us Q I r h
  obtain ⟨p, ys, rfl, h⟩ := h
  obtain ⟨u, rfl, rx⟩ := vals1 r
  cases rx
  rcases h with ⟨hq, q⟩ | ⟨hq, q⟩
  · obtain ⟨its, r', pl, hz⟩ := I.list hq
    have hlen := r'.length
    refine call_tuple_list pl.isList (fun h' kp => ?_) (by simp only [List.size_toArray] <;> omega)
    have I1 : Inv X pins σ H { s with heap := h' } := I.kept (t' := s.toks) kp
    have I2 : Inv X pins σ (upd H h'.objs.size (.frz { cls := .type "tuple", data := .seq its.toArray } (.tup ys))) { s with heap := h'.push { cls := .type "tuple", data := .seq its.toArray } } :=
      I1.laid (t' := s.toks) (fun b o e => Heap.get?_push_of_some _ e) (Nat.le_refl _) (show ObjOk X.prog X.w _ _ _ (.frz _ (.tup ys)) from ⟨Heap.get?_push_size _ rfl, hz, its, r', IsTup.new _ _⟩)
    exact ⟨.ref h'.objs.size, _, I2, rfl, q _ _ (I1.hok.fresh (Nat.le_refl _)) rfl⟩
  · obtain ⟨its, r', pl, hz⟩ := I.tuple hq
    exact call_tuple_same pl ⟨.ref p, H, I, rfl, q⟩
def rCatF (K : PySem.W.Frag) : R2 := fun x y H Q => ∃ a b xs ys, x = .ref a ∧ y = .ref b ∧ SqT K H a xs ∧ SqT K H b ys ∧ xs.length + ys.length ≤ sizeLine ∧
  (xs = [] → Q (.ref b) H) ∧ (xs ≠ [] → ys = [] → Q (.ref a) H) ∧ (xs ≠ [] → ys ≠ [] → ∀ p o, H p = none → o.dict = none → Q (.ref p) (upd H p (.frz o (.tup (xs ++ ys)))))
theorem op_catF : OpR X (binaryOp .Add) (rCatF X.K) := by
  intro pins s σ H x y v u Q I rx ry h
  obtain ⟨a, b, xs, ys, rfl, rfl, ha, hb, hz, q0, q1, q2⟩ := h
  by_cases hx : xs = []
  · subst hx
    cases rx
    cases ry
    obtain ⟨its, r1, p1, _⟩ := I.tuple ha
    obtain ⟨its2, r2, p2, _⟩ := I.tuple hb
    cases r1
    exact cat_tup0 p1 p2 ⟨.ref b, H, I, rfl, q0 rfl⟩
  · cases rx
    cases ry
    obtain ⟨its, r1, p1, _⟩ := I.tuple ha
    obtain ⟨its2, r2, p2, _⟩ := I.tuple hb
    refine HT.cat_tup p1 p2 (fun z => hx (r1.nil_iff.mp z)) (fun z => ⟨.ref a, H, I, rfl, q1 hx (r2.nil_iff.mp z)⟩) (fun z => ?_) (by rw [← r1.length, ← r2.length]; exact hz)
    refine ⟨.ref s.heap.objs.size, _, I.laid (t' := s.toks) (o := .frz { cls := .type "tuple", data := .seq (its ++ its2).toArray } (.tup (xs ++ ys))) (fun b ob q => Heap.get?_push_of_some _ q) (Nat.le_refl _) ?_, rfl, q2 hx (fun w => z (r2.nil_iff.mpr w)) _ _ (I.hok.fresh (Nat.le_refl _)) rfl⟩
    exact ⟨Heap.get?_push_size _ rfl, by rw [List.length_append]; exact hz, _, r1.append r2, IsTup.new _ _⟩
def rSlF (K : PySem.W.Frag) : V → Option Int → Option Int → Hp → VK → Prop := fun x lo hi H Q => ∃ a xs, x = .ref a ∧ SqT K H a xs ∧
  (HT.sIx xs.length 0 lo = 0 ∧ HT.sIx xs.length xs.length hi = xs.length → Q (.ref a) H) ∧ (¬ (HT.sIx xs.length 0 lo = 0 ∧ HT.sIx xs.length xs.length hi = xs.length) → ∀ p o, H p = none → o.dict = none → Q (.ref p) (upd H p (.frz o (.tup (cutV xs lo hi)))))
theorem sl_tupF : SlR X (rSlF X.K) := by
  intro pins s σ H x v vl vu lo hi sl Q I rx hs pl pu h
  obtain ⟨a, xs, rfl, hx, q1, q2⟩ := h
  by_cases hw : HT.sIx xs.length 0 lo = 0 ∧ HT.sIx xs.length xs.length hi = xs.length
  · cases rx
    obtain ⟨its, r, ht, hz⟩ := I.tuple hx
    have hlen : its.toArray.size = xs.length := by rw [List.size_toArray]; exact r.length.symm
    refine ⟨"tuple", _, PyProof.Rows.slot_tuple_getitem.lookup, ht.typeIs, ?_⟩
    exact getItem_tuple_whole ht hs pl pu (by rw [hlen]; exact hw) ⟨.ref a, H, I, rfl, q1 hw⟩
  · cases rx
    obtain ⟨its, r, ht, hz⟩ := I.tuple hx
    have hlen : its.toArray.size = xs.length := by rw [List.size_toArray]; exact r.length.symm
    refine ⟨"tuple", _, PyProof.Rows.slot_tuple_getitem.lookup, ht.typeIs, ?_⟩
    refine HT.getItem_tuple_cut ht hs pl pu (by rw [hlen]; exact hw) ?_ (by rw [hlen]; exact hz)
    rw [hlen]
    refine ⟨.ref s.heap.objs.size, _, I.laid (t' := s.toks) (o := .frz { cls := .type "tuple", data := .seq ((its.drop (HT.sIx xs.length 0 lo)).take (HT.sIx xs.length xs.length hi - HT.sIx xs.length 0 lo)).toArray } (.tup (cutV xs lo hi))) (fun b ob q => Heap.get?_push_of_some _ q) (Nat.le_refl _) ?_, rfl, q2 hw _ _ (I.hok.fresh (Nat.le_refl _)) rfl⟩
    exact ⟨Heap.get?_push_size _ rfl, Nat.le_trans (cutV_length xs lo hi) hz, _, (r.drop (HT.sIx xs.length 0 lo)).take (HT.sIx xs.length xs.length hi - HT.sIx xs.length 0 lo), IsTup.new _ _⟩
end
end EV
namespace EV
open PySem PySem.Spec PyProof.Rows L2
theorem tuple_keys_none : typeLookup (.type "tuple") "keys" = pure none := am_miss_of_fast (by first | decide +kernel | rfl)
section
variable {prog : Program} {w : World} {A : Around} {E : Value → Shared → Prop}
/-- a tuple has no attribute 'keys' -/
theorem miss_tupleK {s : Shared} {a : Addr} {o : Obj} {xs : Array Value} {k : Nat} {Q : Option Value → Shared → Prop} (hx : s.heap.get? a = some o) (hc : o.cls = .type "tuple") (hdat : o.data = .seq xs k) (hd : o.dict = none) (hA : A.handled = none)
    (h : ∀ h' tk, (∀ b ob, s.heap.get? b = some ob → h'.get? b = some ob) → Q none { s with heap := h', toks := tk }) : wpAny (model prog w) A (getAttr? (.ref a) "keys") Q E s := by
  obtain ⟨c, dct, dat, sl⟩ := o
  simp only at hc hdat hd
  subst hc hdat hd
  obtain ⟨hp, g, d, tk, os⟩ := s
  have hT : ∀ tk', (⟨hp, g, d, tk', os⟩ : Shared).TypeIs (.ref a) "tuple" := fun _ => ⟨_, hx, rfl⟩
  have hmiss := tuple_keys_none
  have hname : (["__module__", "__name__", "__qualname__", "__doc__", "__annotations__"] : List Str).contains "keys" = false := by decide +kernel
  have hsz : ("keys" : Str).length + 100 ≤ sizeLine := by first | size_fits | decide +kernel
  have f1 := sub_AttributeError
  have f3 := PySem.F.slot_tuple_getattribute.lookup
  have f4 := PySem.F.slot_tuple_getattribute.bind (.ref a)
  have f5 := am_tuple_getattr_none
  unfold getAttr? getAttrBy? getAttrBy
  repeat (any_goals (first | assumption | exact hT _ | ((with_reducible show wpAny _ _ (call (Value.builtin "tuple.__getattribute__") _ _) _ _ _); refine call_meets PySem.F.slot_tuple_getattribute (hT _) am_entry_tuple_getattribute (PySem.F.args_tuple_getattribute_2 _ _) (meets_getattribute_miss_tuple a xs k sl "keys" _ hmiss hname hsz) ⟨hx, hA, fun h' tk' e hx' => ?_⟩) | wp_step))
  obtain ⟨t', u', he⟩ := hx'.there
  show wpAny _ _ (getattributeRaised _ _ _ _ _ _ _) _ _ _
  unfold getattributeRaised
  repeat (any_goals (first | assumption | wp_step))
  all_goals first | exact h _ _ hx'.keeps | (dsimp only; repeat (any_goals (first | assumption | exact h _ _ hx'.keeps | wp_step)))
/-- the walk over a tuple's pairs -/
theorem upd_loopT {R : Result → Shared → Prop} {S I l : Addr} {items : Array Value} {res : Value} (hh : A.handled = none) (hlI : l ≠ I) (hSI : S ≠ I) (hSl : S ≠ l) :
    ∀ (rest : List (Key × Value)) (i : Nat) (acc : List (Key × Value)) (ix : Int) (t : Tok) (s : Shared), items.size = i + rest.length → acc.length + rest.length ≤ sizeLine →
      (∀ (j : Nat) (q : Key × Value), rest[j]? = some q → ∃ (b : Addr) (u : Value), items[i + j]? = some (.ref b) ∧ b ≠ S ∧ b ≠ I ∧ IsTup s.heap b #[u, q.2] ∧ keyIs q.1 u = true) →
      s.heap.IsTupleIter I l i → s.heap.IsTuple l items → s.heap.DictOf (mixKind prog w) S acc →
      (∀ h' tk, h'.DictOf (mixKind prog w) S (merged acc rest) → (∀ b o, b ≠ S → b ≠ I → s.heap.get? b = some o → h'.get? b = some o) → R (.ok (.ret res)) { s with heap := h', toks := tk }) →
      codeAny (model prog w) A (.builtin "dict.update.loop" ⟨[.ref S, .ref I, .int ix t, res], []⟩) R s
  | [], i, acc, ix, t, s, hsz, hln, ht, hit, hl, hm, hR => by
    refine codeAny_builtin ud_entry ?_
    rw [Around.under_plainId ud_plain _]
    show wpAny _ A.in1 (pyNext (.ref I) >>= _) _ _ s
    refine wpAny_bind (wpAny_pyNext_tuple_end (A := A.in1) hh hit hl (by first | exact Array.getElem?_eq_none (Nat.le_of_eq hsz) | (simp at hsz; simp; omega)) fun h' he => ?_)
    show wpAny _ A.in1 (Builtin.Dict.addKeywords S [] >>= _) _ _ _
    refine wpAny_bind (wpAny_pure (wpAny_pure ?_))
    exact hR h' s.toks (hm.extBut he hSI) fun b o _ hb e => he b o hb e
  | q :: rest, i, acc, ix, t, s, hsz, hln, ht, hit, hl, hm, hR => by
    obtain ⟨b, u, hb, hbS, hbI, htup, hk⟩ := ht 0 q rfl
    rw [List.length_cons] at hsz hln
    refine codeAny_builtin ud_entry ?_
    rw [Around.under_plainId ud_plain _]
    show wpAny _ A.in1 (pyNext (.ref I) >>= _) _ _ s
    refine wpAny_bind (wpAny_pyNext_tuple_item (x := .ref b) hit hl (by simpa using hb) fun h1 hit1 hs1 => ?_)
    have ht1 : IsTup h1 b #[u, q.2] := htup.extBut hs1.extBut hbI
    have hl1 : h1.IsTuple l items := by
      obtain ⟨o, e, r⟩ := hl
      exact ⟨o, hs1.extBut _ _ hlI e, r⟩
    have hm1 : h1.DictOf (mixKind prog w) S acc := hm.extBut hs1.extBut hSI
    obtain ⟨o, ho, hc, n, hd⟩ := id ht1
    show wpAny _ A.in1 (holding [Value.ref b] _ >>= _) _ _ _
    refine wpAny_bind (wpAny_holding ?_)
    refine wpAny_bind (wpAny_tryCatch ?_)
    unfold Builtin.Dict.pairItems
    refine wpAny_bind (wpAny_typeOf (T := "tuple") ⟨o, ho, hc⟩ ?_)
    rw [if_pos (by first | decide | rfl | simp)]
    refine wpAny_bind (wpAny_seqItems ho hd (wpAny_pure ?_))
    show wpAny _ A.in1 (holding [u, q.2] (dictSet S u q.2)) _ _ _
    refine wpAny_holding (wpAny_dictSet_pairs (knd := mixKind prog w) (k := q.1) hk hm1 (fun h2 hm2 hs2 => ?_) (by omega))
    refine wpAny_pure ⟨plainId_quiet ud_plain _, upd_loopT (items := items) hh hlI hSI hSl rest (i + 1) (stored acc q.1 q.2) (ix + 1) 0 _ (show items.size = i + 1 + rest.length by omega) ?_ (fun j q' e => ?_) ?_ ?_ hm2 fun h' tk hd' k => ?_⟩
    · have z := stored_length_le acc q.1 q.2
      omega
    · obtain ⟨b', u', hb', hbS', hbI', htup', hk'⟩ := ht (j + 1) q' (by simpa using e)
      refine ⟨b', u', ?_, hbS', hbI', (htup'.extBut hs1.extBut hbI').extBut hs2.extBut hbS', hk'⟩
      rw [show i + 1 + j = i + (j + 1) by omega]
      exact hb'
    · obtain ⟨o, e, r⟩ := hit1
      exact ⟨o, hs2.extBut _ _ (Ne.symm hSI) e, r⟩
    · obtain ⟨o, e, r⟩ := hl1
      exact ⟨o, hs2.extBut _ _ (Ne.symm hSl) e, r⟩
    · exact hR h' tk hd' fun c oc h3 h4 e => k c oc h3 h4 (hs2.extBut c oc h3 (hs1.extBut c oc h4 e))
/-- dict(t) of a tuple of pairs -/
theorem call_dict_tup {s : Shared} {l : Addr} {ol : Obj} {items : Array Value} {n : Nat} {prs : List (Key × Value)} {Q : Value → Shared → Prop} (hh : A.handled = none) (hl : s.heap.get? l = some ol) (hc : ol.cls = .type "tuple") (hd : ol.dict = none)
    (hdat : ol.data = .seq items n) (hsz : items.size = prs.length) (hln : prs.length ≤ sizeLine)
    (ht : ∀ (j : Nat) (q : Key × Value), prs[j]? = some q → ∃ (b : Addr) (u : Value), items[j]? = some (.ref b) ∧ IsTup s.heap b #[u, q.2] ∧ keyIs q.1 u = true)
    (h : ∀ h' tk, h'.DictOf (mixKind prog w) s.heap.objs.size (merged [] prs) → (∀ b o, s.heap.get? b = some o → h'.get? b = some o) → Q (.ref s.heap.objs.size) { s with heap := h', toks := tk }) :
    wpAny (model prog w) A (call (.type "dict") [.ref l]) Q E s := by
  refine callType_codes (Q₁ := fun obj s₁ => obj = .ref s.heap.objs.size ∧ s₁ = { s with heap := s.heap.push { cls := .type "dict", data := .dict #[] } }) PySem.F.kt_called_dict (PySem.F.kt_typeCall_dict_1 _) PySem.F.entry_dict_init (kt_code_dict_new _ ⟨rfl, rfl⟩) ?_
  rintro obj s₁ ⟨rfl, rfl⟩
  have hnew : (s.heap.push { cls := .type "dict", data := .dict #[] }).DictOf (mixKind prog w) s.heap.objs.size [] := Heap.DictOf.new s.heap
  have k0 : ∀ b o, s.heap.get? b = some o → (s.heap.push { cls := .type "dict", data := .dict #[] }).get? b = some o := fun b o e => Heap.get?_push_of_some _ e
  refine ⟨hnew.typeIs, PySem.F.args_dict_init_2 _ _, ?_⟩
  unfold Builtin.«dict.__init__»
  refine wpAny_bind ?_
  unfold Builtin.Dict.selfAndRest
  refine wpAny_bind (wpAny_notOrdered_dict hnew.typeIs ?_)
  show wpAny _ _ (pure (s.heap.objs.size, [Value.ref l])) _ _ _
  refine wpAny_pure ?_
  show wpAny _ _ (Builtin.Dict.updateFrom "dict.__init__" s.heap.objs.size (.ref l) [] .none) _ _ _
  unfold Builtin.Dict.updateFrom
  refine wpAny_bind (wpAny_typeOf (T := "tuple") ⟨ol, k0 _ _ hl, hc⟩ ?_)
  rw [if_pos (by first | decide | rfl | simp)]
  refine wpAny_bind (miss_tupleK (k0 _ _ hl) hc hdat hd hh fun h1 tk1 hk1 => ?_)
  rw [if_pos (show (none : Option Value).isNone = true from rfl)]
  refine wpAny_bind (wpAny_rule ?_)
  have hl1 : h1.IsTuple l items := ⟨ol, hk1 _ _ (k0 _ _ hl), hc, n, hdat⟩
  have hS1 : s.heap.objs.size < h1.objs.size := by
    have e : (s.heap.push { cls := .type "dict", data := .dict #[] }).get? s.heap.objs.size = some { cls := .type "dict", data := .dict #[] } := Heap.get?_push_size _ rfl
    exact Heap.lt_size (hk1 _ _ e)
  refine wpAny_bind (wpAny_pyIter_tuple hl1 ?_)
  have k2 : ∀ b o, h1.get? b = some o → (h1.push { cls := .type "tuple_iterator", data := .fields #[.ref l, .int 0 0] }).get? b = some o := fun b o e => Heap.get?_push_of_some _ e
  have hlt : l < s.heap.objs.size := Heap.lt_size hl
  have key := upd_loopT (prog := prog) (w := w) (A := A.in1) (R := wants (fun r s₂ => r = .none ∧ Q (.ref s.heap.objs.size) s₂) E) (S := s.heap.objs.size) (I := h1.objs.size) (l := l) (items := items) (res := Value.none) hh
    (Nat.ne_of_lt (Nat.lt_trans hlt hS1)) (Nat.ne_of_lt hS1) (Nat.ne_of_gt hlt) prs 0 [] 0 0
    { s with heap := h1.push { cls := .type "tuple_iterator", data := .fields #[.ref l, .int 0 0] }, toks := tk1 } (by rw [hsz, Nat.zero_add]) (by rw [List.length_nil, Nat.zero_add]; exact hln)
    (fun j q e => by
      obtain ⟨b, u, e1, e2, e3⟩ := ht j q e
      have hb : b < s.heap.objs.size := e2.lt
      exact ⟨b, u, by rw [Nat.zero_add]; exact e1, Nat.ne_of_lt hb, Nat.ne_of_lt (Nat.lt_trans hb hS1), e2.keeps fun c o z => k2 _ _ (hk1 _ _ (k0 _ _ z)), e3⟩)
    ⟨_, Heap.get?_push_size _ rfl, rfl, rfl⟩ ⟨ol, k2 _ _ (hk1 _ _ (k0 _ _ hl)), hc, n, hdat⟩ ((hnew.at fun o e => hk1 _ _ e).at fun o e => k2 _ _ e)
    (fun h' tk hd' k => ⟨rfl, h h' tk hd' fun b o e => k b o (Nat.ne_of_lt (Heap.lt_size e)) (Nat.ne_of_lt (Nat.lt_trans (Heap.lt_size e) hS1)) (k2 _ _ (hk1 _ _ (k0 _ _ e)))⟩)
  first
    | exact wpAny_pure ⟨plainId_quiet ud_plain _, key⟩
    | exact wpAny_bind (wpAny_pure (wpAny_pure ⟨plainId_quiet ud_plain _, key⟩))
end
end EV
namespace EV
open PySem PySem.Spec PyProof.Rows L2
/-- dict(t), t a tuple of pairs -/
theorem call_dictTP {X : Cx} (hcalm : X.calm = true) : CallR X (.type "dict") (fun xs H Q => ∃ (a : Addr) (ps : List Addr) (kvs : List (Key × V)), xs = [.ref a] ∧ TupS X.K H a (ps.map V.ref) ∧ Paired (fun p kv => SqT X.K H p [kV kv.1, kv.2]) ps kvs ∧
    ∀ p, H p = none → Q (.ref p) (upd H p (.dK (mergeK [] kvs)))) := by
  intro pins s σ H xs us Q I r q
  obtain ⟨a, ps, kvs, ex, hq, hp, q⟩ := q
  subst ex
  obtain ⟨u, eu, rx⟩ := vals1 r
  subst eu
  cases rx
  obtain ⟨o, its, n, ho, hc, hdat, hd, hz, rv⟩ := hq.exact I
  have ei := refs_at rv
  have hz' : ps.length ≤ sizeLine := by
    have h1 : ps.length = its.size := by simpa using rv.length
    rw [h1]; exact hz
  obtain ⟨prs, rel, hl, hpr⟩ := pairs_of I hp
  have hsz : its.size = prs.length := by
    rw [← Array.length_toList, ei, List.length_map, hl]
  refine call_dict_tup (prs := prs) (I.ok.hd hcalm) ho hc hd hdat hsz (by rw [hl]; exact hz') (fun j q' e => ?_) fun h' tk hd' k => ?_
  · obtain ⟨b, u, e1, e2, e3⟩ := hpr j q' e
    refine ⟨b, u, ?_, e2, e3⟩
    rw [← Array.getElem?_toList, ei, List.getElem?_map, e1]; rfl
  · have hm : (s.heap.objs.size == sysModules) = false := beq_eq_false_iff_ne.mpr (Nat.ne_of_gt I.big)
    have hlen : (mergeK [] kvs).length ≤ sizeLine := by
      refine Nat.le_trans (length_mergeK kvs []) ?_
      rw [List.length_nil, Nat.zero_add, rel.length, hl]
      exact hz'
    exact ⟨.ref s.heap.objs.size, upd H s.heap.objs.size (.dK (mergeK [] kvs)), I.laid (t' := tk) k (Nat.le_refl _) (show ObjOk X.prog X.w _ _ _ (.dK (mergeK [] kvs)) from ⟨hlen, hm, merged [] prs, KV.merge rel .nil, hd'⟩), rfl, q _ (I.hok.fresh (Nat.le_refl _))⟩
end EV
namespace EV
open PySem PySem.Spec PyProof.Rows L2
section
variable {prog : Program} {w : World} {A : Around} {E : Value → Shared → Prop} {s : Shared} {l : Addr} {xs : Array (Int × Tok)} {its : List Value} {ns : List Int} {Q : Value → Shared → Prop}
theorem it_tup (hl : s.heap.IsTuple l (intItems xs))
    (h : ∀ s2 : Shared, s2 = { s with heap := s.heap.push { cls := .type "tuple_iterator", data := .fields #[.ref l, .int 0 0] } } → (s2.heap.IsTupleIter s.heap.objs.size l 0 ∧ s2.heap.IsTuple l (intItems xs)) →
      (∀ b ∈ [s.heap.objs.size, l], b < s2.heap.objs.size) → l ≠ s.heap.objs.size → Q (.ref s.heap.objs.size) s2) : wpAny (model prog w) A (pyIter (.ref l)) Q E s := by
  have hlt : l < s.heap.objs.size := by
    obtain ⟨_, e, _⟩ := hl
    exact Heap.lt_size e
  refine wpAny_pyIter_tuple hl (h _ rfl ⟨⟨_, Heap.get?_push_size _ rfl, rfl, rfl⟩, hl.at fun o e => Heap.get?_push_of_some _ e⟩ (fun b hb => ?_) (Nat.ne_of_lt hlt))
  show b < (s.heap.push _).objs.size
  rw [Heap.size_push]
  have hb' : b = s.heap.objs.size ∨ b = l := by simpa using hb
  rcases hb' with e | e
  · rw [e]; exact Nat.lt_succ_self _
  · rw [e]; exact Nat.lt_succ_of_lt hlt
theorem it_keep {h' : Heap} (hk : ∀ b o, b ∉ [s.heap.objs.size] → (s.heap.push { cls := .type "tuple_iterator", data := .fields #[.ref l, .int 0 0] }).get? b = some o → h'.get? b = some o) (b : Addr) (o : Obj) (e : s.heap.get? b = some o) : h'.get? b = some o :=
  hk b o (fun hm => Nat.lt_irrefl _ (List.mem_singleton.mp hm ▸ Heap.lt_size e)) (Heap.get?_push_of_some _ e)
theorem maxT_raw (hh : A.handled = none) (hl : s.heap.IsTuple l its.toArray) (hi : IntsAre its ns) (hne : 0 < ns.length)
    (h : ∀ h' tk M t', (∀ b o, s.heap.get? b = some o → h'.get? b = some o) → M ∈ ns → (∀ a, a ∈ ns → a ≤ M) → Q (.int M t') { s with heap := h', toks := tk }) : wpAny (model prog w) A (call (.builtin "max") [.ref l]) Q E s := by
  obtain ⟨xs, e⟩ := hi.allInts.items
  have hn : numsOf (intItems xs).toList = ns := by rw [← e]; exact hi.numsOf
  rw [nums_intItems] at hn
  subst hn
  rw [e] at hl
  have hsz : 0 < xs.size := by simpa using hne
  refine call_max_walk (it_tup hl fun s2 e2 st hfp hlI => ?_)
  subst e2
  refine ⟨_, _, _, _, _, _, _, rfl, Walks.tuple (A := A.in1) hh _ l hlI (intItems xs), st, hfp, by simpa [intItems] using hsz, CmpOf.ints_gt (numAt xs) (fun _ _ => intItems_at), fun v h' tk hP hk => ?_⟩
  obtain ⟨t, rfl⟩ := intItems_at (by simpa [intItems] using hP)
  obtain ⟨h1, h2⟩ := argBest_gt (numAt xs) (xs.size - 1)
  have h1' : argBest (fun i j => decide (numAt xs j < numAt xs i)) (xs.size - 1) < xs.size := by
    have : argBest (fun i j => decide (numAt xs j < numAt xs i)) (xs.size - 1) ≤ xs.size - 1 := h1
    omega
  have hs2 : (intItems xs).size = xs.size := by simp [intItems]
  refine h h' tk _ t (it_keep hk) ?_ fun a ha => ?_
  · rw [numAt_eq]; exact PySem.getD_mem (by rw [List.length_map, Array.length_toList]; omega)
  · obtain ⟨j, hj, rfl⟩ := mem_getD ha
    rw [List.length_map, Array.length_toList] at hj
    rw [← numAt_eq]; exact h2 j (by omega)
theorem minT_raw (hh : A.handled = none) (hl : s.heap.IsTuple l its.toArray) (hi : IntsAre its ns) (hne : 0 < ns.length)
    (h : ∀ h' tk M t', (∀ b o, s.heap.get? b = some o → h'.get? b = some o) → M ∈ ns → (∀ a, a ∈ ns → M ≤ a) → Q (.int M t') { s with heap := h', toks := tk }) : wpAny (model prog w) A (call (.builtin "min") [.ref l]) Q E s := by
  obtain ⟨xs, e⟩ := hi.allInts.items
  have hn : numsOf (intItems xs).toList = ns := by rw [← e]; exact hi.numsOf
  rw [nums_intItems] at hn
  subst hn
  rw [e] at hl
  have hsz : 0 < xs.size := by simpa using hne
  refine call_min_walk (it_tup hl fun s2 e2 st hfp hlI => ?_)
  subst e2
  refine ⟨_, _, _, _, _, _, _, rfl, Walks.tuple (A := A.in1) hh _ l hlI (intItems xs), st, hfp, by simpa [intItems] using hsz, CmpOf.ints_lt (numAt xs) (fun _ _ => intItems_at), fun v h' tk hP hk => ?_⟩
  obtain ⟨t, rfl⟩ := intItems_at (by simpa [intItems] using hP)
  obtain ⟨h1, h2⟩ := argBest_lt (numAt xs) (xs.size - 1)
  have hs2 : (intItems xs).size = xs.size := by simp [intItems]
  refine h h' tk _ t (it_keep hk) ?_ fun a ha => ?_
  · rw [numAt_eq]; exact PySem.getD_mem (by rw [List.length_map, Array.length_toList]; omega)
  · obtain ⟨j, hj, rfl⟩ := mem_getD ha
    rw [List.length_map, Array.length_toList] at hj
    rw [← numAt_eq]; exact h2 j (by omega)
end
section
variable {X : Cx}
theorem cr_maxT (hc : X.calm = true) : CallR X (.builtin "max") (fun vs H Q => ∃ (a : Addr) (ns : List Int), vs = [V.ref a] ∧ SqT X.K H a (ns.map V.int) ∧ 0 < ns.length ∧ ∀ m, m ∈ ns → (∀ y, y ∈ ns → y ≤ m) → Q (.int m) H) := by
  intro pins s σ H vs us Q I r ⟨a, ns, e, hs, hne, q⟩
  subst e
  obtain ⟨its, rv, hl, _⟩ := I.tuple hs
  rw [Vals.ref1 r]
  exact maxT_raw (I.ok.hd hc) hl rv.ints hne fun h' tk m t' hk h1 h2 => ⟨.int _, H, I.kept hk, ⟨_, rfl⟩, q m h1 h2⟩
theorem cr_minT (hc : X.calm = true) : CallR X (.builtin "min") (fun vs H Q => ∃ (a : Addr) (ns : List Int), vs = [V.ref a] ∧ SqT X.K H a (ns.map V.int) ∧ 0 < ns.length ∧ ∀ m, m ∈ ns → (∀ y, y ∈ ns → m ≤ y) → Q (.int m) H) := by
  intro pins s σ H vs us Q I r ⟨a, ns, e, hs, hne, q⟩
  subst e
  obtain ⟨its, rv, hl, _⟩ := I.tuple hs
  rw [Vals.ref1 r]
  exact minT_raw (I.ok.hd hc) hl rv.ints hne fun h' tk m t' hk h1 h2 => ⟨.int _, H, I.kept hk, ⟨_, rfl⟩, q m h1 h2⟩
end
theorem foldMax_ok : ∀ (r : List Int) (a : Int), foldMax a r ∈ a :: r ∧ ∀ y ∈ a :: r, y ≤ foldMax a r
  | [], a => ⟨List.mem_cons_self, fun y hy => by rw [List.mem_singleton.mp hy]; exact Int.le_refl _⟩
  | b :: r, a => by
    unfold foldMax
    by_cases h : b > a
    · rw [if_pos h]
      obtain ⟨h1, h2⟩ := foldMax_ok r b
      refine ⟨List.mem_cons_of_mem _ h1, fun y hy => ?_⟩
      rcases List.mem_cons.mp hy with rfl | hy
      · have := h2 b List.mem_cons_self
        omega
      · exact h2 y hy
    · rw [if_neg h]
      obtain ⟨h1, h2⟩ := foldMax_ok r a
      refine ⟨?_, fun y hy => ?_⟩
      · rcases List.mem_cons.mp h1 with e | e
        · rw [e]; exact List.mem_cons_self
        · exact List.mem_cons_of_mem _ (List.mem_cons_of_mem _ e)
      · rcases List.mem_cons.mp hy with rfl | hy
        · exact h2 y List.mem_cons_self
        · rcases List.mem_cons.mp hy with rfl | hy
          · have := h2 a List.mem_cons_self
            omega
          · exact h2 y (List.mem_cons_of_mem _ hy)
theorem foldMin_ok : ∀ (r : List Int) (a : Int), foldMin a r ∈ a :: r ∧ ∀ y ∈ a :: r, foldMin a r ≤ y
  | [], a => ⟨List.mem_cons_self, fun y hy => by rw [List.mem_singleton.mp hy]; exact Int.le_refl _⟩
  | b :: r, a => by
    unfold foldMin
    by_cases h : b < a
    · rw [if_pos h]
      obtain ⟨h1, h2⟩ := foldMin_ok r b
      refine ⟨List.mem_cons_of_mem _ h1, fun y hy => ?_⟩
      rcases List.mem_cons.mp hy with rfl | hy
      · have := h2 b List.mem_cons_self
        omega
      · exact h2 y hy
    · rw [if_neg h]
      obtain ⟨h1, h2⟩ := foldMin_ok r a
      refine ⟨?_, fun y hy => ?_⟩
      · rcases List.mem_cons.mp h1 with e | e
        · rw [e]; exact List.mem_cons_self
        · exact List.mem_cons_of_mem _ (List.mem_cons_of_mem _ e)
      · rcases List.mem_cons.mp hy with rfl | hy
        · exact h2 y List.mem_cons_self
        · rcases List.mem_cons.mp hy with rfl | hy
          · have := h2 a List.mem_cons_self
            omega
          · exact h2 y (List.mem_cons_of_mem _ hy)
end EV

/-! xs[::-1] of a list or of a text. -/
namespace EV
open PySem PySem.Spec PyProof.Rows L2
def revS (x : Str) : Str := ⟨x.cps.toList.reverse.toArray⟩
theorem rv_pick (x : Str) : (Builtin.Str.strSliceIndices none none (-1) x.length).filterMap (x.cps[·]?) = x.cps.toList.reverse := by
  show ((sliceRange ((x.cps.size : Int) - 1) (-1) (-1)).filterMap (x.cps[·]?)) = _
  rw [PySem.W.krv_sliceRange, PySem.W.krv_range, List.filterMap_reverse, PySem.W.krv_all]
def tRevA (K : PySem.W.Frag) (te : TE) : TE := fun σ H Q => te σ H fun x H1 => (∃ a xs, x = .ref a ∧ SqL K H1 a xs ∧ ∀ p, H1 p = none → Q (.ref p) (upd H1 p (.lst xs.reverse))) ∨ ∃ z : Str, x = .str z ∧ z.length ≤ sizeLine ∧ Q (.str (revS z)) H1
theorem pe_revA {X : Cx} {e : Expr} {te : TE} {k : Nat} {p1 p2 p3 pos : Pos} (he : PE X e te) : PE X (.Subscript e (.Slice none none (some (.UnaryOp .USub (.Constant (.int 1) k p1) p2)) p3) pos) (tRevA X.K te) := by
  refine ⟨fun pins s σ H Q I h => Subscript_ (thn (he.run pins s σ H _ I h) fun v s1 ⟨x, H1, I1, r1, q1⟩ => ?_)⟩
  have hst : PO X (some (.UnaryOp .USub (.Constant (.int 1) k p1) p2)) (tPart (tUn (rU fun i => .int (-i)) (tC (.int 1)))) := po_some (pe_un un_neg pe_int)
  refine wpAny_Slice (thn (po_none.run pins s1 σ H1 (fun o H2 => o = none ∧ H2 = H1) I1 ⟨rfl, rfl⟩) fun vl s2 ⟨l, H2, I2, pl, el, e2⟩ => ?_)
  subst el e2
  refine thn (po_none.run pins s2 σ H2 (fun o H3 => o = none ∧ H3 = H2) I2 ⟨rfl, rfl⟩) fun vu s3 ⟨u, H3, I3, pu, eu, e3⟩ => ?_
  subst eu e3
  refine thn (hst.run pins s3 σ H3 (fun o H4 => o = some (-1) ∧ H4 = H3) I3 ⟨1, rfl, -1, rfl, rfl, rfl⟩) fun vs s4 ⟨o, H4, I4, ps, eo, e4⟩ => ?_
  subst eo e4
  have I5 : Inv X pins σ H4 { s4 with heap := s4.heap.push { cls := .type "slice", data := .fields #[vl, vu, vs] } } := I4.kept (t' := s4.toks) fun b ob q => Heap.get?_push_of_some _ q
  rcases q1 with ⟨a, xs, rfl, hx, q⟩ | ⟨z, rfl, hz, q⟩
  · cases r1
    obtain ⟨its, r, ht, hz⟩ := I5.list hx
    have hlen := r.length
    show wpAny (model X.prog X.w) X.A (subscriptTail e (.Slice none none (some (.UnaryOp .USub (.Constant (.int 1) k p1) p2)) p3) (.ref a) (.ref s4.heap.objs.size)) (EP X pins σ Q) X.xe { s4 with heap := s4.heap.push { cls := .type "slice", data := .fields #[vl, vu, vs] } }
    refine tail_any (ops := [.ref a, .ref s4.heap.objs.size]) ht.isList.typeIs (PySem.slot_list_getitem.lookup) (wpAny_getItem_list_slice ht.isList (Heap.IsSliceOf.new _ vl vu vs) pl pu ps (by decide) ?_ (by rw [List.size_toArray]; omega)) (by with_unfolding_all rfl)
    rw [PySem.W.krv_pick]
    exact ⟨.ref _, _, I5.laid (t' := s4.toks) (o := .lst xs.reverse) (fun b ob q => Heap.get?_push_of_some _ q) (Nat.le_refl _) ⟨by rw [List.length_reverse]; exact hz, _, 0, r.reverse, Heap.get?_push_size _ rfl⟩, rfl, q _ (I5.hok.fresh (Nat.le_refl _))⟩
  · obtain ⟨t, rfl⟩ := r1
    obtain ⟨l1, rfl, el⟩ := IsPart.raw pl
    obtain ⟨u1, rfl, eu⟩ := IsPart.raw pu
    obtain ⟨t1, rfl, et⟩ := IsPart.raw ps
    show wpAny (model X.prog X.w) X.A (subscriptTail e (.Slice none none (some (.UnaryOp .USub (.Constant (.int 1) k p1) p2)) p3) (.str z t) (.ref s4.heap.objs.size)) (EP X pins σ Q) X.xe _
    refine tail_any (ops := [.str z t, .ref s4.heap.objs.size]) (typeIs_str _ _ _) PySem.F.slot_str_getitem.lookup (wpAny_getItem_str_slice (l := l1) (u := u1) (st := t1) ⟨_, Heap.get?_push_size _ rfl, rfl, rfl⟩ ?_ ?_) (by with_unfolding_all rfl)
    · rw [et]; rfl
    · have e1 : slicePicked z l1 u1 t1 = Builtin.Str.strSliceIndices none none (-1) z.length := by
        unfold slicePicked
        rw [el, eu, et]; rfl
      unfold sliceMade
      rw [e1, rv_pick, if_neg (by rw [et]; exact Bool.false_ne_true)]
      have hl : (revS z).length ≤ sizeLine := by
        show (z.cps.toList.reverse.toArray).size ≤ sizeLine
        rw [List.size_toArray, List.length_reverse, Array.length_toList]
        exact hz
      exact ⟨hl, .str _, H4, I5.tok _, ⟨_, rfl⟩, q⟩
end EV

/-! enumerate(t) of a tuple. -/
namespace EV
open PySem PySem.Spec PyProof.Rows L2
theorem en_new (l : Addr) (its : Array Value) :
    Meets (Builtin.«enumerate.__new__» ⟨[.type "enumerate", .ref l], []⟩) (fun _ R s => s.heap.IsTuple l its ∧
      R (.ok (.ret (.ref (s.heap.push { cls := .type "tuple_iterator", data := .fields #[.ref l, .int 0 0] }).objs.size)))
        { s with heap := (s.heap.push { cls := .type "tuple_iterator", data := .fields #[.ref l, .int 0 0] }).push { cls := .type "enumerate", data := .fields #[.none, .bool false, .ref s.heap.objs.size, rawInt 0, .none, .none] } }) :=
  .of_wp fun prog w A R s h => by
    obtain ⟨hp, g, d, tk, os⟩ := s
    obtain ⟨hl, h⟩ := h
    have hsub := PySem.sub_enumerate
    have hL : Heap.IsTuple (Shared.heap ⟨hp, g, d, tk, os⟩) l its := hl
    wp_walk
    refine wpAny_stack_any fun st => wpAny_pure ?_
    split
    · rename_i c _ _ _ _ _
      cases (c == Value.type "enumerate")
      · wp_walk using wpAny_pyIter_tuple hL
        exact ⟨_, rfl, h⟩
      · wp_walk using wpAny_pyIter_tuple hL
        exact ⟨_, rfl, h⟩
    · wp_walk using wpAny_pyIter_tuple hL
      exact ⟨_, rfl, h⟩
section
variable {prog : Program} {w : World} {A : Around} {E : Value → Shared → Prop} {s : Shared}
theorem en_dr (hh : A.handled = none) (it l : Addr) (ne : l ≠ it) (its : Array Value) :
    Draws prog w A it [it, l] its.size (fun i v => its[i]? = some v) (fun i h => h.IsTupleIter it l i ∧ h.IsTuple l its) where
  live := fun _ _ st => let ⟨o, ho, _⟩ := st.1; ⟨o, ho⟩
  frame := fun _ _ _ st k => ⟨st.1.at fun o e => k it List.mem_cons_self o e, st.2.at fun o e => k l (List.mem_cons_of_mem _ List.mem_cons_self) o e⟩
  item := fun i s Q E hi st hQ => RZ.nextOf_tuple_item st.1 st.2 (x := its[i]) (Array.getElem?_eq_getElem hi) fun h' a b => hQ _ h' s.toks (Array.getElem?_eq_getElem hi) ⟨a, st.2.extBut b.extBut ne⟩ b
  done := fun s Q E st hE => RZ.nextOf_tuple_end hh st.1 st.2 (Array.getElem?_eq_none (Nat.le_refl _)) fun h' e a b => hE h' e a b
theorem en_call {l : Addr} {its : Array Value} {Q : Value → Shared → Prop} (hL : s.heap.IsTuple l its)
    (h : ∀ h', IsEnum h' (s.heap.objs.size + 1) s.heap.objs.size 0 .none → h'.IsTupleIter s.heap.objs.size l 0 → (∀ b o, s.heap.get? b = some o → h'.get? b = some o) → Q (.ref (s.heap.objs.size + 1)) { s with heap := h' }) :
    wpAny (model prog w) A (call (.type "enumerate") [.ref l]) Q E s := by
  refine callType_new PySem.F.called_enumerate (by decide) (PySem.F.typeCall_enumerate_1 _) (PySem.F.newCall_enumerate_1 _) (fun obj => PySem.F.args_object_init_2 obj _) PySem.F.entry_enumerate_new (en_new l its) ⟨hL, ?_⟩
  have hz : (s.heap.push { cls := .type "tuple_iterator", data := .fields #[.ref l, .int 0 0] }).objs.size = s.heap.objs.size + 1 := Heap.size_push ..
  have e0 := Heap.get?_push_size (s.heap.push { cls := .type "tuple_iterator", data := .fields #[.ref l, .int 0 0] }) (o := { cls := .type "enumerate", data := .fields #[.none, .bool false, .ref s.heap.objs.size, rawInt 0, .none, .none] }) rfl
  rw [hz] at e0
  show _ ∧ _
  rw [hz]
  exact ⟨⟨_, e0, rfl⟩, h _ e0 ⟨_, Heap.get?_push_of_some _ (Heap.get?_push_size _ rfl), rfl, rfl⟩ fun b o q => Heap.get?_push_of_some _ (Heap.get?_push_of_some _ q)⟩
end
def IteT (K : PySem.W.Frag) (a : Addr) : L2.It :=
  ⟨fun i H => ∃ (xs : List V) (x : V), SqT K H a xs ∧ xs[i]? = some x, fun i H v H' => ∃ T x, v = .ref T ∧ H T = none ∧ H' = upd H T (.tup [.int (i : Nat), x]) ∧ ∀ xs, SqT K H a xs → xs[i]? = some x, fun i H => ∃ xs : List V, SqT K H a xs ∧ xs.length ≤ i⟩
theorem turn_enT {P : Program} {w : World} {K : PySem.W.Frag} {elts : List Expr} {kk : Nat} {tpos : Pos} (a e it : Addr) :
    Turn P w K (.Tuple elts kk tpos) (IteT K a) [e, it] e (fun i h => (∃ old, IsEnum h e it ((i : Nat) : Int) old) ∧ h.IsTupleIter it a i ∧ e ≠ it ∧ a ≠ it ∧ a ≠ e) where
  mem := List.mem_cons_self
  obj := fun i h st b hb => by
    obtain ⟨⟨old, he⟩, ⟨o, ho, hc, hd⟩, _⟩ := st
    rcases List.mem_cons.mp hb with z | hb
    · rw [z]; exact ⟨_, he, fun v q => nomatch q⟩
    · rw [List.mem_singleton.mp hb]; exact ⟨o, ho, fun v q => by rw [hd] at q; cases q⟩
  keep := fun i h h' st k => let ⟨⟨old, he⟩, hi, hne⟩ := st; ⟨⟨old, k e List.mem_cons_self _ he⟩, hi.at fun o q => k it (List.mem_cons_of_mem _ List.mem_cons_self) o q, hne⟩
  item := by
    intro X hP hw hK hc i pins s σ H E I hf st hg
    subst hP hw hK
    obtain ⟨⟨old, he⟩, hit, hne, n1, n2⟩ := st
    obtain ⟨xs, x, hq, hx⟩ := hg
    obtain ⟨its, rv, p, hz⟩ := I.tuple hq
    obtain ⟨u, hu, ru⟩ := rv.get hx
    have hel : e < s.heap.objs.size := Heap.lt_size he
    have hil : it < s.heap.objs.size := by
      obtain ⟨_, q, _⟩ := hit
      exact Heap.lt_size q
    have hi : i < its.toArray.size := by
      rw [List.size_toArray]
      exact (List.getElem?_eq_some_iff.mp hu).1
    have hit0 : e ∉ [it, a] := fun hm => by
      rcases List.mem_cons.mp hm with z | hm
      · exact hne z
      · exact n2 (List.mem_singleton.mp hm).symm
    refine wpAny_pyNext_enum_itemD (en_dr (A := X.A.in1) (I.ok.hd hc) it a n1 its.toArray) he ⟨hit, p⟩ hi hne hit0 fun y h' tk hy ho st' hT hsz hk => ?_
    have ey : y = u := by
      have hy : its.toArray[i]? = some y := hy
      have hu' : its.toArray[i]? = some u := by simpa using hu
      rw [hu'] at hy; cases hy; rfl
    subst ey
    refine ⟨_, rfl, wpAny_letOwnedTupleGo_enum (s := { s with heap := h', toks := tk + 1 }) ho fun h'' he' sb => ?_⟩
    have hT2 : h''.get? s.heap.objs.size = some { cls := .type "tuple", data := .seq #[.int i tk, y] } := (sb.2 _ (Nat.ne_of_gt hel)).trans hT
    have new : ObjOk X.prog X.w (upd H s.heap.objs.size (.tup [.int (i : Nat), x])) h'' s.heap.objs.size (.tup [.int (i : Nat), x]) := ⟨by show 2 ≤ sizeLine; decide, [.int i tk, y], .cons ⟨_, rfl⟩ (.cons ru .nil), ⟨_, hT2, rfl, _, rfl⟩⟩
    have I1 : Inv X pins σ (upd H s.heap.objs.size (.tup [.int (i : Nat), x])) { s with heap := h'', toks := tk + 1 } :=
      I.turnedNew (ch := [e, it]) (fun b ob hb q => (sb.2 b (fun z => hb (by simp [z]))).trans (hk b ob (fun z => hb (by simp [z])) (fun z => hb (by simp [z])) q)) hf (Nat.le_refl _) new
    refine ⟨.ref s.heap.objs.size, _, I1, rfl, ⟨_, x, rfl, I.hok.fresh (Nat.le_refl _), rfl, fun ys hy => by rw [I.tuple_inj hy hq]; exact hx⟩, ⟨⟨y, ?_⟩, st'.1.at fun o q => (sb.2 it (Ne.symm hne)).trans q, hne, n1, n2⟩, fun b hb => ?_⟩
    · rw [show ((i + 1 : Nat) : Int) = (i : Int) + 1 by omega]
      exact he'
    · have hb' : b < s.heap.objs.size := by
        rcases List.mem_cons.mp hb with z | hb
        · rw [z]; exact hel
        · rw [List.mem_singleton.mp hb]; exact hil
      rw [upd_ne (Nat.ne_of_lt hb')]
      exact (hf b hb).1
  done := by
    intro X hP hw hK hc i pins s σ H E I hf st hg
    subst hP hw hK
    obtain ⟨⟨old, he⟩, hit, hne, n1, n2⟩ := st
    obtain ⟨xs, hq, hx⟩ := hg
    obtain ⟨its, rv, p, hz⟩ := I.tuple hq
    obtain ⟨f0, f1, f2, f3, f4, f5⟩ := hf it (List.mem_cons_of_mem _ List.mem_cons_self)
    have hT : s.TypeIs (.ref e) "enumerate" := ⟨_, he, rfl⟩
    have hl := rv.length
    unfold pyNext
    refine wpAny_bind (wpAny_attempt (wpAny_callSpecial?_slot (name := Str.ofString "__next__") hT PySem.F.slot_enumerate_next (wpAny_call_entry PySem.F.slot_enumerate_next hT PySem.F.entry_enumerate_next ?_ (PySem.F.args_enumerate_next_1 _))))
    show wpAny _ _ (field (.ref e) 2 >>= _) _ _ _
    refine wpAny_bind (wpAny_field he rfl (x := .ref it) rfl (wpAny_bind (RZ.nextOf_tuple_end (I.ok.hd hc) hit (show s.heap.IsTuple a its.toArray from p) (by simp; omega) fun h' x k1 hx' => ?_)))
    obtain ⟨o, ho, hcl⟩ := hx'
    exact wpAny_bind (wpAny_isInstance (T := "StopIteration") (b := true) ⟨o, ho, hcl⟩ isSubtype_stop (wpAny_pure ⟨rfl, I.turned (t' := s.toks) (fun b o hb q => k1 b o hb q) f0 f1 f3 f4 f5⟩))
  self := fun A i s Q E st h => let ⟨⟨_, he⟩, _⟩ := st; wpAny_pyIter_enum he h
def iEnT (K : PySem.W.Frag) (ta : TA) : TI := fun σ H R => ta σ H fun vs H1 => ∃ a xs, vs = [.ref a] ∧ SqT K H1 a xs ∧ R (IteT K a) H1
theorem pi_enT {X : Cx} {e : Expr} {ta : TA} {p pos tpos : Pos} {elts : List Expr} {kk : Nat} (hg : Gl X "enumerate") (hm : X.mg "enumerate" = none) (ha : PA X [e] ta) (hs : starEach [e] X.env = [(false, eval e X.env)]) :
    PI X (.Tuple elts kk tpos) (.Call (.Name "enumerate" p) [e] [] pos) (iEnT X.K ta) := by
  refine ⟨fun pins s σ H R I h => ?_⟩
  refine Call_ (ld_blt I hg hm boot_enumerate (PyProof.Rows.callWith_type1 (thn (ha.run pos pins s σ H _ I h) fun us s1 ⟨vs, H1, I1, r1, q1⟩ => ?_) hs rfl))
  obtain ⟨a, xs, rfl, hq, q⟩ := q1
  rw [Vals.ref1 r1]
  obtain ⟨its, rv, p', hz⟩ := I1.tuple hq
  have hlt : a < s1.heap.objs.size := p'.lt
  refine en_call (show s1.heap.IsTuple a its.toArray from p') fun h' he hit hk => wpAny_pyIter_enum he ?_
  have I2 : Inv X pins σ H1 { s1 with heap := h' } := I1.kept (t' := s1.toks) hk
  refine ⟨s1.heap.objs.size + 1, [s1.heap.objs.size + 1, s1.heap.objs.size], _, _, H1, rfl, I2, turn_enT a (s1.heap.objs.size + 1) s1.heap.objs.size, ⟨⟨.none, he⟩, hit, Nat.succ_ne_self _, Nat.ne_of_lt hlt, Nat.ne_of_lt (Nat.lt_succ_of_lt hlt)⟩, fun b hb => ?_, q⟩
  have hle : s1.heap.objs.size ≤ b := by
    rcases List.mem_cons.mp hb with z | hb
    · rw [z]; exact Nat.le_add_right _ _
    · rw [List.mem_singleton.mp hb]; exact Nat.le_refl _
  exact I1.fpOk hle (I1.hok.fresh hle)
end EV

/-! t * k of a tuple that is not empty. -/
namespace EV
open PySem PySem.Spec PyProof.Rows L2
theorem tm_one (l : Addr) (items : Array Value) (n : Nat) (dd : Option Addr) (sl : Array (Option Value)) (u : Tok) :
    Meets (Builtin.«tuple.__mul__» ⟨[.ref l, .int 1 u], []⟩) (fun _ R s => s.heap.get? l = some { cls := .type "tuple", dict := dd, data := .seq items n, slots := sl } ∧ R (.ok (.ret (Value.ref l))) s) :=
  .of_wp fun prog w A R s h => by
    obtain ⟨hp, g, d, tk, os⟩ := s
    obtain ⟨hl, h⟩ := h
    have f1 := AutoSeq1.idx_int
    have c1 : (items.isEmpty || (1 : Int) == 1) = true := by rw [Bool.or_eq_true]; exact .inr rfl
    wp_walk using wpAny_loadPart' hl
    repeat (first
      | (refine wpAny_ite_true (decide_eq_true c1) ?_; wp_walk using wpAny_loadPart' hl)
      | (refine wpAny_ite_true c1 ?_; wp_walk using wpAny_loadPart' hl)
      | (rw [if_pos c1]; wp_walk using wpAny_loadPart' hl))
    all_goals exact ⟨_, rfl, h⟩
theorem tm_none (l : Addr) (items : Array Value) (n : Nat) (dd : Option Addr) (sl : Array (Option Value)) (x : Int) (u : Tok) (c0 : (decide (x < -(2 ^ 63)) || decide (x ≥ 2 ^ 63)) = false) (c1 : (items.isEmpty || x == 1) = false) (c2 : (decide (x ≤ 0) || items.isEmpty) = true) :
    Meets (Builtin.«tuple.__mul__» ⟨[.ref l, .int x u], []⟩) (fun _ R s => s.heap.get? l = some { cls := .type "tuple", dict := dd, data := .seq items n, slots := sl } ∧
      R (.ok (.ret (Value.ref s.heap.objs.size))) { s with heap := s.heap.push { cls := Value.type "tuple", data := Data.seq #[] }, toks := s.toks }) :=
  .of_wp fun prog w A R s h => by
    obtain ⟨hp, g, d, tk, os⟩ := s
    obtain ⟨hl, h⟩ := h
    have f1 := AutoSeq1.idx_int
    wp_walk using wpAny_loadPart' hl
    repeat (first
      | (refine wpAny_ite_false (decide_eq_false (by rw [c0]; exact Bool.false_ne_true)) ?_; wp_walk using wpAny_loadPart' hl)
      | (refine wpAny_ite_false (decide_eq_false (by rw [c1]; exact Bool.false_ne_true)) ?_; wp_walk using wpAny_loadPart' hl)
      | (refine wpAny_ite_true (decide_eq_true c2) ?_; wp_walk using wpAny_loadPart' hl)
      | (rw [if_pos c2]; wp_walk using wpAny_loadPart' hl))
    all_goals exact ⟨_, rfl, h⟩
def rMulT (K : PySem.W.Frag) : R2 := fun x y H Q => ∃ l k xs, x = .ref l ∧ y = .int k ∧ SqT K H l xs ∧ xs ≠ [] ∧ -1000 ≤ k ∧ k ≤ 1000 ∧ xs.length ≤ 1000 ∧ (k = 1 → Q (.ref l) H) ∧
  (k ≠ 1 → ∀ p o, H p = none → o.dict = none → Q (.ref p) (upd H p (.frz o (.tup (List.replicate k.toNat xs).flatten))))
section
variable {X : Cx}
theorem op_mulT : OpR X (binaryOp .Mult) (rMulT X.K) := by
  intro pins s σ H x y v u Q I rx ry h
  obtain ⟨l, k, xs, rfl, rfl, hT, hne, h1, h2, hz, q1, q2⟩ := h
  cases rx
  obtain ⟨t, rfl⟩ := ry
  obtain ⟨its, r, ⟨⟨cls, dd, data, sl⟩, ho, hc, n, hd⟩, hs⟩ := I.tuple hT
  simp only at hc hd
  subst hc hd
  have hle : its.length = xs.length := r.length.symm
  have hi : its.toArray.isEmpty = false := by
    cases its with
    | nil => exact absurd (List.eq_nil_of_length_eq_zero hle.symm) hne
    | cons a b => rfl
  have hsz0 : its.toArray.size = xs.length := by rw [List.size_toArray, hle]
  have c0 : (decide (k < -(2 ^ 63)) || decide (k ≥ 2 ^ 63)) = false := by rw [decide_eq_false (by omega), decide_eq_false (by omega)]; rfl
  refine wpAny_binaryOp_repeat_ref (T := "tuple") (U := "int") (by decide) ⟨_, ho, rfl⟩ (fun s' => typeIs_int s' k t) noFill_tuple_mul PySem.F.fills_int_mul PySem.F.slot_int_rmul repeat_tuple PySem.F.slot_int_index.lookup
    (call_meets PySem.F.slot_int_rmul (typeIs_int s k t) PySem.F.entry_int_rmul (PySem.F.args_int_rmul_2 _ _) (int_rmul_tuple k t l its.toArray n dd sl) ⟨ho, rfl, ⟨_, ho, rfl⟩, ?_⟩)
  by_cases e1 : k = 1
  · subst e1
    exact call_meets PySem.F.slot_tuple_mul ⟨_, ho, rfl⟩ PySem.F.entry_tuple_mul (PySem.F.args_tuple_mul_2 _ _) (tm_one l its.toArray n dd sl t) ⟨ho, .ref l, H, I, rfl, q1 rfl⟩
  have c1 : (its.toArray.isEmpty || k == 1) = false := by rw [hi, Bool.false_or]; exact beq_eq_false_iff_ne.mpr e1
  by_cases e2 : k ≤ 0
  · have c2 : (decide (k ≤ 0) || its.toArray.isEmpty) = true := by rw [decide_eq_true e2]; rfl
    refine call_meets PySem.F.slot_tuple_mul ⟨_, ho, rfl⟩ PySem.F.entry_tuple_mul (PySem.F.args_tuple_mul_2 _ _) (tm_none l its.toArray n dd sl k t c0 c1 c2) ⟨ho, ?_⟩
    have e3 : k.toNat = 0 := by omega
    have q3 := q2 e1 s.heap.objs.size { cls := .type "tuple", data := .seq #[] } (I.hok.fresh (Nat.le_refl _)) rfl
    rw [e3] at q3
    refine ⟨.ref s.heap.objs.size, _, I.laid (t' := s.toks) (o := .frz { cls := .type "tuple", data := .seq #[] } (.tup [])) (fun b ob q => Heap.get?_push_of_some _ q) (Nat.le_refl _) ?_, rfl, q3⟩
    exact ⟨Heap.get?_push_size _ rfl, Nat.zero_le _, [], .nil, ⟨_, Heap.get?_push_size _ rfl, rfl, _, rfl⟩⟩
  · have hm : ((its.toArray.size : Nat) : Int) * k ≤ 1000000 := by
      rw [hsz0]
      have a1 : ((xs.length : Nat) : Int) * k ≤ 1000 * k := Int.mul_le_mul_of_nonneg_right (by omega) (by omega)
      omega
    have flen : (List.replicate k.toNat its).flatten.length ≤ sizeLine := by
      rw [PyProof.Rows.lm_len_rep_flat, hle, sizeLine_eq]
      have a1 : k.toNat * xs.length ≤ 1000 * 1000 := Nat.mul_le_mul (by omega) hz
      omega
    have flen2 : (List.replicate k.toNat xs).flatten.length ≤ sizeLine := by
      rw [PyProof.Rows.lm_len_rep_flat, sizeLine_eq]
      have a1 : k.toNat * xs.length ≤ 1000 * 1000 := Nat.mul_le_mul (by omega) hz
      omega
    have c2 : (decide (k ≤ 0) || its.toArray.isEmpty) = false := by rw [hi, Bool.or_false]; exact decide_eq_false e2
    have c4 : Builtin.Tuple.tupleTooMany (((its.toArray.size : Nat) : Int) * k) = false := by
      unfold Builtin.Tuple.tupleTooMany
      rw [sizeLine_eq]
      exact decide_eq_false (by omega)
    refine call_meets PySem.F.slot_tuple_mul ⟨_, ho, rfl⟩ PySem.F.entry_tuple_mul (PySem.F.args_tuple_mul_2 _ _) (tuple_mulW l its.toArray n dd sl k t c0 c1 c2 (by omega) c4 (by rw [size_rep, List.size_toArray]; exact flen)) ⟨ho, ?_⟩
    rw [size_rep]
    refine ⟨.ref s.heap.objs.size, _, I.laid (t' := s.toks) (o := .frz { cls := .type "tuple", data := .seq (List.replicate k.toNat its).flatten.toArray } (.tup (List.replicate k.toNat xs).flatten)) (fun b ob q => Heap.get?_push_of_some _ q) (Nat.le_refl _) ?_, rfl, q2 e1 _ _ (I.hok.fresh (Nat.le_refl _)) rfl⟩
    exact ⟨Heap.get?_push_size _ rfl, flen2, _, r.rep k.toNat, ⟨_, Heap.get?_push_size _ rfl, rfl, _, rfl⟩⟩
end
end EV

/-! sorted of a tuple, sorted of a dict's keys. -/
namespace EV
open PySem PySem.Calls PySem.W PyProof.Rows
section
variable {prog : Program} {w : World} {A : Around} {E : Value → Shared → Prop} {s : Shared}
theorem collect_tup {l : Addr} {vs : List Value} {Q : List Value → Shared → Prop} (hl : s.heap.IsTuple l vs.toArray)
    (h : Q vs { s with heap := (s.heap.push (seqObj "list" #[] 0)).update s.heap.objs.size (Obj.mapSeq (· ++ vs.toArray)) }) (hsz : vs.length ≤ sizeLine := by size_fits) :
    wpAny (model prog w) A (collect (.ref l)) Q E s := by
  obtain ⟨o, ho, hc, n, hd⟩ := id hl
  unfold collect
  refine wpAny_bind (wpAny_runValue (codeAny_builtin entry_proto_collect' ?_))
  show wpAny _ _ (do again (.builtin "list.__iadd__" ⟨[← newList [], .ref l], []⟩)) _ _ s
  refine wpAny_bind (wpAny_newList (wpAny_pure ⟨Code.quiet_builtin _ (by decide +kernel), codeAny_builtin entry_list_iadd' ?_⟩))
  show wpAny _ _ (Builtin.List.listExtendWith (.ref s.heap.objs.size) (.ref l) (.ref s.heap.objs.size)) _ _ { s with heap := s.heap.push (seqObj "list" #[] 0) }
  unfold Builtin.List.listExtendWith
  have ho' : (s.heap.push (seqObj "list" #[] 0)).get? l = some o := Heap.get?_push_of_some _ ho
  refine wpAny_bind (wpAny_typeOf (T := "tuple") ⟨o, ho', hc⟩ ?_)
  rw [if_pos (by rw [show (Value.type "tuple" == Value.type "tuple") = true from rfl]; simp)]
  refine wpAny_bind (listItems_at ho' hd ?_)
  refine wpAny_bind (listItems_at (xs := #[]) (n := 0) (Heap.get?_push_size _ rfl) rfl ?_)
  rw [if_neg (by simp)]
  refine wpAny_bind (listUpdate_at (xs := #[]) (n := 0) (Heap.get?_push_size _ rfl) rfl ?_ (Nat.zero_le _) (by show (#[] ++ vs.toArray).size ≤ sizeLine + 1; simp only [Array.size_append, List.size_toArray, List.length_nil]; omega))
  refine wpAny_pure ?_
  show wpAny (model prog w) A (do
      let o ← load s.heap.objs.size
      match o.data with
      | .seq xs _ => pure xs.toList
      | _ => unsupported "internal:collect") Q E { s with heap := (s.heap.push (seqObj "list" #[] 0)).update s.heap.objs.size (Obj.mapSeq (· ++ vs.toArray)) }
  refine wpAny_bind (wpAny_load (get?_update_seq (Heap.get?_push_size _ rfl) _) ?_)
  show wpAny _ _ (pure ((#[] : Array Value) ++ vs.toArray).toList) Q E _
  rw [show ((#[] : Array Value) ++ vs.toArray).toList = vs by simp]
  exact wpAny_pure h
theorem sorted_of_sortT {l : Addr} {vs : List Value} {kw : List (Str × Value)} {Q : Value → Shared → Prop} (hl : s.heap.IsTuple l vs.toArray) (hL : vs.length ≤ sizeLine) (ha1 : argsOk "sorted" ⟨[.ref l], kw⟩) (ha2 : ∀ x, argsOk "list.sort" ⟨[.ref x], kw⟩)
    (body : ∀ E' : Value → Shared → Prop, wpAny (model prog w) A.in1.in1 (Builtin.«list.sort» ⟨[.ref (s.heap.objs.size + 1)], kw⟩) (fun f s' => f = .done (.ret .none) ∧ Q (.ref (s.heap.objs.size + 1)) s') E' { s with heap := copyHeap s.heap vs }) :
    wpAny (model prog w) A (call (.builtin "sorted") [.ref l] kw) Q E s := by
  refine call_function_entry_kw kind_sorted plain_sorted entry_sorted ha1 ?_
  unfold Builtin.«sorted»
  refine wpAny_bind (m := checkCount "sorted" 1 1 _) (wpAny_pure ?_)
  refine wpAny_bind (collect_tup hl ?_ hL)
  refine wpAny_bind (wpAny_newList ?_ hL)
  have hsz : ((s.heap.push (seqObj "list" #[] 0)).update s.heap.objs.size (Obj.mapSeq (· ++ vs.toArray))).objs.size = s.heap.objs.size + 1 := by
    rw [Heap.size_update, size_push']
  show wpAny _ _ _ _ _ { s with heap := copyHeap s.heap vs }
  rw [hsz]
  refine wpAny_bind (wpAny_holding (wpAny_call_entry_kw slot_list_sort ⟨_, copyHeap_at s.heap vs, rfl⟩ entry_list_sort ?body (ha2 _)))
  case body =>
    show wpAny (model prog w) A.in1.in1 (Builtin.«list.sort» ⟨[.ref (s.heap.objs.size + 1)], kw⟩) _ _ _
    refine wpAny_mono (body _) (fun f s' hf => ?_) fun _ _ e => e
    obtain ⟨rfl, hq⟩ := hf
    exact ⟨_, rfl, wpAny_pure ⟨_, rfl, hq⟩⟩
variable {β : Type} {vs : List Value} {bs : List β} {R : Value → β → Prop} {enc : β → PyData}
theorem sorted_dataT {l : Addr} {Q : Value → Shared → Prop} (hl : s.heap.IsTuple l vs.toArray) (e : EachIs R vs bs) (er : EachIs (fun v b => ∃ as, Reads s.heap v (enc b) as) vs bs) (hal : AllAlike (bs.map enc)) (hk : Sortable (bs.map enc)) (hL : bs.length ≤ sizeLine)
    (hu : ∀ b, b ∈ bs → A.units + 2 + (enc b).depth < cLine) (h : ∀ out, out.length = bs.length → EachIs R out (bs.mergeSort (dataLe false enc)) → Q (.ref (s.heap.objs.size + 1)) { s with heap := sortedAll s.heap vs (List.toArray out) }) :
    wpAny (model prog w) A (call (.builtin "sorted") [.ref l]) Q E s := by
  have er' : EachIs (fun v b => ∃ as, Reads (sortingHeap (copyHeap s.heap vs) (s.heap.objs.size + 1) vs) v (enc b) as) vs bs := er.mono fun _ _ ⟨as, r⟩ => ⟨as, PyProof.Rows.Reads.keeps (fun _ _ => sorting_copy_old) r⟩
  have hL' : vs.length ≤ sizeLine := by rw [e.length]; exact hL
  refine sorted_of_sortT hl hL' (args_sorted1 _) (fun _ => args_list_sort _) fun _ => list_sort_vals (s := { s with heap := copyHeap s.heap vs }) (copyHeap_at s.heap vs) (SortsAt.data (s := { s with heap := sortingHeap (copyHeap s.heap vs) (s.heap.objs.size + 1) vs }) (each_map (R := fun v d => ∃ as, Reads (sortingHeap (copyHeap s.heap vs) (s.heap.objs.size + 1) vs) v d as) enc er') hal hk (bound_map hu)) hL' ⟨rfl, ?_⟩
  exact h _ (by rw [sortVals_length false rfl]; exact e.length) (sortVals_data false e er' hal)
/-- list or tuple -/
theorem sorted_dataLT {l : Addr} {Q : Value → Shared → Prop} (hl : s.heap.IsList l vs.toArray ∨ s.heap.IsTuple l vs.toArray) (e : EachIs R vs bs) (er : EachIs (fun v b => ∃ as, Reads s.heap v (enc b) as) vs bs) (hal : AllAlike (bs.map enc)) (hk : Sortable (bs.map enc)) (hL : bs.length ≤ sizeLine)
    (hu : ∀ b, b ∈ bs → A.units + 2 + (enc b).depth < cLine) (h : ∀ out, out.length = bs.length → EachIs R out (bs.mergeSort (dataLe false enc)) → Q (.ref (s.heap.objs.size + 1)) { s with heap := sortedAll s.heap vs (List.toArray out) }) :
    wpAny (model prog w) A (call (.builtin "sorted") [.ref l]) Q E s := by
  rcases hl with hl | hl
  · exact sorted_data hl e er hal hk hL hu h
  · exact sorted_dataT hl e er hal hk hL hu h
end
end EV

/-! What the trees come to is what the program does: expressions. -/
namespace EV
open PySem PySem.Spec PyProof.Rows L2

/-- an exception as told -/
def ExR (G : Gw) (μ τ : List Addr) (H : Hp) (x : Nat) (p : Option D) (c : Value) (dd : Option Addr) : Prop :=
  c = .ref (G.xc x) ∧ match p with
    | none => dd = none
    | some d => ∃ a v, dd = some a ∧ H a = some (.xd [(G.xf x, v)]) ∧ Rep G μ τ H d v

/-- what is wanted behind a result: of each state that it stands for -/
def Pst {α β : Type} (G : Gw) (W : WX) (σ : L2.St) (μ τ : List Addr) (H : Hp) (RP : List Addr → Hp → α → β → Prop) (r : R α) (Q : β → Hp → Prop) : Prop :=
  match r with
  | .ok d m' => ∀ v H' μ', Nxt μ τ H μ' τ H' → Good G μ' τ m' H' → RP μ' H' d v → Q v H'
  | .ex x p m' => ∀ c dd H' μ', Nxt μ τ H μ' τ H' → Good G μ' τ m' H' → ExR G μ' τ H' x p c dd → W c dd σ H'
  | .bad => False
def Slots (G : Gw) (μ τ : List Addr) (H : Hp) (ρ : Rho) (σ : L2.St) : Prop :=
  ρ.length = σ.length ∧ ∀ (i : Nat) (d : D), ρ[i]? = some (some d) → ∃ v, σ[i]? = some (some v) ∧ Rep G μ τ H d v
section
variable {G : Gw} {W : WX} {σ : L2.St} {μ τ μ' τ' : List Addr} {H H' : Hp} {m m' : Mem} {ρ : Rho} {α β γ δ : Type}
theorem Slots.nxt (s : Slots G μ τ H ρ σ) (g : Good G μ τ m H) (h : Nxt μ τ H μ' τ' H') : Slots G μ' τ' H' ρ σ :=
  ⟨s.1, fun i d e => let ⟨v, h1, h2⟩ := s.2 i d e; ⟨v, h1, h2.next h g⟩⟩
theorem Pst.bind {RP : List Addr → Hp → α → β → Prop} {RQ : List Addr → Hp → γ → δ → Prop} {r : R α} {k : α → Mem → R γ} {Q : δ → Hp → Prop} (h : Pst G W σ μ τ H RQ (r.bind k) Q) :
    Pst G W σ μ τ H RP r fun b H1 => ∃ a m1 μ1, Nxt μ τ H μ1 τ H1 ∧ Good G μ1 τ m1 H1 ∧ RP μ1 H1 a b ∧ Pst G W σ μ1 τ H1 RQ (k a m1) Q := by
  cases r with
  | bad => exact h
  | ex x p m1 => exact h
  | ok a m1 =>
    intro v H1 μ1 n g r
    refine ⟨a, m1, μ1, n, g, r, ?_⟩
    have h' : Pst G W σ μ τ H RQ (k a m1) Q := h
    cases hk : k a m1 with
    | bad => rw [hk] at h'; exact h'
    | ex x p m2 =>
      rw [hk] at h'
      exact fun c dd H' μ' n' g' r' => h' c dd H' μ' (n.trans n') g' r'
    | ok d m2 =>
      rw [hk] at h'
      exact fun v H' μ' n' g' r' => h' v H' μ' (n.trans n') g' r'
theorem Pst.imp {RP : List Addr → Hp → α → β → Prop} {r : R α} {Q Q' : β → Hp → Prop} (h : Pst G W σ μ τ H RP r Q) (hq : ∀ v H, Q v H → Q' v H) : Pst G W σ μ τ H RP r Q' := by
  cases r with
  | bad => exact h
  | ex x p m1 => exact h
  | ok a m1 => exact fun v H1 μ1 n g r => hq _ _ (h v H1 μ1 n g r)
/-- the value is told at once -/
theorem Pst.here {RP : List Addr → Hp → α → β → Prop} {a : α} {Q : β → Hp → Prop} (h : Pst G W σ μ τ H RP (.ok a m) Q) (g : Good G μ τ m H) {b : β} (r : RP μ H a b) : Q b H := h b H μ .refl g r
end

abbrev RD (G : Gw) (τ : List Addr) : List Addr → Hp → D → V → Prop := fun μ H d v => Rep G μ τ H d v
abbrev RL (G : Gw) (τ : List Addr) : List Addr → Hp → List D → List V → Prop := fun μ H d v => Reps G μ τ H d v
abbrev RB : List Addr → Hp → D → Bool → Prop := fun _ _ d b => d = .bl b
abbrev REq {α : Type} : List Addr → Hp → α → α → Prop := fun _ _ a b => a = b
/-- an expression's reading -/
def rdE (G : Gw) (W : WX) (f : Rho → Mem → R D) : TE := fun σ H Q => ∃ ρ m μ τ, Good G μ τ m H ∧ Slots G μ τ H ρ σ ∧ Pst G W σ μ τ H (RD G τ) (f ρ m) Q
def rdA (G : Gw) (W : WX) (f : Rho → Mem → R (List D)) : TA := fun σ H Q => ∃ ρ m μ τ, Good G μ τ m H ∧ Slots G μ τ H ρ σ ∧ Pst G W σ μ τ H (RL G τ) (f ρ m) Q
def rdT (G : Gw) (W : WX) (f : Rho → Mem → R Bool) : TT := fun σ H Q => ∃ ρ m μ τ, Good G μ τ m H ∧ Slots G μ τ H ρ σ ∧ Pst G W σ μ τ H REq (f ρ m) Q
def EvE (X : Cx) (G : Gw) (W : WX) (e : Expr) (f : Rho → Mem → R D) : Prop := PE X e (rdE G W f)
def EvA (X : Cx) (G : Gw) (W : WX) (es : List Expr) (f : Rho → Mem → R (List D)) : Prop := PA X es (rdA G W f)
def EvT (X : Cx) (G : Gw) (W : WX) (e : Expr) (f : Rho → Mem → R D) : Prop := PT X e (rdT G W fun ρ m => tst (f ρ m))
def EvW (X : Cx) (G : Gw) (W : WX) (e : Expr) (f : Rho → Mem → R D) : Prop := PW X e (rdT G W fun ρ m => tst (f ρ m))

theorem PE.imp {X : Cx} {e : Expr} {t t' : TE} (h : PE X e t) (q : ∀ σ H Q, t' σ H Q → t σ H Q) : PE X e t' := ⟨fun pins s σ H Q I z => h.run pins s σ H Q I (q σ H Q z)⟩
theorem PA.imp {X : Cx} {e : List Expr} {t t' : TA} (h : PA X e t) (q : ∀ σ H Q, t' σ H Q → t σ H Q) : PA X e t' := ⟨fun pos pins s σ H Q I z => h.run pos pins s σ H Q I (q σ H Q z)⟩
theorem PT.imp {X : Cx} {e : Expr} {t t' : TT} (h : PT X e t) (q : ∀ σ H Q, t' σ H Q → t σ H Q) : PT X e t' := ⟨fun pins s σ H Q I z => h.run pins s σ H Q I (q σ H Q z)⟩
theorem PW.imp {X : Cx} {e : Expr} {t t' : TT} (h : PW X e t) (q : ∀ σ H Q, t' σ H Q → t σ H Q) : PW X e t' := ⟨fun wh pins s σ H Q I z => h.run wh pins s σ H Q I (q σ H Q z)⟩

section
variable {X : Cx} {G : Gw} {W : WX} {a b c e : Expr} {fa fb fc f : Rho → Mem → R D} {pos : Pos}

/-! ### names and constants -/
theorem ev_var {i : Nat} {x : Str} (hN : X.N[i]? = some x) (hv : Vis X.env.scope x) (hd : (x == ("__debug__" : Str)) = false) (hcd : (x == ("__classdict__" : Str)) = false) :
    EvE X G W (.Name x pos) (fun ρ m => match ρ[i]? with | some (some d) => .ok d m | _ => .bad) := by
  refine PE.imp (pe_var (i := i) hN hv hd hcd) fun σ H Q h => ?_
  obtain ⟨ρ, m, μ, τ, g, s, h⟩ := h
  dsimp only at h
  cases hr : ρ[i]? with
  | none => rw [hr] at h; exact False.elim h
  | some o =>
    cases o with
    | none => rw [hr] at h; exact False.elim h
    | some d =>
      rw [hr] at h
      obtain ⟨v, h1, h2⟩ := s.2 i d hr
      exact ⟨v, h1, Pst.here h g h2⟩
theorem ev_lit {k : Const} {j : Nat} : EvE X G W (.Constant k j pos) (fun _ m => R.of (litD k) m) := by
  cases k with
  | none =>
    refine PE.imp pe_non fun σ H Q h => ?_
    obtain ⟨ρ, m, μ, τ, g, s, h⟩ := h
    exact Pst.here h g rfl
  | bool b =>
    refine PE.imp pe_bl fun σ H Q h => ?_
    obtain ⟨ρ, m, μ, τ, g, s, h⟩ := h
    exact Pst.here h g rfl
  | int i =>
    refine PE.imp pe_int fun σ H Q h => ?_
    obtain ⟨ρ, m, μ, τ, g, s, h⟩ := h
    exact Pst.here h g rfl
  | str x =>
    refine PE.imp pe_str fun σ H Q h => ?_
    obtain ⟨ρ, m, μ, τ, g, s, h⟩ := h
    by_cases hx : sOk x = true
    · have e : litD (.str x) = some (.str x) := if_pos hx
      rw [e] at h
      exact Pst.here h g ⟨rfl, hx⟩
    · have e : litD (.str x) = none := if_neg hx
      rw [e] at h
      exact False.elim h
  | _ =>
    refine ⟨fun pins s σ H Q I h => ?_⟩
    obtain ⟨ρ, m, μ, τ, g, sl, h⟩ := h
    exact False.elim h
/-- what the top's constants are -/
def GloV (X : Cx) (G : Gw) (x : Str) (d : D) : Prop := ∃ u v, X.mg x = some u ∧ RelV v u ∧ ∀ μ τ H, Rep G μ τ H d v
theorem ev_glo {x : Str} {d : D} (hg : Gl X x) (hd : (x == ("__debug__" : Str)) = false) (h : GloV X G x d) : EvE X G W (.Name x pos) (fun _ m => .ok d m) := by
  obtain ⟨u, v, hm, r, hr⟩ := h
  refine PE.imp (pe_glob hg hm r hd) fun σ H Q h => ?_
  obtain ⟨ρ, m, μ, τ, g, s, h⟩ := h
  exact Pst.here h g (hr μ τ H)

/-! ### two parts -/
/-- what an operator by values wants -/
def rOp (G : Gw) (k : D → D → Mem → R D) : R2 := fun x y H Q => ∃ (W : WX) (σ : L2.St) (d e : D) (m : Mem) (μ τ : List Addr), Good G μ τ m H ∧ Rep G μ τ H d x ∧ Rep G μ τ H e y ∧ Pst G W σ μ τ H (RD G τ) (k d e m) Q
theorem two {k : D → D → Mem → R D} {σ : L2.St} {H : Hp} {Q : VK} (h : rdE G W (fun ρ m => (fa ρ m).bind fun d m1 => (fb ρ m1).bind fun e m2 => k d e m2) σ H Q) :
    tOp (rOp G k) (rdE G W fa) (rdE G W fb) σ H Q := by
  obtain ⟨ρ, m, μ, τ, g, s, h⟩ := h
  refine ⟨ρ, m, μ, τ, g, s, (Pst.bind (RP := RD G τ) h).imp fun x H1 h1 => ?_⟩
  obtain ⟨d, m1, μ1, n1, g1, r1, h1⟩ := h1
  refine ⟨ρ, m1, μ1, τ, g1, s.nxt g n1, (Pst.bind (RP := RD G τ) h1).imp fun y H2 h2 => ?_⟩
  obtain ⟨e, m2, μ2, n2, g2, r2, h2⟩ := h2
  exact ⟨W, σ, d, e, m2, μ2, τ, g2, r1.next n2 g1, r2, h2⟩
theorem ev_bin {op : Operator} {k : D → D → Mem → R D} (ho : OpR X (binaryOp op) (rOp G k)) (ha : EvE X G W a fa) (hb : EvE X G W b fb) :
    EvE X G W (.BinOp a op b pos) (fun ρ m => (fa ρ m).bind fun d m1 => (fb ρ m1).bind fun e m2 => k d e m2) := PE.imp (pe_op ho ha hb) fun _ _ _ h => two h
theorem ev_cmp {op : CmpOp} {k : D → D → Mem → R D} (ho : OpR X (compareOp op) (rOp G k)) (ha : EvE X G W a fa) (hb : EvE X G W b fb) (hm : behindInMarks op b = false) :
    EvE X G W (.Compare a [op] [b] pos) (fun ρ m => (fa ρ m).bind fun d m1 => (fb ρ m1).bind fun e m2 => k d e m2) := PE.imp (pe_cmpR ho ha hb hm) fun _ _ _ h => two h

/-! ### tests -/
theorem tst_inv {RP : List Addr → Hp → D → V → Prop} {σ : L2.St} {μ τ : List Addr} {H : Hp} {r : R D} {Q : Bool → Hp → Prop} (h : Pst G W σ μ τ H REq (tst r) Q) : Pst G W σ μ τ H (RD G τ) r fun x H1 => ∃ c, x = .bl c ∧ Q c H1 := by
  refine (Pst.bind (RP := RD G τ) h).imp fun x H1 h1 => ?_
  obtain ⟨d, m1, μ1, n1, g1, r1, h1⟩ := h1
  cases d with
  | bl b => exact ⟨b, r1, Pst.here h1 g1 rfl⟩
  | _ => exact False.elim h1
theorem tst_bind {r : R D} {k : Bool → Mem → R D} : tst ((tst r).bind k) = (tst r).bind fun b m => tst (k b m) := by
  cases r with
  | ok d m => cases d <;> rfl
  | ex x p m => rfl
  | bad => rfl
theorem ev_tst (h : EvE X G W a fa) (he : ∀ whole, isTrue a X.env whole = (do let v ← whole; standAt a.pos; holding [v] (truthy v))) : EvT X G W a fa := by
  refine PT.imp (pt_val h he) fun σ H Q h => ?_
  obtain ⟨ρ, m, μ, τ, g, s, h⟩ := h
  exact ⟨ρ, m, μ, τ, g, s, tst_inv (RP := RD G τ) h⟩
theorem EvW.t (h : EvW X G W a fa) : EvT X G W a fa := PW.pt h
/-- two, tested -/
theorem two_t {k : D → D → Mem → R D} {σ : L2.St} {H : Hp} {Q : Bool → Hp → Prop} (h : rdT G W (fun ρ m => tst ((fa ρ m).bind fun d m1 => (fb ρ m1).bind fun e m2 => k d e m2)) σ H Q) :
    tTest (tOp (rOp G k) (rdE G W fa) (rdE G W fb)) σ H Q := by
  obtain ⟨ρ, m, μ, τ, g, s, h⟩ := h
  exact two ⟨ρ, m, μ, τ, g, s, tst_inv (RP := RD G τ) h⟩
theorem ev_cmpT {op : CmpOp} {k : D → D → Mem → R D} (ho : OpR X (compareOp op) (rOp G k)) (ha : EvE X G W a fa) (hb : EvE X G W b fb) (hm : behindInMarks op b = false) :
    EvT X G W (.Compare a [op] [b] pos) (fun ρ m => (fa ρ m).bind fun d m1 => (fb ρ m1).bind fun e m2 => k d e m2) := PT.imp (pt_cmpR ho ha hb hm) fun _ _ _ h => two_t h
theorem ev_notT (ha : EvT X G W a fa) : EvT X G W (.UnaryOp .Not a pos) (fun ρ m => bothD (fa ρ m) fun b m1 => .ok (.bl (!b)) m1) := by
  refine PT.imp (pt_not ha) fun σ H Q h => ?_
  obtain ⟨ρ, m, μ, τ, g, s, h⟩ := h
  refine ⟨ρ, m, μ, τ, g, s, ?_⟩
  dsimp only [bothD] at h
  rw [tst_bind] at h
  refine (Pst.bind (RP := REq) h).imp fun x H1 h1 => ?_
  obtain ⟨d, m1, μ1, n1, g1, r1, h1⟩ := h1
  subst r1
  exact Pst.here h1 g1 rfl
theorem ev_not (ha : EvE X G W a fa) : EvE X G W (.UnaryOp .Not a pos) (fun ρ m => bothD (fa ρ m) fun b m1 => .ok (.bl (!b)) m1) := by
  refine PE.imp (pe_not ha) fun σ H Q h => ?_
  obtain ⟨ρ, m, μ, τ, g, s, h⟩ := h
  refine ⟨ρ, m, μ, τ, g, s, ?_⟩
  refine (tst_inv (RP := RD G τ) (Pst.bind (RP := REq) h))
    |>.imp fun x H1 ⟨c, e, b, m1, μ1, n1, g1, r1, h1⟩ => ⟨c, e, ?_⟩
  subst r1
  exact Pst.here h1 g1 rfl
/-- a first part as a truth value -/
theorem both_inv {β γ : Type} {RP : List Addr → Hp → β → γ → Prop} {σ : L2.St} {μ τ : List Addr} {H : Hp} {r : R D} {k : Bool → Mem → R β} {Q : γ → Hp → Prop} (h : Pst G W σ μ τ H RP (bothD r k) Q) :
    Pst G W σ μ τ H (RD G τ) r fun x H1 => ∃ c m1 μ1, x = .bl c ∧ Nxt μ τ H μ1 τ H1 ∧ Good G μ1 τ m1 H1 ∧ Pst G W σ μ1 τ H1 RP (k c m1) Q := by
  refine (tst_inv (RP := RD G τ) (Pst.bind (RP := REq) h)).imp fun x H1 ⟨c, e, b, m1, μ1, n1, g1, r1, h1⟩ => ?_
  subst r1
  exact ⟨_, m1, μ1, e, n1, g1, h1⟩
theorem ev_and {rest : List Expr} (ha : EvE X G W a fa) (hb : EvE X G W (.BoolOp .And (b :: rest) pos) fb) : EvE X G W (.BoolOp .And (a :: b :: rest) pos) (fun ρ m => bothD (fa ρ m) fun k m1 => if k then fb ρ m1 else .ok (.bl false) m1) := by
  refine PE.imp (pe_and ha hb) fun σ H Q h => ?_
  obtain ⟨ρ, m, μ, τ, g, s, h⟩ := h
  refine ⟨ρ, m, μ, τ, g, s, (both_inv h).imp fun x H1 ⟨c, m1, μ1, e, n1, g1, h1⟩ => ⟨c, e, ?_⟩⟩
  cases c with
  | true => exact ⟨ρ, m1, μ1, τ, g1, s.nxt g n1, h1⟩
  | false => exact Pst.here h1 g1 rfl
theorem ev_or {rest : List Expr} (ha : EvE X G W a fa) (hb : EvE X G W (.BoolOp .Or (b :: rest) pos) fb) : EvE X G W (.BoolOp .Or (a :: b :: rest) pos) (fun ρ m => bothD (fa ρ m) fun k m1 => if k then .ok (.bl true) m1 else fb ρ m1) := by
  refine PE.imp (pe_or ha hb) fun σ H Q h => ?_
  obtain ⟨ρ, m, μ, τ, g, s, h⟩ := h
  refine ⟨ρ, m, μ, τ, g, s, (both_inv h).imp fun x H1 ⟨c, m1, μ1, e, n1, g1, h1⟩ => ⟨c, e, ?_⟩⟩
  cases c with
  | false => exact ⟨ρ, m1, μ1, τ, g1, s.nxt g n1, h1⟩
  | true => exact Pst.here h1 g1 rfl
theorem ev_one {op : BoolOp} (ha : EvE X G W a fa) : EvE X G W (.BoolOp op [a] pos) fa := pe_one ha
theorem evw_and1 (ha : EvT X G W a fa) : EvW X G W (.BoolOp .And [a] pos) fa := pw_and1 ha
theorem evw_or1 (ha : EvT X G W a fa) : EvW X G W (.BoolOp .Or [a] pos) fa := pw_or1 ha
theorem evw_and {rest : List Expr} (ha : EvT X G W a fa) (hb : EvW X G W (.BoolOp .And (b :: rest) pos) fb) : EvW X G W (.BoolOp .And (a :: b :: rest) pos) (fun ρ m => bothD (fa ρ m) fun k m1 => if k then fb ρ m1 else .ok (.bl false) m1) := by
  refine PW.imp (pw_and ha hb) fun σ H Q h => ?_
  obtain ⟨ρ, m, μ, τ, g, s, h⟩ := h
  dsimp only [bothD] at h
  rw [tst_bind] at h
  refine ⟨ρ, m, μ, τ, g, s, (Pst.bind (RP := REq) h).imp fun c H1 ⟨d, m1, μ1, n1, g1, r1, h1⟩ => ?_⟩
  subst r1
  cases d with
  | true => exact ⟨ρ, m1, μ1, τ, g1, s.nxt g n1, h1⟩
  | false => exact Pst.here h1 g1 rfl
theorem evw_or {rest : List Expr} (ha : EvT X G W a fa) (hb : EvW X G W (.BoolOp .Or (b :: rest) pos) fb) : EvW X G W (.BoolOp .Or (a :: b :: rest) pos) (fun ρ m => bothD (fa ρ m) fun k m1 => if k then .ok (.bl true) m1 else fb ρ m1) := by
  refine PW.imp (pw_or ha hb) fun σ H Q h => ?_
  obtain ⟨ρ, m, μ, τ, g, s, h⟩ := h
  dsimp only [bothD] at h
  rw [tst_bind] at h
  refine ⟨ρ, m, μ, τ, g, s, (Pst.bind (RP := REq) h).imp fun c H1 ⟨d, m1, μ1, n1, g1, r1, h1⟩ => ?_⟩
  subst r1
  cases d with
  | false => exact ⟨ρ, m1, μ1, τ, g1, s.nxt g n1, h1⟩
  | true => exact Pst.here h1 g1 rfl
/-- a if c else b -/
theorem ev_ife (hc : EvT X G W c fc) (ha : EvE X G W a fa) (hb : EvE X G W b fb) : EvE X G W (.IfExp c a b pos) (fun ρ m => bothD (fc ρ m) fun k m1 => if k then fa ρ m1 else fb ρ m1) := by
  refine PE.imp (pe_ifExp hc ha hb) fun σ H Q h => ?_
  obtain ⟨ρ, m, μ, τ, g, s, h⟩ := h
  refine ⟨ρ, m, μ, τ, g, s, (Pst.bind (RP := REq) h).imp fun k H1 ⟨d, m1, μ1, n1, g1, r1, h1⟩ => ?_⟩
  subst r1
  cases d with
  | true => exact ⟨ρ, m1, μ1, τ, g1, s.nxt g n1, h1⟩
  | false => exact ⟨ρ, m1, μ1, τ, g1, s.nxt g n1, h1⟩
theorem ev_ifeT (hc : EvT X G W c fc) (ha : EvT X G W a fa) (hb : EvT X G W b fb) : EvT X G W (.IfExp c a b pos) (fun ρ m => bothD (fc ρ m) fun k m1 => if k then fa ρ m1 else fb ρ m1) := by
  refine ⟨fun pins s σ H Q I h => ?_⟩
  obtain ⟨ρ, m, μ, τ, g, sl, h⟩ := h
  dsimp only [bothD] at h
  rw [tst_bind] at h
  show wpAny _ _ (do if ← isTrue c X.env (eval c X.env) then isTrue a X.env (eval a X.env) else isTrue b X.env (eval b X.env)) _ _ _
  refine wpAny_bind (thn (hc.run pins s σ H _ I ⟨ρ, m, μ, τ, g, sl, Pst.bind (RP := REq) h⟩) fun k s1 ⟨H1, I1, d, m1, μ1, n1, g1, r1, h1⟩ => ?_)
  subst r1
  cases d with
  | true => exact ha.run pins s1 σ H1 Q I1 ⟨ρ, m1, μ1, τ, g1, sl.nxt g n1, h1⟩
  | false => exact hb.run pins s1 σ H1 Q I1 ⟨ρ, m1, μ1, τ, g1, sl.nxt g n1, h1⟩
/-- a chain of two comparisons -/
theorem chain_inv {k1 k2 : D → D → Mem → R D} {σ : L2.St} {H : Hp} {Q : VK} (h : rdE G W (fun ρ m => (fa ρ m).bind fun d m1 => (fb ρ m1).bind fun e m2 => bothD (k1 d e m2) fun k m3 => if k then (fc ρ m3).bind fun f m4 => k2 e f m4 else .ok (.bl false) m3) σ H Q) :
    tChain (rOp G k1) (rOp G k2) (rdE G W fa) (rdE G W fb) (rdE G W fc) σ H Q := by
  obtain ⟨ρ, m, μ, τ, g, s, h⟩ := h
  refine ⟨ρ, m, μ, τ, g, s, (Pst.bind (RP := RD G τ) h).imp fun x H1 ⟨d, m1, μ1, n1, g1, r1, h1⟩ => ?_⟩
  refine ⟨ρ, m1, μ1, τ, g1, s.nxt g n1, (Pst.bind (RP := RD G τ) h1).imp fun y H2 ⟨e, m2, μ2, n2, g2, r2, h2⟩ => ?_⟩
  refine ⟨W, σ, d, e, m2, μ2, τ, g2, r1.next n2 g1, r2, (both_inv h2).imp fun z H3 ⟨k, m3, μ3, e3, n3, g3, h3⟩ => ⟨k, e3, ?_⟩⟩
  cases k with
  | false => exact Pst.here h3 g3 rfl
  | true =>
    refine ⟨ρ, m3, μ3, τ, g3, (s.nxt g n1).nxt g1 (n2.trans n3), (Pst.bind (RP := RD G τ) h3).imp fun w H4 ⟨f, m4, μ4, n4, g4, r4, h4⟩ => ?_⟩
    exact ⟨W, σ, e, f, m4, μ4, τ, g4, (r2.next n3 g2).next n4 g3, r4, h4⟩
end
end EV

/-! What the trees come to is what the program does: new objects, parts, calls. -/
namespace EV
open PySem PySem.Spec PyProof.Rows L2

/-- what is wanted behind a result that, if a list or a dict, is a new one -/
def PstF (G : Gw) (W : WX) (σ : L2.St) (μ τ : List Addr) (H : Hp) (r : R D) (Q : VK) : Prop :=
  match r with
  | .ok (.lst ds) m' => ∀ p vs H' μ', Nxt μ τ H μ' (p :: τ) H' → H p = none → Good G μ' (p :: τ) m' H' → H' p = some (.lst vs) → Reps G μ' (p :: τ) H' ds vs → Q (.ref p) H'
  | .ok (.dic ks ds) m' => ∀ p vs H' μ', Nxt μ τ H μ' (p :: τ) H' → H p = none → Good G μ' (p :: τ) m' H' → H' p = some (.dK (ks.zip vs)) → ks.length = vs.length → Reps G μ' (p :: τ) H' ds vs → Q (.ref p) H'
  | r => Pst G W σ μ τ H (RD G τ) r Q
def rdF (G : Gw) (W : WX) (f : Rho → Mem → R D) : TE := fun σ H Q => ∃ ρ m μ τ, Good G μ τ m H ∧ Slots G μ τ H ρ σ ∧ PstF G W σ μ τ H (f ρ m) Q
def EvF (X : Cx) (G : Gw) (W : WX) (e : Expr) (f : Rho → Mem → R D) : Prop := PE X e (rdF G W f)
section
variable {X : Cx} {G : Gw} {W : WX} {σ : L2.St} {μ τ μ' τ' : List Addr} {H H' : Hp} {m m' : Mem} {ρ : Rho} {r : R D} {Q : VK} {a b c e : Expr} {fa fb fc f : Rho → Mem → R D} {pos : Pos}
theorem Good.fresh (g : Good G μ τ m H) {p : Addr} (hp : H p = none) : p ∉ τ ∧ p ∉ μ := by
  refine ⟨fun z => (g.dis p z).2 hp, fun z => ?_⟩
  obtain ⟨o, e, _⟩ := g.mut z
  rw [hp] at e; cases e
theorem PstF.of (g : Good G μ τ m H) (h : Pst G W σ μ τ H (RD G τ) r Q) : PstF G W σ μ τ H r Q := by
  cases r with
  | bad => exact h
  | ex x p m1 => exact h
  | ok d m1 =>
    cases d with
    | lst ds =>
      intro p vs H' μ' n hp g' e rs
      exact h (.ref p) H' μ' n.free g'.free ⟨p, vs, rfl, e, (g'.dis p List.mem_cons_self).1, (g.fresh hp).1, rs.free g'⟩
    | dic ks ds =>
      intro p vs H' μ' n hp g' e hl rs
      exact h (.ref p) H' μ' n.free g'.free ⟨p, vs, rfl, e, hl, (g'.dis p List.mem_cons_self).1, (g.fresh hp).1, rs.free g'⟩
    | _ => exact h
theorem PstF.alc (g : Good G μ τ m H) (h : Pst G W σ μ τ H (RD G τ) (r.bind alcD) Q) : PstF G W σ μ τ H r Q := by
  cases r with
  | bad => exact h
  | ex x p m1 => exact h
  | ok d m1 =>
    cases d with
    | lst ds =>
      intro p vs H' μ' n hp g' e rs
      refine h (.ref p) H' (μ' ++ [p]) (n.track hp) (g'.track (c := .lst ds) ⟨vs, e, rs⟩ (g.fresh hp).1) ⟨p, rfl, ?_⟩
      rw [← g'.len]; simp
    | dic ks ds =>
      intro p vs H' μ' n hp g' e hl rs
      refine h (.ref p) H' (μ' ++ [p]) (n.track hp) (g'.track (c := .dic ks ds) ⟨vs, e, hl, rs⟩ (g.fresh hp).1) ⟨p, rfl, ?_⟩
      rw [← g'.len]; simp
    | _ => exact False.elim h
theorem EvF.ev (h : EvF X G W e f) : EvE X G W e f := PE.imp h fun σ H Q ⟨ρ, m, μ, τ, g, s, q⟩ => ⟨ρ, m, μ, τ, g, s, PstF.of g q⟩
theorem EvF.alc (h : EvF X G W e f) : EvE X G W e (fun ρ m => (f ρ m).bind alcD) := PE.imp h fun σ H Q ⟨ρ, m, μ, τ, g, s, q⟩ => ⟨ρ, m, μ, τ, g, s, PstF.alc g q⟩
theorem PstF.bind {α β : Type} {RP : List Addr → Hp → α → β → Prop} {r : R α} {k : α → Mem → R D} (g : Good G μ τ m H) (h : PstF G W σ μ τ H (r.bind k) Q) :
    Pst G W σ μ τ H RP r fun b H1 => ∃ a m1 μ1, Nxt μ τ H μ1 τ H1 ∧ Good G μ1 τ m1 H1 ∧ RP μ1 H1 a b ∧ PstF G W σ μ1 τ H1 (k a m1) Q := by
  cases r with
  | bad => exact h
  | ex x p m1 => exact h
  | ok a m1 =>
    intro v H1 μ1 n g1 r
    refine ⟨a, m1, μ1, n, g1, r, ?_⟩
    have h' : PstF G W σ μ τ H (k a m1) Q := h
    have back : ∀ {p : Addr}, H1 p = none → H p = none := fun {p} e => (n.none_of e).elim (fun z => by
      obtain ⟨o, e', _⟩ := g1.mut (n.sub z)
      rw [e] at e'; cases e') id
    have plain : Pst G W σ μ τ H (RD G τ) (k a m1) Q → Pst G W σ μ1 τ H1 (RD G τ) (k a m1) Q := fun h' => by
      cases hk : k a m1 with
      | bad => rw [hk] at h'; exact h'
      | ex x p m2 =>
        rw [hk] at h'
        exact fun c dd H' μ' n' g' r' => h' c dd H' μ' (n.trans n') g' r'
      | ok d m2 =>
        rw [hk] at h'
        exact fun v H' μ' n' g' r' => h' v H' μ' (n.trans n') g' r'
    cases hk : k a m1 with
    | bad => rw [hk] at h'; exact h'
    | ex x p m2 => rw [hk] at h' plain; exact plain h'
    | ok d m2 =>
      rw [hk] at h' plain
      cases d with
      | lst ds => exact fun p vs H' μ' n' hp g' e rs => h' p vs H' μ' (n.trans n') (back hp) g' e rs
      | dic ks ds => exact fun p vs H' μ' n' hp g' e hl rs => h' p vs H' μ' (n.trans n') (back hp) g' e hl rs
      | _ => exact plain h'

/-! ### rows of arguments -/
theorem ev_nil : EvA X G W [] (fun _ m => .ok [] m) := PA.imp pa_nil fun σ H Q ⟨ρ, m, μ, τ, g, s, h⟩ => Pst.here h g rfl
theorem ev_cons {es : List Expr} {fs : Rho → Mem → R (List D)} (ha : EvE X G W a fa) (hs : EvA X G W es fs) (hst : starEach (a :: es) X.env = (false, eval a X.env) :: starEach es X.env) :
    EvA X G W (a :: es) (fun ρ m => (fa ρ m).bind fun d m1 => (fs ρ m1).bind fun ds m2 => .ok (d :: ds) m2) := by
  refine PA.imp (pa_cons ha hs hst) fun σ H Q ⟨ρ, m, μ, τ, g, s, h⟩ => ?_
  refine ⟨ρ, m, μ, τ, g, s, (Pst.bind (RP := RD G τ) h).imp fun x H1 ⟨d, m1, μ1, n1, g1, r1, h1⟩ => ?_⟩
  refine ⟨ρ, m1, μ1, τ, g1, s.nxt g n1, (Pst.bind (RP := RL G τ) h1).imp fun xs H2 ⟨ds, m2, μ2, n2, g2, r2, h2⟩ => ?_⟩
  exact Pst.here h2 g2 (.cons (r1.next n2 g1) r2)

/-! ### displays -/
theorem small {n : Nat} (h : n ≤ 1000) : n ≤ sizeLine := by rw [sizeLine_eq]; omega
theorem ev_tup {es : List Expr} {fs : Rho → Mem → R (List D)} {k : Nat} (hs : EvA X G W es fs) (hl : ∀ ρ m ds m', fs ρ m = .ok ds m' → ds.length ≤ 1000) :
    EvE X G W (.Tuple es k pos) (fun ρ m => (fs ρ m).bind fun ds m1 => .ok (.tup ds) m1) := by
  refine PE.imp (pe_tupF hs) fun σ H Q ⟨ρ, m, μ, τ, g, s, h⟩ => ?_
  refine ⟨ρ, m, μ, τ, g, s, ?_⟩
  have hl' := hl ρ m
  dsimp only at h
  cases hr : fs ρ m with
  | bad => rw [hr] at h; exact h
  | ex x p m1 => rw [hr] at h; exact h
  | ok ds m1 =>
    rw [hr] at h
    intro xs H1 μ1 n1 g1 r1
    refine ⟨small (by rw [r1.length]; exact hl' ds m1 hr), fun p o hp ho => ?_⟩
    have nl : Nxt μ1 τ H1 μ1 (p :: τ) (upd H1 p (.frz o (.tup xs))) := Nxt.laid hp
    exact h (.ref p) _ μ1 (n1.trans nl.free) (g1.laid hp).free ⟨p, xs, rfl, TupS.of upd_same ho, r1.next nl.free g1⟩
theorem ev_lst {es : List Expr} {fs : Rho → Mem → R (List D)} (hs : EvA X G W es fs) (hl : ∀ ρ m ds m', fs ρ m = .ok ds m' → ds.length ≤ 1000) :
    EvF X G W (.List es pos) (fun ρ m => (fs ρ m).bind fun ds m1 => .ok (.lst ds) m1) := by
  refine PE.imp (pe_lst hs) fun σ H Q ⟨ρ, m, μ, τ, g, s, h⟩ => ?_
  refine ⟨ρ, m, μ, τ, g, s, ?_⟩
  have hl' := hl ρ m
  dsimp only at h
  cases hr : fs ρ m with
  | bad => rw [hr] at h; exact h
  | ex x p m1 => rw [hr] at h; exact h
  | ok ds m1 =>
    rw [hr] at h
    intro xs H1 μ1 n1 g1 r1
    refine ⟨small (by rw [r1.length]; exact hl' ds m1 hr), fun p hp => ?_⟩
    have nl : Nxt μ1 τ H1 μ1 (p :: τ) (upd H1 p (.lst xs)) := Nxt.laid hp
    have hp0 : H p = none := (n1.none_of hp).elim (fun z => by
      obtain ⟨o, e', _⟩ := g1.mut (n1.sub z)
      rw [hp] at e'; cases e') id
    exact h p xs _ μ1 (n1.trans nl) hp0 (g1.laid hp) upd_same (r1.next nl g1)

/-! ### parts: an index, a slice -/
def rIxD (G : Gw) : R2 := rOp G fun d i m => R.of (idxD d i m) m
theorem ev_idx (ho : IxR X (rIxD G)) (ha : EvE X G W a fa) (hb : EvE X G W b fb) (hs : PlainIx b) :
    EvE X G W (.Subscript a b pos) (fun ρ m => (fa ρ m).bind fun d m1 => (fb ρ m1).bind fun e m2 => R.of (idxD d e m2) m2) := PE.imp (pe_ix ho ha hb hs) fun _ _ _ h => two h
/-- an optional whole number -/
def rdO (G : Gw) (W : WX) (f : Rho → Mem → R (Option Int)) : TO := fun σ H Q => ∃ ρ m μ τ, Good G μ τ m H ∧ Slots G μ τ H ρ σ ∧ Pst G W σ μ τ H REq (f ρ m) Q
def EvO (X : Cx) (G : Gw) (W : WX) (e : Option Expr) (f : Rho → Mem → R (Option Int)) : Prop := PO X e (rdO G W f)
theorem PO.imp {X : Cx} {e : Option Expr} {t t' : TO} (h : PO X e t) (q : ∀ σ H Q, t' σ H Q → t σ H Q) : PO X e t' := ⟨fun pins s σ H Q I z => h.run pins s σ H Q I (q σ H Q z)⟩
theorem ev_ono : EvO X G W none (fun _ m => .ok none m) := PO.imp po_none fun σ H Q ⟨ρ, m, μ, τ, g, s, h⟩ => Pst.here h g rfl
theorem ev_oyes (ha : EvE X G W a fa) : EvO X G W (some a) (fun ρ m => (fa ρ m).bind fun d m1 => R.of (optI d) m1) := by
  refine PO.imp (po_some ha) fun σ H Q ⟨ρ, m, μ, τ, g, s, h⟩ => ?_
  refine ⟨ρ, m, μ, τ, g, s, (Pst.bind (RP := RD G τ) h).imp fun x H1 ⟨d, m1, μ1, n1, g1, r1, h1⟩ => ?_⟩
  cases d with
  | int i => exact ⟨i, r1, Pst.here h1 g1 rfl⟩
  | _ => exact False.elim h1
/-- what a slice by values wants -/
def rSlD (G : Gw) : V → Option Int → Option Int → Hp → VK → Prop := fun x lo hi H Q => ∃ (W : WX) (σ : L2.St) (d : D) (m : Mem) (μ τ : List Addr), Good G μ τ m H ∧ Rep G μ τ H d x ∧ PstF G W σ μ τ H (R.of (slcD d lo hi m) m) Q
theorem ev_slc {lo hi : Option Expr} {fl fh : Rho → Mem → R (Option Int)} {p2 : Pos} (ho : SlR X (rSlD G)) (ha : EvE X G W a fa) (hl : EvO X G W lo fl) (hh : EvO X G W hi fh) :
    EvF X G W (.Subscript a (.Slice lo hi none p2) pos) (fun ρ m => (fa ρ m).bind fun d m1 => (fl ρ m1).bind fun l m2 => (fh ρ m2).bind fun h m3 => R.of (slcD d l h m3) m3) := by
  refine PE.imp (pe_slice ho ha hl hh) fun σ H Q ⟨ρ, m, μ, τ, g, s, h⟩ => ?_
  refine ⟨ρ, m, μ, τ, g, s, (PstF.bind (RP := RD G τ) g h).imp fun x H1 ⟨d, m1, μ1, n1, g1, r1, h1⟩ => ?_⟩
  refine ⟨ρ, m1, μ1, τ, g1, s.nxt g n1, (PstF.bind (RP := REq) g1 h1).imp fun l H2 ⟨l', m2, μ2, n2, g2, r2, h2⟩ => ?_⟩
  subst r2
  refine ⟨ρ, m2, μ2, τ, g2, (s.nxt g n1).nxt g1 n2, (PstF.bind (RP := REq) g2 h2).imp fun h H3 ⟨h', m3, μ3, n3, g3, r3, h3⟩ => ?_⟩
  subst r3
  exact ⟨W, σ, d, m3, μ3, τ, g3, (r1.next n2 g1).next n3 g2, h3⟩

/-! ### built-in functions and methods by their values -/
def rCl (G : Gw) (k : List D → Mem → R D) : List V → Hp → VK → Prop := fun xs H Q => ∃ (W : WX) (σ : L2.St) (ds : List D) (m : Mem) (μ τ : List Addr), Good G μ τ m H ∧ Reps G μ τ H ds xs ∧ PstF G W σ μ τ H (k ds m) Q
theorem args_inv {fs : Rho → Mem → R (List D)} {k : List D → Mem → R D} (h : rdF G W (fun ρ m => (fs ρ m).bind fun ds m1 => k ds m1) σ H Q) : rdA G W fs σ H fun xs H1 => rCl G k xs H1 Q := by
  obtain ⟨ρ, m, μ, τ, g, s, h⟩ := h
  refine ⟨ρ, m, μ, τ, g, s, (PstF.bind (RP := RL G τ) g h).imp fun x H1 ⟨d, m1, μ1, n1, g1, r1, h1⟩ => ?_⟩
  exact ⟨W, σ, d, m1, μ1, τ, g1, r1, h1⟩
theorem ev_bi {es : List Expr} {fs : Rho → Mem → R (List D)} {k : List D → Mem → R D} {id : String} {x : Str} {p : Pos} (hc : CallR X (.builtin id) (rCl G k)) (hg : Gl X x) (hm : X.mg x = none) (hv : bootBuiltins x = some (.builtin id)) (ha : EvA X G W (e :: es) fs) (hn : x ≠ "__name__") (hdb : (x == ("__debug__" : Str)) = false)
    (he : starEach (e :: es) X.env = (false, eval e X.env) :: starEach es X.env) (hpl : (backTo pos (starEach es X.env)).any (·.1) = false) :
    EvF X G W (.Call (.Name x p) (e :: es) [] pos) (fun ρ m => (fs ρ m).bind fun ds m1 => k ds m1) := PE.imp (pe_callB hc hg hm hv ha hn hdb he hpl) fun _ _ _ h => args_inv h
theorem ev_ty {es : List Expr} {fs : Rho → Mem → R (List D)} {k : List D → Mem → R D} {T : String} {x : Str} {p : Pos} (hc : CallR X (.type T) (rCl G k)) (hg : Gl X x) (hm : X.mg x = none) (hv : bootBuiltins x = some (.type T)) (ha : EvA X G W (e :: es) fs) (hn : x ≠ "__name__") (hdb : (x == ("__debug__" : Str)) = false)
    (he : starEach (e :: es) X.env = (false, eval e X.env) :: starEach es X.env) (hpl : (backTo pos (starEach es X.env)).any (·.1) = false) :
    EvF X G W (.Call (.Name x p) (e :: es) [] pos) (fun ρ m => (fs ρ m).bind fun ds m1 => k ds m1) := PE.imp (pe_callTy hc hg hm hv ha hn hdb he hpl) fun _ _ _ h => args_inv h

/-! ### defs -/
/-- a def's promise, by what its tree comes to -/
def spD (G : Gw) (k : List D → Mem → R D) : Sp := fun vs H Q E => ∃ (ds : List D) (m : Mem) (μ τ : List Addr), Good G μ τ m H ∧ Reps G μ τ H ds vs ∧ Pst G (fun c dd _ H' => E c dd H') [] μ τ H (RD G τ) (k ds m) Q
theorem ev_call {es : List Expr} {fs : Rho → Mem → R (List D)} {k : List D → Mem → R D} {x : Str} {p : Pos} {j : Nat} {f : Addr} {fd : FuncData} {ps : List Str} (F : FnOk X.prog X.w X.K X.mg X.base (CX X.prog X.w) j f fd ps (spD G k)) (hr : Room j X.A) (hg : Gl X x) (hm : X.mg x = some (.ref f)) (hk : PySem.W.keepIn X.K (.ref f) = true) (hb : Binds X.K fd ps [])
    (tk : Takes X W) (ha : EvA X G W (e :: es) fs) (hdb : (x == ("__debug__" : Str)) = false)
    (he : starEach (e :: es) X.env = (false, eval e X.env) :: starEach es X.env) (hpl : (backTo pos (starEach es X.env)).any (·.1) = false) :
    EvE X G W (.Call (.Name x p) (e :: es) [] pos) (fun ρ m => (fs ρ m).bind fun ds m1 => k ds m1) := by
  refine PE.imp (pe_callS F hr hg hm hk hb (fun σ => passAt tk σ) ha hdb he hpl) fun σ H Q ⟨ρ, m, μ, τ, g, sl, h⟩ => ?_
  refine ⟨ρ, m, μ, τ, g, sl, (Pst.bind (RP := RL G τ) h).imp fun xs H1 ⟨ds, m1, μ1, n1, g1, r1, h1⟩ => ?_⟩
  refine ⟨ds, m1, μ1, τ, g1, r1, ?_⟩
  cases hk : k ds m1 with
  | bad => rw [hk] at h1; exact h1
  | ok d m2 => rw [hk] at h1; exact h1
  | ex x p m2 => rw [hk] at h1; exact h1
end
end EV

/-! The primitives by their values. -/
namespace EV
open PySem PySem.Spec PyProof.Rows L2

section
variable {X : Cx} {G : Gw} {W : WX} {σ : L2.St} {μ τ : List Addr} {H : Hp} {m : Mem} {Q : VK} {pins : List (Addr × Obj)} {s : Shared}
theorem lim_eq : lim = sizeLine := by rw [sizeLine_eq]; rfl
/-- data stand as data -/
theorem allF_cons {n : Nat} {d : D} {ds : List D} : (d :: ds).all (plain n) = (plain n d && ds.all (plain n)) := rfl
mutual
theorem Rep.dp (hK : G.K = X.K) : ∀ (d : D) (n : Nat) (v : V), plain n d = true → Rep G μ τ H d v → Dp X.K H v (pd d)
  | .non, _, _, _, r => by cases (show _ = V.non from r); exact .non
  | .bl b, _, _, _, r => by cases (show _ = V.bl b from r); exact .bl b
  | .int i, _, _, _, r => by cases (show _ = V.int i from r); exact .int i
  | .str x, _, _, _, r => by cases (show _ = V.str x from r.1); exact .str x
  | .tup ds, n, _, h, r => by
    obtain ⟨a, vs, rfl, q, rs⟩ := r
    cases n with
    | zero => exact nomatch h
    | succ n => exact .tup (hK ▸ q.sqT) (Reps.dp hK ds n vs h rs)
  | .lst ds, n, _, h, r => by
    obtain ⟨a, vs, rfl, q, _, _, rs⟩ := r
    cases n with
    | zero => exact nomatch h
    | succ n => exact .lst (.inl (.inl q)) (Reps.dp hK ds n vs h rs)
  | .dic _ _, n, _, h, _ => by cases n <;> exact nomatch h
  | .ref _, n, _, h, _ => by cases n <;> exact nomatch h
  | .fn, n, _, h, _ => by cases n <;> exact nomatch h
  | .scr _, n, _, h, _ => by cases n <;> exact nomatch h
  | .pr _ _, n, _, h, _ => by cases n <;> exact nomatch h
theorem Reps.dp (hK : G.K = X.K) : ∀ (ds : List D) (n : Nat) (vs : List V), ds.all (plain n) = true → Reps G μ τ H ds vs → DpAll X.K H vs (pds ds)
  | [], _, _, _, r => by cases (show _ = [] from r); exact .nil
  | d :: ds, n, _, h, r => by
    obtain ⟨v, r', rfl, q, rs⟩ := r
    rw [allF_cons, Bool.and_eq_true] at h
    exact .cons (Rep.dp hK d n v h.1 q) (Reps.dp hK ds n r' h.2 rs)
end
mutual
theorem Rep.shaped : ∀ (d : D) (n : Nat) (v : V), plain n d = true → Rep G μ τ H d v → (pd d).canLay0 = true ∧ (pd d).depth ≤ n
  | .non, _, _, _, _ => ⟨rfl, Nat.zero_le _⟩
  | .bl _, _, _, _, _ => ⟨rfl, Nat.zero_le _⟩
  | .int _, _, _, _, _ => ⟨rfl, Nat.zero_le _⟩
  | .str _, _, _, _, r => ⟨r.2, Nat.zero_le _⟩
  | .tup ds, n, _, h, r => by
    obtain ⟨a, vs, rfl, q, rs⟩ := r
    cases n with
    | zero => exact nomatch h
    | succ n =>
      obtain ⟨h1, h2⟩ := Reps.shaped ds n vs h rs
      exact ⟨h1, Nat.succ_le_succ h2⟩
  | .lst ds, n, _, h, r => by
    obtain ⟨a, vs, rfl, q, _, _, rs⟩ := r
    cases n with
    | zero => exact nomatch h
    | succ n =>
      obtain ⟨h1, h2⟩ := Reps.shaped ds n vs h rs
      exact ⟨h1, Nat.succ_le_succ h2⟩
  | .dic _ _, n, _, h, _ => by cases n <;> exact nomatch h
  | .ref _, n, _, h, _ => by cases n <;> exact nomatch h
  | .fn, n, _, h, _ => by cases n <;> exact nomatch h
  | .scr _, n, _, h, _ => by cases n <;> exact nomatch h
  | .pr _ _, n, _, h, _ => by cases n <;> exact nomatch h
theorem Reps.shaped : ∀ (ds : List D) (n : Nat) (vs : List V), ds.all (plain n) = true → Reps G μ τ H ds vs → PyData.canLayAll0 (pds ds) = true ∧ PyData.depthAll (pds ds) ≤ n
  | [], _, _, _, _ => ⟨rfl, Nat.zero_le _⟩
  | d :: ds, n, _, h, r => by
    obtain ⟨v, r', rfl, q, rs⟩ := r
    rw [allF_cons, Bool.and_eq_true] at h
    obtain ⟨h1, h2⟩ := Rep.shaped d n v h.1 q
    obtain ⟨h3, h4⟩ := Reps.shaped ds n r' h.2 rs
    refine ⟨?_, Nat.max_le.mpr ⟨h2, h4⟩⟩
    show (PyData.canLay0 (pd d) && PyData.canLayAll0 (pds ds)) = true
    rw [h1, h3]; rfl
end
/-- a cell's list as a list -/
theorem lst_inv {d : D} {x : V} {xs : List D} (g : Good G μ τ m H) (r : Rep G μ τ H d x) (h : lstOf m d = some xs) : ∃ a vs, x = .ref a ∧ H a = some (.lst vs) ∧ Reps G μ τ H xs vs := by
  cases d with
  | lst ys =>
    cases (show ys = xs from Option.some.inj h)
    obtain ⟨a, vs, e, q, _, _, rs⟩ := r
    exact ⟨a, vs, e, q, rs⟩
  | ref n =>
    obtain ⟨a, e, q⟩ := r
    unfold lstOf at h
    dsimp only at h
    cases hc : m[n]? with
    | none => rw [hc] at h; cases h
    | some c =>
      rw [hc] at h
      cases c with
      | lst ys =>
        cases (show ys = xs from Option.some.inj h)
        obtain ⟨vs, h1, h2⟩ := g.cell n _ a hc q
        exact ⟨a, vs, e, h1, h2⟩
      | _ => cases h
  | _ => cases h
theorem seq_invS {d : D} {x : V} {xs : List D} (hK : G.K = X.K) (g : Good G μ τ m H) (r : Rep G μ τ H d x) (h : seqOf m d = some xs) : ∃ a vs, x = .ref a ∧ (SqL X.K H a vs ∨ TupS X.K H a vs) ∧ Reps G μ τ H xs vs := by
  cases d with
  | tup ys =>
    cases (show ys = xs from Option.some.inj h)
    obtain ⟨a, vs, e, q, rs⟩ := r
    exact ⟨a, vs, e, .inr (hK ▸ q), rs⟩
  | lst ys =>
    obtain ⟨a, vs, e, q, rs⟩ := lst_inv g r (show lstOf m (.lst ys) = some xs from h)
    exact ⟨a, vs, e, .inl (.inl (.inl q)), rs⟩
  | ref n =>
    obtain ⟨a, vs, e, q, rs⟩ := lst_inv g r (show lstOf m (.ref n) = some xs from h)
    exact ⟨a, vs, e, .inl (.inl (.inl q)), rs⟩
  | _ => cases h
theorem seq_inv {d : D} {x : V} {xs : List D} (hK : G.K = X.K) (g : Good G μ τ m H) (r : Rep G μ τ H d x) (h : seqOf m d = some xs) : ∃ a vs, x = .ref a ∧ (SqL X.K H a vs ∨ SqT X.K H a vs) ∧ Reps G μ τ H xs vs := by
  cases d with
  | tup ys =>
    cases (show ys = xs from Option.some.inj h)
    obtain ⟨a, vs, e, q, rs⟩ := r
    exact ⟨a, vs, e, .inr (hK ▸ q.sqT), rs⟩
  | lst ys =>
    obtain ⟨a, vs, e, q, rs⟩ := lst_inv g r (show lstOf m (.lst ys) = some xs from h)
    exact ⟨a, vs, e, .inl (.inl (.inl q)), rs⟩
  | ref n =>
    obtain ⟨a, vs, e, q, rs⟩ := lst_inv g r (show lstOf m (.ref n) = some xs from h)
    exact ⟨a, vs, e, .inl (.inl (.inl q)), rs⟩
  | _ => cases h
theorem dic_inv {d : D} {x : V} {p : List Key × List D} (g : Good G μ τ m H) (r : Rep G μ τ H d x) (h : dicOf m d = some p) : ∃ a vs, x = .ref a ∧ H a = some (.dK (p.1.zip vs)) ∧ p.1.length = vs.length ∧ Reps G μ τ H p.2 vs := by
  cases d with
  | dic ks ys =>
    cases (show (ks, ys) = p from Option.some.inj h)
    obtain ⟨a, vs, e, q, l, _, _, rs⟩ := r
    exact ⟨a, vs, e, q, l, rs⟩
  | ref n =>
    obtain ⟨a, e, q⟩ := r
    unfold dicOf at h
    dsimp only at h
    cases hc : m[n]? with
    | none => rw [hc] at h; cases h
    | some c =>
      rw [hc] at h
      cases c with
      | dic ks ys =>
        cases (show (ks, ys) = p from Option.some.inj h)
        obtain ⟨vs, h1, l, h2⟩ := g.cell n _ a hc q
        exact ⟨a, vs, e, h1, l, h2⟩
      | _ => cases h
  | _ => cases h
theorem res_dp {d : D} {x : V} (hK : G.K = X.K) (g : Good G μ τ m H) (r : Rep G μ τ H d x) {n : Nat} (h : plain n (res m d) = true) : Dp X.K H x (pd (res m d)) ∧ (pd (res m d)).canLay0 = true ∧ (pd (res m d)).depth ≤ n := by
  cases d with
  | ref k =>
    obtain ⟨a, e, q⟩ := r
    unfold res at h ⊢
    dsimp only at h ⊢
    cases hc : m[k]? with
    | none => rw [hc] at h; cases n <;> exact nomatch h
    | some c =>
      rw [hc] at h
      cases c with
      | lst ys =>
        dsimp only at h ⊢
        obtain ⟨vs, h1, h2⟩ := g.cell k _ a hc q
        cases n with
        | zero => exact nomatch h
        | succ n =>
          obtain ⟨s1, s2⟩ := Reps.shaped ys n vs h h2
          rw [e]
          exact ⟨.lst (.inl (.inl h1)) (Reps.dp hK ys n vs h h2), s1, Nat.succ_le_succ s2⟩
      | _ => cases n <;> exact nomatch h
  | _ => exact ⟨Rep.dp hK _ n x h r, Rep.shaped _ n x h r⟩

/-! ### operators -/
theorem here1 {d : D} {x : V} (h : Pst G W σ μ τ H (RD G τ) (.ok d m) Q) (g : Good G μ τ m H) (r : Rep G μ τ H d x) : Q x H := Pst.here h g r
/-- a new tuple -/
theorem newT {ds : List D} {vs : List V} {p : Addr} {o : Obj} (h : Pst G W σ μ τ H (RD G τ) (.ok (.tup ds) m) Q) (g : Good G μ τ m H) (rs : Reps G μ τ H ds vs) (hp : H p = none) (ho : o.dict = none) : Q (.ref p) (upd H p (.frz o (.tup vs))) := by
  have nl : Nxt μ τ H μ (p :: τ) (upd H p (.frz o (.tup vs))) := Nxt.laid hp
  exact h (.ref p) _ μ nl.free (g.laid hp).free ⟨p, vs, rfl, TupS.of upd_same ho, rs.next nl.free g⟩
/-- a new list -/
theorem newL {ds : List D} {vs : List V} {p : Addr} (h : PstF G W σ μ τ H (.ok (.lst ds) m) Q) (g : Good G μ τ m H) (rs : Reps G μ τ H ds vs) (hp : H p = none) : Q (.ref p) (upd H p (.lst vs)) := by
  have nl : Nxt μ τ H μ (p :: τ) (upd H p (.lst vs)) := Nxt.laid hp
  exact h p vs _ μ nl hp (g.laid hp) upd_same (rs.next nl g)
theorem sOk_add {x y : Str} (hx : sOk x = true) (hy : sOk y = true) : sOk (x ++ y) = true := by
  show Array.all (x.cps ++ y.cps) _ = true
  unfold sOk at hx hy
  rw [Array.all_append, hx, hy]; rfl
theorem Reps.ne {ds : List D} {vs : List V} (r : Reps G μ τ H ds vs) (h : ds ≠ []) : vs ≠ [] := by
  intro z
  subst z
  have := r.length
  cases ds with
  | nil => exact h rfl
  | cons _ _ => simp at this
/-- like rOp, for what may be a new list -/
def rOpF (G : Gw) (k : D → D → Mem → R D) : R2 := fun x y H Q => ∃ (W : WX) (σ : L2.St) (d e : D) (m : Mem) (μ τ : List Addr), Good G μ τ m H ∧ Rep G μ τ H d x ∧ Rep G μ τ H e y ∧ PstF G W σ μ τ H (k d e m) Q
theorem opF {f : Value → Value → Sem Value} {k : D → D → Mem → R D} (h : OpR X f (rOpF G k)) : OpR X f (rOp G k) := fun pins s σ H x y v u Q I rx ry ⟨W, σ', d, e, m, μ, τ, g, r1, r2, q⟩ =>
  h pins s σ H x y v u Q I rx ry ⟨W, σ', d, e, m, μ, τ, g, r1, r2, PstF.of g q⟩
theorem twoF {a b : Expr} {fa fb : Rho → Mem → R D} {k : D → D → Mem → R D} {σ : L2.St} {H : Hp} {Q : VK} (h : rdF G W (fun ρ m => (fa ρ m).bind fun d m1 => (fb ρ m1).bind fun e m2 => k d e m2) σ H Q) :
    tOp (rOpF G k) (rdE G W fa) (rdE G W fb) σ H Q := by
  obtain ⟨ρ, m, μ, τ, g, s, h⟩ := h
  refine ⟨ρ, m, μ, τ, g, s, (PstF.bind (RP := RD G τ) g h).imp fun x H1 ⟨d, m1, μ1, n1, g1, r1, h1⟩ => ?_⟩
  refine ⟨ρ, m1, μ1, τ, g1, s.nxt g n1, (PstF.bind (RP := RD G τ) g1 h1).imp fun y H2 ⟨e, m2, μ2, n2, g2, r2, h2⟩ => ?_⟩
  exact ⟨W, σ, d, e, m2, μ2, τ, g2, r1.next n2 g1, r2, h2⟩
theorem okT {a b : Nat} (h : a ≤ b) (e : b = lim) : a ≤ sizeLine := by rw [← lim_eq, ← e]; exact h
theorem op_addF (hK : G.K = X.K) : OpR X (binaryOp .Add) (rOpF G addD) := by
  intro pins s σ H x y v u Q I rx ry h
  obtain ⟨W, σ', d, e, m, μ, τ, g, r1, r2, q⟩ := h
  unfold addD at q
  split at q
  · cases (show x = _ from r1); cases (show y = _ from r2)
    exact op_add pins s σ H _ _ v u Q I rx ry ⟨_, _, rfl, rfl, Pst.here (W := W) (σ := σ') q g rfl⟩
  · rename_i x1 x2
    cases (show x = _ from r1.1); cases (show y = _ from r2.1)
    by_cases hl : x1.length + x2.length ≤ lim
    · rw [if_pos hl] at q
      exact op_add_str pins s σ H _ _ v u Q I rx ry ⟨_, _, rfl, rfl, by rw [← lim_eq]; exact hl, Pst.here (W := W) (σ := σ') q g ⟨rfl, sOk_add r1.2 r2.2⟩⟩
    · rw [if_neg hl] at q; exact False.elim q
  · rename_i xs ys
    by_cases hl : xs.length + ys.length ≤ lim
    · rw [if_pos hl] at q
      obtain ⟨a, vs, rfl, p1, s1⟩ := r1
      obtain ⟨b, ws, rfl, p2, s2⟩ := r2
      refine op_catF pins s σ H _ _ v u Q I rx ry ⟨a, b, vs, ws, rfl, rfl, hK ▸ p1.sqT, hK ▸ p2.sqT, by rw [← lim_eq, s1.length, s2.length]; exact hl, fun z => ?_, fun _ z => ?_, fun _ _ p o hp ho => ?_⟩
      · subst z
        refine Pst.here (W := W) (σ := σ') q g ⟨b, ws, rfl, p2, ?_⟩
        exact s1.append s2
      · subst z
        refine Pst.here (W := W) (σ := σ') q g ⟨a, vs, rfl, p1, ?_⟩
        have := s1.append s2
        rw [List.append_nil] at this
        exact this
      · exact newT (W := W) (σ := σ') q g (s1.append s2) hp ho
    · rw [if_neg hl] at q; exact False.elim q
  · rename_i d' e' h1 h2 h3
    split at q
    · rename_i xs ys l1 l2
      by_cases hl : xs.length + ys.length ≤ lim
      · rw [if_pos hl] at q
        obtain ⟨a, vs, rfl, p1, s1⟩ := lst_inv g r1 l1
        obtain ⟨b, ws, rfl, p2, s2⟩ := lst_inv g r2 l2
        exact op_cat pins s σ H _ _ v u Q I rx ry ⟨a, b, vs, ws, rfl, rfl, p1, p2, by rw [← lim_eq, s1.length, s2.length]; exact hl, fun p hp => newL q g (s1.append s2) hp⟩
      · rw [if_neg hl] at q; exact False.elim q
    · exact False.elim q
theorem Reps.flat {ds : List D} {vs : List V} (r : Reps G μ τ H ds vs) : ∀ k : Nat, Reps G μ τ H (List.replicate k ds).flatten (List.replicate k vs).flatten
  | 0 => rfl
  | k + 1 => by
    rw [List.replicate_succ, List.replicate_succ, List.flatten_cons, List.flatten_cons]
    exact r.append (Reps.flat r k)
theorem op_mulF (hK : G.K = X.K) : OpR X (binaryOp .Mult) (rOpF G mulD) := by
  intro pins s σ H x y v u Q I rx ry h
  obtain ⟨W, σ', d, e, m, μ, τ, g, r1, r2, q⟩ := h
  unfold mulD at q
  split at q
  · rename_i i j
    cases (show x = _ from r1); cases (show y = _ from r2)
    by_cases hl : mulOk i j = true
    · rw [if_pos hl] at q
      exact op_mul pins s σ H _ _ v u Q I rx ry ⟨_, _, rfl, rfl, (show (-(2 ^ 64) < i ∧ i < 2 ^ 64) ∨ (-(2 ^ 64) < j ∧ j < 2 ^ 64) from of_decide_eq_true hl), Pst.here (W := W) (σ := σ') q g rfl⟩
    · rw [if_neg hl] at q; exact False.elim q
  · rename_i xs k
    cases (show y = _ from r2)
    by_cases hl : xs.isEmpty = false ∧ -1000 ≤ k ∧ k ≤ 1000 ∧ xs.length ≤ 1000
    · rw [if_pos hl] at q
      obtain ⟨a, vs, rfl, p1, s1⟩ := r1
      have q : Pst G W σ' μ τ H (RD G τ) (.ok (.tup (List.replicate k.toNat xs).flatten) m) Q := q
      have hne : vs ≠ [] := fun e => by
        have z := s1.length
        rw [e] at z
        have e0 : xs = [] := List.eq_nil_of_length_eq_zero (by rw [← z]; rfl)
        rw [e0] at hl
        exact absurd hl.1 (by decide)
      refine op_mulT pins s σ H _ _ v u Q I rx ry ⟨a, k, vs, rfl, rfl, hK ▸ p1.sqT, hne, hl.2.1, hl.2.2.1, by rw [s1.length]; exact hl.2.2.2, fun e => ?_, fun _ p o hp ho => newT (W := W) (σ := σ') q g (s1.flat k.toNat) hp ho⟩
      subst e
      have q : Pst G W σ' μ τ H (RD G τ) (.ok (.tup (List.replicate 1 xs).flatten) m) Q := q
      rw [show (List.replicate 1 xs).flatten = xs by simp] at q
      exact Pst.here q g ⟨a, vs, rfl, p1, s1⟩
    · rw [if_neg hl] at q; exact False.elim q
  · rename_i k _ _
    cases (show y = _ from r2)
    split at q
    · rename_i xs l1
      by_cases hl : xs.length * k.toNat ≤ lim ∧ -(2 ^ 63) ≤ k ∧ k < 2 ^ 63
      · rw [if_pos hl] at q
        obtain ⟨a, vs, rfl, p1, s1⟩ := lst_inv g r1 l1
        exact op_rep pins s σ H _ _ v u Q I rx ry ⟨a, k, vs, rfl, rfl, p1, hl.2.1, hl.2.2, by rw [← lim_eq, s1.length]; exact hl.1, fun p hp => newL q g (s1.flat k.toNat) hp⟩
      · rw [if_neg hl] at q; exact False.elim q
    · exact False.elim q
  · exact False.elim q
/-- every operator that is served -/
theorem op_binF (hK : G.K = X.K) (op : Operator) : OpR X (binaryOp op) (rOpF G (binD op)) := by
  intro pins s σ H x y v u Q I rx ry h
  cases op with
  | Add => exact op_addF hK pins s σ H x y v u Q I rx ry h
  | Mult => exact op_mulF hK pins s σ H x y v u Q I rx ry h
  | Sub =>
    obtain ⟨W, σ', d, e, m, μ, τ, g, r1, r2, q⟩ := h
    unfold binD at q
    dsimp only at q
    split at q
    · cases (show x = _ from r1); cases (show y = _ from r2)
      exact op_sub pins s σ H _ _ v u Q I rx ry ⟨_, _, rfl, rfl, Pst.here (W := W) (σ := σ') q g rfl⟩
    · exact False.elim q
  | FloorDiv =>
    obtain ⟨W, σ', d, e, m, μ, τ, g, r1, r2, q⟩ := h
    unfold binD at q
    dsimp only at q
    split at q
    · rename_i i j
      cases (show x = _ from r1); cases (show y = _ from r2)
      by_cases hl : j ≠ 0 ∧ j.natAbs < 1073741824
      · rw [if_pos hl] at q
        exact op_fdivN pins s σ H _ _ v u Q I rx ry ⟨_, _, rfl, rfl, hl, Pst.here (W := W) (σ := σ') q g rfl⟩
      · rw [if_neg hl] at q; exact False.elim q
    · exact False.elim q
  | Mod =>
    obtain ⟨W, σ', d, e, m, μ, τ, g, r1, r2, q⟩ := h
    unfold binD at q
    dsimp only at q
    split at q
    · rename_i i j
      cases (show x = _ from r1); cases (show y = _ from r2)
      by_cases hl : j ≠ 0
      · rw [if_pos hl] at q
        exact op_modN pins s σ H _ _ v u Q I rx ry ⟨_, _, rfl, rfl, hl, Pst.here (W := W) (σ := σ') q g rfl⟩
      · rw [if_neg hl] at q; exact False.elim q
    · exact False.elim q
  | Pow =>
    obtain ⟨W, σ', d, e, m, μ, τ, g, r1, r2, q⟩ := h
    unfold binD at q
    dsimp only at q
    split at q
    · rename_i i j
      cases (show x = _ from r1); cases (show y = _ from r2)
      by_cases hl : 0 ≤ j ∧ j ≤ 1000000 ∧ i.natAbs < 2 ^ 64
      · rw [if_pos hl] at q
        exact op_pow pins s σ H _ _ v u Q I rx ry ⟨_, _, rfl, rfl, hl, Pst.here (W := W) (σ := σ') q g rfl⟩
      · rw [if_neg hl] at q; exact False.elim q
    · exact False.elim q
  | _ =>
    obtain ⟨W, σ', d, e, m, μ, τ, g, r1, r2, q⟩ := h
    exact False.elim q

/-! ### comparisons -/
/-- what a comparison by values wants -/
abbrev kCmp (op : CmpOp) : D → D → Mem → R D := fun d e m => R.of ((cmpD op d e m).map .bl) m
theorem cmp_inv {o : Option Bool} (h : Pst G W σ μ τ H (RD G τ) (R.of (o.map .bl) m) Q) (g : Good G μ τ m H) : ∃ b, o = some b ∧ Q (.bl b) H := by
  cases o with
  | none => exact False.elim h
  | some b => exact ⟨b, rfl, Pst.here h g rfl⟩
theorem shaped_of {d : PyData} (h : d.canLay0 = true) (h2 : d.depth ≤ 60) : SeqAt.shaped d = true := by
  unfold SeqAt.shaped
  rw [h, Bool.true_and]
  exact decide_eq_true (by omega)
theorem eq_inv {d e : D} {x y : V} {b : Bool} (hK : G.K = X.K) (g : Good G μ τ m H) (r1 : Rep G μ τ H d x) (r2 : Rep G μ τ H e y) (h : eqP m d e = some b) :
    ∃ p q, Dp X.K H x p ∧ Dp X.K H y q ∧ SeqAt.shaped p = true ∧ SeqAt.shaped q = true ∧ p.depth ≤ 60 ∧ b = PyData.eqv p q := by
  unfold eqP at h
  by_cases hp : (plain 60 (res m d) && plain 60 (res m e)) = true
  · rw [if_pos hp] at h
    rw [Bool.and_eq_true] at hp
    obtain ⟨a1, a2, a3⟩ := res_dp hK g r1 hp.1
    obtain ⟨b1, b2, b3⟩ := res_dp hK g r2 hp.2
    exact ⟨_, _, a1, b1, shaped_of a2 a3, shaped_of b2 b3, a3, (Option.some.inj h).symm⟩
  · rw [if_neg hp] at h; cases h
theorem get_key (q : Key) {d : D} : ∀ (ks : List Key) (ds : List D) (vs : List V), Reps G μ τ H ds vs → dget ks ds q = some d → ∃ v, valV (ks.zip vs) q = some v ∧ Rep G μ τ H d v
  | [], _, _, _, h => by cases h
  | k :: ks, [], _, _, h => by cases h
  | k :: ks, x :: ds, vs, r, h => by
    obtain ⟨v, r', rfl, p, rs⟩ := r
    unfold dget at h
    by_cases e : k = q
    · rw [if_pos e] at h
      cases h
      exact ⟨v, valV_pos (p := (k, v)) e, p⟩
    · rw [if_neg e] at h
      obtain ⟨w, h1, h2⟩ := get_key q ks ds r' rs h
      exact ⟨w, (valV_neg (p := (k, v)) e).trans h1, h2⟩
theorem get_none (q : Key) : ∀ (ks : List Key) (ds : List D) (vs : List V), ks.length = vs.length → Reps G μ τ H ds vs → dget ks ds q = none → valV (ks.zip vs) q = none
  | [], _, _, _, _, _ => rfl
  | k :: ks, [], vs, l, r, _ => by cases (show vs = [] from r); simp at l
  | k :: ks, x :: ds, vs, l, r, h => by
    obtain ⟨v, r', rfl, p, rs⟩ := r
    unfold dget at h
    by_cases e : k = q
    · rw [if_pos e] at h; cases h
    · rw [if_neg e] at h
      exact (valV_neg (p := (k, v)) e).trans (get_none q ks ds r' (by simpa using l) rs h)
/-- two dicts, entry by entry -/
theorem hits_d {pins : List (Addr × Obj)} {σ : L2.St} {s : Shared} (I : Inv X pins σ H s) (hK : G.K = X.K) (g : Good G μ τ m H) {ls : List Key} {ys : List D} {ws : List V} (rs : Reps G μ τ H ys ws) (hl : ls.length = ws.length) {vb : List (Key × Value)} (rb : KV (ls.zip ws) vb) {A : Around} (hu : A.units + 62 < cLine) :
    ∀ (ks : List Key) (xs : List D) (vs : List V) (va : List (Key × Value)) (r : Bool), Reps G μ τ H xs vs → ks.length = vs.length → KV (ks.zip vs) va → eqKs m ls ys ks xs = some r → PySem.W.KeqHits A s vb va r
  | [], xs, vs, va, r, _, _, ra, h => by
    cases ra
    have h : some true = some r := h
    cases h
    exact .nil
  | k :: ks, [], vs, va, r, rx, l, _, _ => by
    cases (show vs = [] from rx)
    simp at l
  | k :: ks, x :: xs, _, va, r, rx, l, ra, h => by
    obtain ⟨v, vs, rfl, r1, r2⟩ := rx
    rw [List.zip_cons_cons] at ra
    cases ra with
    | @cons _ q _ qs e1 e2 =>
      obtain ⟨kk, u⟩ := q
      obtain ⟨f1, f2⟩ := e1
      cases (show k = kk from f1)
      unfold eqKs at h
      split at h
      · rename_i hn
        cases h
        have z := rb.val k
        rw [get_none k ls ys ws hl rs hn] at z
        refine .miss ?_
        cases hv : valueAt vb k with
        | none => rfl
        | some y => rw [hv] at z; exact False.elim z
      · rename_i y hy
        obtain ⟨w, g1, g2⟩ := get_key k ls ys ws rs hy
        have z := rb.val k
        rw [g1] at z
        obtain ⟨yv, hyv, ry⟩ := z.some_of
        split at h
        · rename_i e b he hb
          cases h
          obtain ⟨p, p', h1, h2, h3, h4, h5, rfl⟩ := eq_inv hK g r1 g2 he
          obtain ⟨as, q1⟩ := Dp.reads I p v u h1 f2
          obtain ⟨bs, q2⟩ := Dp.reads I p' w yv h2 ry
          have d0 : ∀ {n : PyData}, SeqAt.shaped n = true → n.canLay0 = true ∧ n.depth ≤ 64 := fun {n} hs => by
            unfold SeqAt.shaped at hs
            rw [Bool.and_eq_true, decide_eq_true_eq] at hs
            exact ⟨hs.1, by omega⟩
          refine .hit hyv (SeqAt.eqAt_reads p p' A s u yv as bs q1 q2 (d0 h3).1 (d0 h4).1 ?_) (hits_d I hK g rs hl rb hu ks xs vs qs b r2 (by simpa using l) e2 hb)
          omega
        · cases h
theorem eq_cases {d e : D} {b : Bool} (h : eqD m d e = some b) : eqP m d e = some b ∨ ∃ p q, dicOf m d = some p ∧ dicOf m e = some q ∧ ((p.1.length = q.1.length ∧ eqKs m q.1 q.2 p.1 p.2 = some b) ∨ (p.1.length ≠ q.1.length ∧ b = false)) := by
  unfold eqD at h
  split at h
  · rename_i p q h1 h2
    refine .inr ⟨p, q, h1, h2, ?_⟩
    by_cases hl : p.1.length = q.1.length
    · rw [if_pos hl] at h
      exact .inl ⟨hl, h⟩
    · rw [if_neg hl] at h
      cases h
      exact .inr ⟨hl, rfl⟩
  · exact .inl h
theorem dic_two {pins : List (Addr × Obj)} {σ : L2.St} {s : Shared} {d e : D} {x y : V} {v u : Value} {b : Bool} {p q : List Key × List D} (I : Inv X pins σ H s) (hK : G.K = X.K) (g : Good G μ τ m H) (hu : X.A.units + 64 < cLine) (r1 : Rep G μ τ H d x) (r2 : Rep G μ τ H e y) (rx : RelV x v) (ry : RelV y u) (h1 : dicOf m d = some p) (h2 : dicOf m e = some q)
    (h : (p.1.length = q.1.length ∧ eqKs m q.1 q.2 p.1 p.2 = some b) ∨ (p.1.length ≠ q.1.length ∧ b = false)) :
    ∃ a1 a2 va vb r, v = .ref a1 ∧ u = .ref a2 ∧ (a1 == sysModules) = false ∧ (a2 == sysModules) = false ∧ s.heap.DictOf (mixKind X.prog X.w) a1 va ∧ s.heap.DictOf (mixKind X.prog X.w) a2 vb ∧ (va.length = vb.length → PySem.W.KeqHits X.A.in1 s vb va r) ∧ (va.length == vb.length && r) = b := by
  obtain ⟨a1, vs, rfl, e1, l1, s1⟩ := dic_inv g r1 h1
  obtain ⟨a2, ws, rfl, e2, l2, s2⟩ := dic_inv g r2 h2
  obtain rfl : v = Value.ref a1 := rx
  obtain rfl : u = Value.ref a2 := ry
  obtain ⟨_, ya, va, ra, da⟩ := (show ObjOk X.prog X.w H s.heap a1 (.dK (p.1.zip vs)) from I.hok a1 _ e1)
  obtain ⟨_, yb, vb, rb, db⟩ := (show ObjOk X.prog X.w H s.heap a2 (.dK (q.1.zip ws)) from I.hok a2 _ e2)
  have n1 : va.length = p.1.length := by rw [← ra.length, List.length_zip, ← l1, Nat.min_self]
  have n2 : vb.length = q.1.length := by rw [← rb.length, List.length_zip, ← l2, Nat.min_self]
  rcases h with ⟨hl, hk⟩ | ⟨hl, rfl⟩
  · refine ⟨a1, a2, va, vb, b, rfl, rfl, ya, yb, da, db, fun _ => hits_d I hK g s2 l2 rb (A := X.A.in1) (by show X.A.units + 1 + 62 < cLine; omega) p.1 p.2 vs va b s1 l1 ra hk, ?_⟩
    rw [n1, n2, hl]; simp
  · refine ⟨a1, a2, va, vb, true, rfl, rfl, ya, yb, da, db, fun z => absurd (by rw [n1, n2] at z; exact z) hl, ?_⟩
    rw [n1, n2]; simp [hl]
theorem op_eqO (hK : G.K = X.K) (hu : X.A.units + 64 < cLine) : OpR X (compareOp .Eq) (rOp G (kCmp .Eq)) := by
  intro pins s σ H x y v u Q I rx ry ⟨W, σ', d, e, m, μ, τ, g, r1, r2, q⟩
  obtain ⟨b, hb, q⟩ := cmp_inv q g
  rcases eq_cases (show eqD m d e = some b from hb) with hb | ⟨p, p', h1, h2, hb⟩
  · obtain ⟨p, p', h1, h2, h3, h4, h5, rfl⟩ := eq_inv hK g r1 r2 hb
    exact op_eqD hu pins s σ H x y v u Q I rx ry ⟨p, p', h1, h2, h3, h4, q⟩
  · obtain ⟨a1, a2, va, vb, r, rfl, rfl, ya, yb, da, db, hits, hr⟩ := dic_two I hK g hu r1 r2 rx ry h1 h2 hb
    exact PySem.W.keq_eq (knd := mixKind X.prog X.w) (r := r) ya yb da db (by omega) hits (fin_bl I q hr.symm)
theorem op_neO (hK : G.K = X.K) (hu : X.A.units + 64 < cLine) : OpR X (compareOp .NotEq) (rOp G (kCmp .NotEq)) := by
  intro pins s σ H x y v u Q I rx ry ⟨W, σ', d, e, m, μ, τ, g, r1, r2, q⟩
  obtain ⟨b, hb, q⟩ := cmp_inv q g
  have hb : (eqD m d e).map (!·) = some b := hb
  cases he : eqD m d e with
  | none => rw [he] at hb; cases hb
  | some c =>
    rw [he] at hb
    cases (show (!c) = b from Option.some.inj hb)
    rcases eq_cases he with hb | ⟨p, p', h1, h2, hb⟩
    · obtain ⟨p, p', h1, h2, h3, h4, h5, rfl⟩ := eq_inv hK g r1 r2 hb
      exact op_neD hu pins s σ H x y v u Q I rx ry ⟨p, p', h1, h2, h3, h4, q⟩
    · obtain ⟨a1, a2, va, vb, r, rfl, rfl, ya, yb, da, db, hits, hr⟩ := dic_two I hK g hu r1 r2 rx ry h1 h2 hb
      exact PySem.W.keq_ne (knd := mixKind X.prog X.w) (r := r) ya yb da db (by omega) hits (fin_bl I q (by rw [hr]))
/-- data are read as data -/
theorem reads_of {d : D} {x : V} {v : Value} {n : Nat} (hK : G.K = X.K) (I : Inv X pins σ H s) (r : Rep G μ τ H d x) (h : plain n d = true) (rx : RelV x v) : ∃ as, Reads s.heap v (pd d) as := Dp.reads I (pd d) x v (Rep.dp hK d n x h r) rx
theorem lt_data {d e : D} {x y : V} {v u : Value} (hK : G.K = X.K) (hu : X.A.units + 64 < cLine) (I : Inv X pins σ H s) (r1 : Rep G μ τ H d x) (r2 : Rep G μ τ H e y) (rx : RelV x v) (ry : RelV y u) (h1 : plain 60 d = true) (h2 : plain 60 e = true) (ha : PySem.W.alike (pd d) (pd e) = true) (hn : pd d ≠ .none)
    (q : Q (.bl (PySem.W.dataLt (pd d) (pd e))) H) : wpAny (model X.prog X.w) X.A (compareOp .Lt v u) (EP X pins σ Q) X.xe s := by
  obtain ⟨as, q1⟩ := reads_of hK I r1 h1 rx
  obtain ⟨bs, q2⟩ := reads_of hK I r2 h2 ry
  have e1 := (Rep.shaped d 60 x h1 r1).2
  have e2 : min (pd d).depth (pd e).depth ≤ (pd d).depth := Nat.min_le_left _ _
  exact PySem.W.rcLt_alike (pd d) (pd e) X.A s v u as bs q1 q2 ha hn (by omega) X.prog X.w _ _ ⟨.bl _, H, I, rfl, q⟩
theorem op_ltO (hK : G.K = X.K) (hu : X.A.units + 64 < cLine) : OpR X (compareOp .Lt) (rOp G (kCmp .Lt)) := by
  intro pins s σ H x y v u Q I rx ry ⟨W, σ', d, e, m, μ, τ, g, r1, r2, q⟩
  obtain ⟨b, hb, q⟩ := cmp_inv q g
  have hb : ltD d e = some b := hb
  unfold ltD at hb
  split at hb
  · cases (show x = _ from r1); cases (show y = _ from r2)
    cases hb
    exact op_lt pins s σ H _ _ v u Q I rx ry ⟨_, _, rfl, rfl, q⟩
  · cases (show x = _ from r1.1); cases (show y = _ from r2.1)
    cases hb
    exact op_lt_str pins s σ H _ _ v u Q I rx ry ⟨_, _, rfl, rfl, q⟩
  · rename_i xs _
    by_cases hc : (plain 60 (.tup xs) && plain 60 e && PySem.W.alike (pd (.tup xs)) (pd e)) = true
    · rw [if_pos hc] at hb
      cases Option.some.inj hb
      simp only [Bool.and_eq_true] at hc
      obtain ⟨⟨c1, c2⟩, c3⟩ := hc
      exact lt_data hK hu I r1 r2 rx ry c1 c2 c3 (fun z => nomatch z) q
    · rw [if_neg hc] at hb; cases hb
  · cases hb
theorem two_ints {op : CmpOp} {p : Int → Int → Bool} {f : D → D → Option Bool} (ho : OpR X (compareOp op) (rI0 fun i j => .bl (p i j))) (hf : ∀ d e b, f d e = some b → ∃ i j, d = .int i ∧ e = .int j ∧ b = p i j) :
    OpR X (compareOp op) (rOp G fun d e m => R.of ((f d e).map .bl) m) := by
  intro pins s σ H x y v u Q I rx ry ⟨W, σ', d, e, m, μ, τ, g, r1, r2, q⟩
  obtain ⟨b, hb, q⟩ := cmp_inv q g
  obtain ⟨i, j, rfl, rfl, rfl⟩ := hf d e b hb
  exact ho pins s σ H x y v u Q I rx ry ⟨i, j, r1, r2, q⟩
theorem int_case {p : Int → Int → Bool} {d e : D} {b : Bool} (h : (match d, e with | .int i, .int j => some (p i j) | _, _ => none) = some b) : ∃ i j, d = .int i ∧ e = .int j ∧ b = p i j := by
  split at h
  · exact ⟨_, _, rfl, rfl, (Option.some.inj h).symm⟩
  · cases h
theorem op_isO : OpR X (compareOp .Is) (rOp G (kCmp .Is)) := by
  intro pins s σ H x y v u Q I rx ry ⟨W, σ', d, e, m, μ, τ, g, r1, r2, q⟩
  obtain ⟨b, hb, q⟩ := cmp_inv q g
  dsimp only [cmpD] at hb
  cases e with
  | non =>
    cases (show y = _ from r2)
    refine op_isN pins s σ H _ _ v u Q I rx ry ⟨rfl, ?_⟩
    dsimp only at hb
    cases d with
    | non => cases (show x = _ from r1); cases hb; exact q
    | bl _ => cases (show x = _ from r1); cases hb; exact q
    | int _ => cases (show x = _ from r1); cases hb; exact q
    | str _ => cases (show x = _ from r1.1); cases hb; exact q
    | tup _ => obtain ⟨a, vs, rfl, _⟩ := r1; cases hb; exact q
    | lst _ => obtain ⟨a, vs, rfl, _⟩ := r1; cases hb; exact q
    | dic _ _ => obtain ⟨a, vs, rfl, _⟩ := r1; cases hb; exact q
    | ref _ => obtain ⟨a, rfl, _⟩ := r1; cases hb; exact q
    | fn => obtain ⟨a, rfl⟩ := r1; cases hb; exact q
    | scr _ => obtain ⟨a, rfl, _⟩ := r1; cases hb; exact q
    | pr _ _ => obtain ⟨a, p, q', rfl, _⟩ := r1; cases hb; exact q
  | bl c =>
    cases d with
    | bl b' =>
      cases (show x = _ from r1); cases (show y = _ from r2)
      refine op_isBl pins s σ H _ _ v u Q I rx ry ⟨_, _, rfl, rfl, ?_⟩
      have hb : some (c == b') = some b := hb
      cases hb
      have e : decide (b' = c) = (c == b') := by cases b' <;> cases c <;> rfl
      rw [e]; exact q
    | _ => cases hb
  | _ => cases hb
theorem op_isNotO : OpR X (compareOp .IsNot) (rOp G (kCmp .IsNot)) := by
  intro pins s σ H x y v u Q I rx ry ⟨W, σ', d, e, m, μ, τ, g, r1, r2, q⟩
  obtain ⟨b, hb, q⟩ := cmp_inv q g
  dsimp only [cmpD] at hb
  cases e with
  | non =>
    cases (show y = _ from r2)
    refine op_notN pins s σ H _ _ v u Q I rx ry ⟨rfl, ?_⟩
    dsimp only at hb
    cases d with
    | non => cases (show x = _ from r1); cases hb; exact q
    | bl _ => cases (show x = _ from r1); cases hb; exact q
    | int _ => cases (show x = _ from r1); cases hb; exact q
    | str _ => cases (show x = _ from r1.1); cases hb; exact q
    | tup _ => obtain ⟨a, vs, rfl, _⟩ := r1; cases hb; exact q
    | lst _ => obtain ⟨a, vs, rfl, _⟩ := r1; cases hb; exact q
    | dic _ _ => obtain ⟨a, vs, rfl, _⟩ := r1; cases hb; exact q
    | ref _ => obtain ⟨a, rfl, _⟩ := r1; cases hb; exact q
    | fn => obtain ⟨a, rfl⟩ := r1; cases hb; exact q
    | scr _ => obtain ⟨a, rfl, _⟩ := r1; cases hb; exact q
    | pr _ _ => obtain ⟨a, p, q', rfl, _⟩ := r1; cases hb; exact q
  | _ => cases hb

/-! ### in -/
/-- by what an item is: equal to what is sought -/
noncomputable def isIt (h : Heap) (p : PyData) (y : Value) : Bool := by
  classical
  exact if q : ∃ c as, Reads h y c as ∧ c.canLay0 = true then PyData.eqv q.choose p else false
theorem isIt_of {h : Heap} {p c : PyData} {y : Value} {as : List Addr} (r : Reads h y c as) (l : c.canLay0 = true) : isIt h p y = PyData.eqv c p := by
  have q : ∃ c as, Reads h y c as ∧ c.canLay0 = true := ⟨c, as, r, l⟩
  obtain ⟨as', r', l'⟩ := q.choose_spec
  have e : q.choose = c := SeqAt.Reads.unique _ _ _ _ _ l' r' r
  unfold isIt
  rw [dif_pos q, e]
theorem any_isIt {p : PyData} {n : Nat} (hK : G.K = X.K) (I : Inv X pins σ H s) : ∀ {xs : List D} {vs : List V} {us : List Value}, Reps G μ τ H xs vs → Vals vs us → xs.all (plain n) = true → us.any (isIt s.heap p) = xs.any fun y => PyData.eqv (pd y) p
  | [], _, _, r, w, _ => by cases (show _ = [] from r); cases w; rfl
  | x :: xs, _, _, r, w, h => by
    obtain ⟨v, r', rfl, q, rs⟩ := r
    cases w with
    | cons w1 w2 =>
      rw [allF_cons, Bool.and_eq_true] at h
      obtain ⟨as, rd⟩ := reads_of hK I q h.1 w1
      rw [List.any_cons, List.any_cons, isIt_of rd (Rep.shaped x n v h.1 q).1, any_isIt hK I rs w2 h.2]
theorem each_isIt {p : PyData} {d : D} {x : V} {v : Value} {n : Nat} (hK : G.K = X.K) (hu : X.A.units + 64 < cLine) (I : Inv X pins σ H s) (hx : Dp X.K H x p) (rx : RelV x v) (cl : p.canLay0 = true) (hd : p.depth ≤ 50) :
    ∀ {xs : List D} {vs : List V} {us : List Value}, Reps G μ τ H xs vs → Vals vs us → xs.all (plain n) = true → ∀ y ∈ us, SeqAt.EqAt X.A.in1 s y v (isIt s.heap p y)
  | [], _, _, r, w, _ => by cases (show _ = [] from r); cases w; exact fun _ z => nomatch z
  | z :: xs, _, _, r, w, h => by
    obtain ⟨v', r', rfl, q, rs⟩ := r
    cases w with
    | cons w1 w2 =>
      rw [allF_cons, Bool.and_eq_true] at h
      intro y hy
      rcases List.mem_cons.mp hy with rfl | hy
      · obtain ⟨as, rd⟩ := reads_of hK I q h.1 w1
        obtain ⟨bs, rv⟩ := Dp.reads I p x v hx rx
        rw [isIt_of rd (Rep.shaped z n v' h.1 q).1]
        have e2 : min (pd z).depth p.depth ≤ p.depth := Nat.min_le_right _ _
        exact SeqAt.eqAt_reads _ _ _ _ _ _ _ _ rd rv (Rep.shaped z n v' h.1 q).1 cl (by show X.A.units + 1 + _ < _; omega)
      · exact each_isIt (d := d) hK hu I hx rx cl hd rs w2 h.2 y hy
theorem one_sign {x : Str} (h : x.length = 1) : x = ⟨#[x.cps.getD 0 0]⟩ := by
  obtain ⟨c⟩ := x
  have h : c.size = 1 := h
  obtain ⟨l⟩ := c
  match l, h with
  | [a], _ => rfl
theorem kin_get (q : Key) : ∀ (ks : List Key) (vs : List V), ks.length = vs.length → (valV (ks.zip vs) q).isSome = kin ks q
  | [], _, _ => rfl
  | k :: ks, [], h => by simp at h
  | k :: ks, v :: vs, h => by
    show (valV ((k, v) :: ks.zip vs) q).isSome = (decide (k = q) || kin ks q)
    by_cases e : k = q
    · rw [valV_pos (p := (k, v)) e, decide_eq_true e]; rfl
    · rw [valV_neg (p := (k, v)) e, decide_eq_false e, Bool.false_or]
      exact kin_get q ks vs (by simpa using h)
theorem key_V {d : D} {q : Key} {x : V} (r : Rep G μ τ H d x) (h : keyD d = some q) : x = kV q := by
  cases d with
  | int i => cases h; exact r
  | str z => cases h; exact r.1
  | _ => cases h
theorem op_inB (hK : G.K = X.K) (hu : X.A.units + 64 < cLine) (neg : Bool) : OpR X (compareOp (if neg then .NotIn else .In)) (rOp G fun d e m => R.of (((inD m d e).map fun b => if neg then !b else b).map .bl) m) := by
  intro pins s σ H x y v u Q I rx ry ⟨W, σ', d, e, m, μ, τ, g, r1, r2, q⟩
  obtain ⟨b, hb, q⟩ := cmp_inv q g
  obtain ⟨c, hc, hb⟩ := Option.map_eq_some_iff.mp hb
  subst hb
  have seqs : ∀ {e : D} {xs : List D}, Rep G μ τ H e y → seqOf m e = some xs → (if plain 50 (res m d) && xs.all (plain 50) then some (xs.any fun y => PyData.eqv (pd y) (pd (res m d))) else none) = some c →
      wpAny (model X.prog X.w) X.A (compareOp (if neg then .NotIn else .In) v u) (EP X pins σ Q) X.xe s := fun {e xs} r2 hs hc => by
    split at hc
    · rename_i hp
      rw [Bool.and_eq_true] at hp
      obtain ⟨a, vs, rfl, p, rs⟩ := seq_inv hK g r2 hs
      obtain ⟨a1, a2, a3⟩ := res_dp hK g r1 hp.1
      cases ry
      cases hc
      rcases p with p | p
      · obtain ⟨its, w1, pl, _⟩ := I.list p
        have e1 := any_isIt (p := pd (res m d)) hK I rs w1 hp.2
        have e2 := each_isIt (d := d) hK hu I a1 rx a2 a3 rs w1 hp.2
        cases neg with
        | false => exact SeqAt.in_listAt _ pl.isList (fun y hy => e2 y (by simpa using hy)) ⟨.bl _, H, I, by rw [List.any_toArray, e1]; rfl, q⟩
        | true => exact SeqAt.notIn_listAt _ pl.isList (fun y hy => e2 y (by simpa using hy)) ⟨.bl _, H, I, by rw [List.any_toArray, e1]; rfl, q⟩
      · obtain ⟨its, w1, pl, _⟩ := I.tuple p
        have e1 := any_isIt (p := pd (res m d)) hK I rs w1 hp.2
        have e2 := each_isIt (d := d) hK hu I a1 rx a2 a3 rs w1 hp.2
        cases neg with
        | false => exact SeqAt.in_tupleAt _ pl (fun y hy => e2 y (by simpa using hy)) ⟨.bl _, H, I, by rw [List.any_toArray, e1]; rfl, q⟩
        | true => exact SeqAt.notIn_tupleAt _ pl (fun y hy => e2 y (by simpa using hy)) ⟨.bl _, H, I, by rw [List.any_toArray, e1]; rfl, q⟩
    · cases hc
  unfold inD at hc
  split at hc
  · rename_i z
    split at hc
    · rename_i w
      split at hc
      · rename_i hl
        cases hc
        cases (show x = _ from r1.1); cases (show y = _ from r2.1)
        rw [one_sign hl] at rx
        cases neg with
        | false => exact op_in_sign pins s σ H _ _ v u Q I rx ry ⟨_, _, rfl, rfl, q⟩
        | true => exact op_notIn_sign pins s σ H _ _ v u Q I rx ry ⟨_, _, rfl, rfl, q⟩
      · cases hc
    · cases hc
  · split at hc
    · rename_i xs hs
      exact seqs r2 hs hc
    · split at hc
      · rename_i ks ds hd
        split at hc
        · rename_i qk hk
          cases hc
          obtain ⟨a, vs, rfl, p, l, rs⟩ := dic_inv g r2 hd
          cases key_V r1 hk
          cases ry
          have e : kin ks qk = (valV (ks.zip vs) qk).isSome := (kin_get qk ks vs l).symm
          rw [e] at q
          cases neg with
          | false => exact d_in (by omega) I (DGet.k p) rx fun s' I' => ⟨.bl _, H, I', rfl, q⟩
          | true => exact d_notIn (by omega) I (DGet.k p) rx fun s' I' => ⟨.bl _, H, I', rfl, q⟩
        · cases hc
      · cases hc
theorem op_inO (hK : G.K = X.K) (hu : X.A.units + 64 < cLine) : OpR X (compareOp .In) (rOp G (kCmp .In)) := by
  intro pins s σ H x y v u Q I rx ry ⟨W, σ', d, e, m, μ, τ, g, r1, r2, q⟩
  refine op_inB hK hu false pins s σ H x y v u Q I rx ry ⟨W, σ', d, e, m, μ, τ, g, r1, r2, ?_⟩
  have e0 : ((inD m d e).map fun b => if false = true then !b else b) = inD m d e := by cases inD m d e <;> rfl
  show Pst G W σ' μ τ H (RD G τ) (R.of (((inD m d e).map fun b => if false = true then !b else b).map .bl) m) Q
  rw [e0]
  exact q
theorem op_notInO (hK : G.K = X.K) (hu : X.A.units + 64 < cLine) : OpR X (compareOp .NotIn) (rOp G (kCmp .NotIn)) := by
  intro pins s σ H x y v u Q I rx ry ⟨W, σ', d, e, m, μ, τ, g, r1, r2, q⟩
  exact op_inB hK hu true pins s σ H x y v u Q I rx ry ⟨W, σ', d, e, m, μ, τ, g, r1, r2, q⟩
/-- every comparison -/
theorem op_cmpO (hK : G.K = X.K) (hu : X.A.units + 64 < cLine) (op : CmpOp) : OpR X (compareOp op) (rOp G (kCmp op)) := by
  cases op with
  | Eq => exact op_eqO hK hu
  | NotEq => exact op_neO hK hu
  | Lt => exact op_ltO hK hu
  | LtE => exact two_ints (f := fun d e => match d, e with | .int i, .int j => some (decide (i ≤ j)) | _, _ => none) op_le fun d e b h => int_case h
  | Gt => exact two_ints (f := fun d e => match d, e with | .int i, .int j => some (decide (j < i)) | _, _ => none) op_gt fun d e b h => int_case h
  | GtE => exact two_ints (f := fun d e => match d, e with | .int i, .int j => some (decide (j ≤ i)) | _, _ => none) op_ge fun d e b h => int_case h
  | Is => exact op_isO
  | IsNot => exact op_isNotO
  | In => exact op_inO hK hu
  | NotIn => exact op_notInO hK hu
end
end EV

/-! More primitives by their values: parts, built-in functions, methods. -/
namespace EV
open PySem PySem.Spec PyProof.Rows L2

section
variable {X : Cx} {G : Gw} {W : WX} {σ : L2.St} {μ τ : List Addr} {H : Hp} {m : Mem} {Q : VK} {pins : List (Addr × Obj)} {s : Shared}
/-! ### parts -/
theorem Reps.at {ds : List D} {vs : List V} {i : Int} {d : D} (r : Reps G μ τ H ds vs) (h : atI ds i = some d) : ∃ v, atI vs i = some v ∧ Rep G μ τ H d v := by
  unfold atI at h ⊢
  rw [r.length]
  cases hj : ixN ds.length i with
  | none => rw [hj] at h; cases h
  | some j =>
    rw [hj] at h
    exact r.get h
theorem of_inv {o : Option D} (h : Pst G W σ μ τ H (RD G τ) (R.of o m) Q) (g : Good G μ τ m H) : ∃ d, o = some d ∧ ∀ x, Rep G μ τ H d x → Q x H := by
  cases o with
  | none => exact False.elim h
  | some b => exact ⟨b, rfl, fun x r => Pst.here h g r⟩
/-- d[k] of a dict, where the text says d[k] -/
theorem ix_dict (hu : X.A.units + 64 < cLine) : IxR X (fun x y H Q => ∃ a v, x = .ref a ∧ DGet H a y (some v) ∧ Q v H) := by
  intro value slice pins s σ H x y v u Q I rx ry ⟨a, z, ex, g, q⟩ hs
  subst ex
  obtain rfl : v = Value.ref a := rx
  have hT := dict_typeIs I g
  have go : wpAny (model X.prog X.w) X.A (getItem (.ref a) u) (EP X pins σ Q) X.xe s := d_getItem (by omega) I g ry fun w' s' I' rw' => ⟨z, H, I', rw', q⟩
  unfold subscriptTail
  refine wpAny_bind ?_
  rw [getitemInPython_of_ne hT.not_modules]
  refine wpAny_bind (wpAny_specialOf hT PySem.F.slot_dict_getitem.lookup ?_)
  have last : wpAny (model X.prog X.w) X.A (subscripted slice false (.ref a) u) (fun r s₃ => wpAny (model X.prog X.w) X.A (letTemporaryGo value (.ref a) r >>= fun _ => pure r) (EP X pins σ Q) X.xe s₃) X.xe s := by
    rw [hs]
    exact wpAny_operating (wpAny_mono go (fun r s₃ h₃ => wpAny_bind (wpAny_letTemporaryGo (wpAny_pure h₃))) fun _ _ x => x)
  first
    | exact wpAny_pure (wpAny_bind last)
    | exact wpAny_bind (wpAny_pure (wpAny_bind last))
    | exact wpAny_bind last
theorem sOk_one {z : Str} {i : Int} {c : Nat} (h : sOk z = true) (e : atI z.cps.toList i = some c) : sOk ⟨#[c]⟩ = true := by
  obtain ⟨j, _, h2, _⟩ := atI_get e
  have hm : c ∈ z.cps.toList := List.mem_of_getElem? h2
  unfold sOk at h ⊢
  rw [Array.all_eq_true_iff_forall_mem] at h
  have := h c (by simpa using hm)
  simpa using this
theorem ix_D (hK : G.K = X.K) (hu : X.A.units + 64 < cLine) : IxR X (rIxD G) := by
  intro value slice pins s σ H x y v u Q I rx ry ⟨W, σ', d, e, m, μ, τ, g, r1, r2, q⟩ hs
  obtain ⟨b, hb, fin⟩ := of_inv q g
  unfold idxD at hb
  split at hb
  · rename_i z
    split at hb
    · rename_i k
      split at hb
      · rename_i hl
        obtain ⟨c, hc, hb⟩ := Option.map_eq_some_iff.mp hb
        subst hb
        cases (show x = _ from r1.1); cases (show y = _ from r2)
        exact ix_str value slice pins s σ H _ _ v u Q I rx ry ⟨z, k, c, rfl, rfl, by rw [← lim_eq]; exact hl, hc, fin _ ⟨rfl, sOk_one r1.2 hc⟩⟩ hs
      · cases hb
    · cases hb
  · split at hb
    · rename_i xs hx
      split at hb
      · rename_i k
        cases (show y = _ from r2)
        obtain ⟨a, vs, rfl, p, rs⟩ := seq_inv hK g r1 hx
        obtain ⟨w, hw, rw'⟩ := rs.at hb
        rcases p with p | p
        · exact ix_list value slice pins s σ H _ _ v u Q I rx ry ⟨a, vs, k, w, rfl, rfl, p, hw, fin _ rw'⟩ hs
        · exact ix_tup value slice pins s σ H _ _ v u Q I rx ry ⟨a, vs, k, w, rfl, rfl, p, hw, fin _ rw'⟩ hs
      · cases hb
    · split at hb
      · rename_i p hp
        split at hb
        · rename_i qk hk
          obtain ⟨a, vs, rfl, hd, l, rs⟩ := dic_inv g r1 hp
          obtain ⟨w, hw, rw'⟩ := get_key qk p.1 p.2 vs rs hb
          cases key_V r2 hk
          exact ix_dict hu value slice pins s σ H _ _ v u Q I rx ry ⟨a, w, rfl, hw ▸ DGet.k hd, fin _ rw'⟩ hs
        · cases hb
      · cases hb
theorem Reps.cut {ds : List D} {vs : List V} (lo hi : Option Int) (r : Reps G μ τ H ds vs) : Reps G μ τ H (cutD ds lo hi) (cutV vs lo hi) := by
  unfold cutD cutV
  rw [r.length]
  exact (r.drop _).take _
theorem Reps.ints (ns : List Int) : Reps G μ τ H (ns.map .int) (ns.map V.int) := by
  induction ns with
  | nil => rfl
  | cons n r ih => exact .cons rfl ih
theorem cutV_map (ns : List Int) (lo hi : Option Int) : cutV (ns.map V.int) lo hi = (cutD ns lo hi).map V.int := by
  unfold cutV cutD
  rw [List.length_map, ← List.map_drop, ← List.map_take]
theorem sOk_cut {z : Str} (lo hi : Option Int) (h : sOk z = true) : sOk (cutS z lo hi) = true := by
  unfold sOk at h ⊢
  rw [Array.all_eq_true_iff_forall_mem] at h ⊢
  intro c hc
  refine h c ?_
  unfold cutS at hc
  have hc : c ∈ (z.cps.toList.drop (HT.sIx z.length 0 lo)).take (HT.sIx z.length z.length hi - HT.sIx z.length 0 lo) := by simpa using hc
  have h2 := List.mem_of_mem_drop (List.mem_of_mem_take hc)
  simpa using h2
theorem sl_D (hK : G.K = X.K) : SlR X (rSlD G) := by
  intro pins s σ H x v vl vu lo hi sl Q I rx hsl pl pu ⟨W, σ', d, m, μ, τ, g, r, q⟩
  cases d with
  | scr ns =>
    have r' : ∃ a, x = .ref a ∧ SqL X.K H a (ns.map V.int) := by
      obtain ⟨a, rfl, ⟨p, _⟩ | p⟩ := r
      · exact ⟨a, rfl, .inl p⟩
      · exact ⟨a, rfl, hK ▸ p H⟩
    obtain ⟨a, rfl, p⟩ := r'
    refine sl_list pins s σ H _ v vl vu lo hi sl Q I rx hsl pl pu ⟨a, _, rfl, p, fun p hp => ?_⟩
    rw [cutV_map]
    exact newL q g (Reps.ints _) hp
  | str z =>
    cases (show x = _ from r.1)
    dsimp only [slcD] at q
    by_cases hl : z.length ≤ lim
    · rw [if_pos hl] at q
      exact sl_str pins s σ H _ v vl vu lo hi sl Q I rx hsl pl pu ⟨z, rfl, by rw [← lim_eq]; exact hl, Pst.here (W := W) (σ := σ') q g ⟨rfl, sOk_cut lo hi r.2⟩⟩
    · rw [if_neg hl] at q; exact False.elim q
  | tup xs =>
    obtain ⟨a, vs, rfl, p, rs⟩ := r
    dsimp only [slcD] at q
    refine sl_tupF pins s σ H _ v vl vu lo hi sl Q I rx hsl pl pu ⟨a, vs, rfl, hK ▸ p.sqT, fun hw => ?_, fun hw p' o hp ho => ?_⟩
    · refine Pst.here (W := W) (σ := σ') q g ⟨a, vs, rfl, p, ?_⟩
      have h1 := rs.cut lo hi
      have h2 : cutV vs lo hi = vs := by
        show (vs.drop (HT.sIx vs.length 0 lo)).take (HT.sIx vs.length vs.length hi - HT.sIx vs.length 0 lo) = vs
        rw [hw.1, hw.2, List.drop_zero, Nat.sub_zero, List.take_length]
      rw [h2] at h1
      exact h1
    · exact newT (W := W) (σ := σ') q g (rs.cut lo hi) hp ho
  | lst xs =>
    obtain ⟨a, vs, rfl, p, rs⟩ := lst_inv g r (show lstOf m (.lst xs) = some xs from rfl)
    exact sl_list pins s σ H _ v vl vu lo hi sl Q I rx hsl pl pu ⟨a, vs, rfl, .inl (.inl p), fun p hp => newL q g (rs.cut lo hi) hp⟩
  | ref n =>
    have q' : PstF G W σ' μ τ H (R.of ((lstOf m (.ref n)).map fun xs => .lst (cutD xs lo hi)) m) Q := q
    cases hl : lstOf m (.ref n) with
    | none => rw [hl] at q'; exact False.elim q'
    | some xs =>
      rw [hl] at q'
      obtain ⟨a, vs, rfl, p, rs⟩ := lst_inv g r hl
      exact sl_list pins s σ H _ v vl vu lo hi sl Q I rx hsl pl pu ⟨a, vs, rfl, .inl (.inl p), fun p hp => newL q' g (rs.cut lo hi) hp⟩
  | _ => exact False.elim q

/-! ### built-in functions -/
theorem one_inv {ds : List D} {xs : List V} {d : D} (e : ds = [d]) (r : Reps G μ τ H ds xs) : ∃ x, xs = [x] ∧ Rep G μ τ H d x := by
  subst e
  obtain ⟨x, r', rfl, p, rs⟩ := r
  cases (show r' = [] from rs)
  exact ⟨x, rfl, p⟩
theorem two_inv {ds : List D} {xs : List V} {d e : D} (h : ds = [d, e]) (r : Reps G μ τ H ds xs) : ∃ x y, xs = [x, y] ∧ Rep G μ τ H d x ∧ Rep G μ τ H e y := by
  subst h
  obtain ⟨x, r', rfl, p, rs⟩ := r
  obtain ⟨y, r2, rfl, p2, rs2⟩ := rs
  cases (show r2 = [] from rs2)
  exact ⟨x, y, rfl, p, p2⟩
theorem bls_of : ∀ {xs : List D} {vs : List V} {bs : List Bool}, Reps G μ τ H xs vs → allOf isB xs = some bs → vs = bs.map V.bl
  | [], _, _, r, h => by cases (show _ = [] from r); cases h; rfl
  | d :: xs, _, bs, r, h => by
    obtain ⟨v, r', rfl, p, rs⟩ := r
    unfold allOf at h
    split at h
    · rename_i b hb
      split at h
      · rename_i br hr
        cases h
        cases d with
        | bl c => cases hb; rw [bls_of rs hr, show v = V.bl b from p]; rfl
        | _ => cases hb
      · cases h
    · cases h
theorem ints_of : ∀ {xs : List D} {vs : List V} {bs : List Int}, Reps G μ τ H xs vs → allOf isI xs = some bs → vs = bs.map V.int
  | [], _, _, r, h => by cases (show _ = [] from r); cases h; rfl
  | d :: xs, _, bs, r, h => by
    obtain ⟨v, r', rfl, p, rs⟩ := r
    unfold allOf at h
    split at h
    · rename_i b hb
      split at h
      · rename_i br hr
        cases h
        cases d with
        | int c => cases hb; rw [ints_of rs hr, show v = V.int b from p]; rfl
        | _ => cases hb
      · cases h
    · cases h
theorem strs_of : ∀ {xs : List D} {vs : List V} {bs : List Str}, Reps G μ τ H xs vs → allOf isS xs = some bs → vs = bs.map V.str ∧ bs.all sOk = true
  | [], _, _, r, h => by cases (show _ = [] from r); cases h; exact ⟨rfl, rfl⟩
  | d :: xs, _, bs, r, h => by
    obtain ⟨v, r', rfl, p, rs⟩ := r
    unfold allOf at h
    split at h
    · rename_i b hb
      split at h
      · rename_i br hr
        cases h
        cases d with
        | str c =>
          cases hb
          obtain ⟨h1, h2⟩ := strs_of rs hr
          rw [h1, show v = V.str b from p.1]
          exact ⟨rfl, by rw [List.all_cons, p.2, h2]; rfl⟩
        | _ => cases hb
      · cases h
    · cases h
theorem lstb {α : Type} {f : List D → Option α} {d : D} {x : V} {bs : α} (g : Good G μ τ m H) (r : Rep G μ τ H d x) (h : (lstOf m d).bind f = some bs) : ∃ xs a vs, x = .ref a ∧ H a = some (.lst vs) ∧ Reps G μ τ H xs vs ∧ f xs = some bs := by
  cases hl : lstOf m d with
  | none => rw [hl] at h; cases h
  | some xs =>
    rw [hl] at h
    obtain ⟨a, vs, e, p, rs⟩ := lst_inv g r hl
    exact ⟨xs, a, vs, e, p, rs, h⟩
theorem c_len (hK : G.K = X.K) : CallR X (.builtin "len") (rCl G lenD) := by
  intro pins s σ H xs us Q I r ⟨W, σ', ds, m, μ, τ, g, rs, q⟩
  unfold lenD at q
  split at q
  · rename_i z
    obtain ⟨x, rfl, p⟩ := one_inv rfl rs
    cases (show x = _ from p.1)
    split at q
    · rename_i hl
      exact call_len_str pins s σ H _ us Q I r ⟨z, rfl, by rw [← lim_eq]; exact hl, Pst.here (W := W) (σ := σ') q g rfl⟩
    · exact False.elim q
  · rename_i ns
    have r' : ∃ a, xs = [.ref a] ∧ SqL X.K H a (ns.map V.int) := by
      obtain ⟨x, rfl, a, rfl, ⟨p, _⟩ | p⟩ := one_inv rfl rs
      · exact ⟨a, rfl, .inl p⟩
      · exact ⟨a, rfl, hK ▸ p H⟩
    obtain ⟨a, rfl, p⟩ := r'
    refine call_len_seq pins s σ H _ us Q I r ⟨a, _, rfl, .inl p, ?_⟩
    rw [List.length_map]
    exact Pst.here (W := W) (σ := σ') q g rfl
  · rename_i d _ _
    obtain ⟨x, rfl, p⟩ := one_inv rfl rs
    split at q
    · rename_i xs hx
      obtain ⟨a, vs, rfl, h, rv⟩ := seq_inv hK g p hx
      refine call_len_seq pins s σ H _ us Q I r ⟨a, vs, rfl, h, ?_⟩
      rw [rv.length]
      exact Pst.here (W := W) (σ := σ') q g rfl
    · split at q
      · rename_i k hk
        obtain ⟨a, vs, rfl, h, l, rv⟩ := dic_inv g p hk
        refine call_lenD pins s σ H _ us Q I r ⟨a, _, rfl, h, ?_⟩
        rw [List.length_zip, ← l, Nat.min_self]
        exact Pst.here (W := W) (σ := σ') q g rfl
      · exact False.elim q
  · exact False.elim q
theorem c_all (hc : X.calm = true) : CallR X (.builtin "all") (rCl G allD) := by
  intro pins s σ H xs us Q I r ⟨W, σ', ds, m, μ, τ, g, rs, q⟩
  unfold allD at q
  split at q
  · rename_i d
    obtain ⟨x, rfl, p⟩ := one_inv rfl rs
    split at q
    · rename_i bs hb
      obtain ⟨ys, a, vs, rfl, h, rv, hf⟩ := lstb g p hb
      have e := bls_of rv hf
      subst e
      exact cr_all hc pins s σ H _ us Q I r ⟨a, bs, rfl, .inl (.inl h), Pst.here (W := W) (σ := σ') q g rfl⟩
    · exact False.elim q
  · exact False.elim q
theorem c_any (hc : X.calm = true) : CallR X (.builtin "any") (rCl G anyD) := by
  intro pins s σ H xs us Q I r ⟨W, σ', ds, m, μ, τ, g, rs, q⟩
  unfold anyD at q
  split at q
  · rename_i d
    obtain ⟨x, rfl, p⟩ := one_inv rfl rs
    split at q
    · rename_i bs hb
      obtain ⟨ys, a, vs, rfl, h, rv, hf⟩ := lstb g p hb
      have e := bls_of rv hf
      subst e
      exact cr_any hc pins s σ H _ us Q I r ⟨a, bs, rfl, .inl (.inl h), Pst.here (W := W) (σ := σ') q g rfl⟩
    · exact False.elim q
  · exact False.elim q
theorem c_sum (hc : X.calm = true) : CallR X (.builtin "sum") (rCl G sumD) := by
  intro pins s σ H xs us Q I r ⟨W, σ', ds, m, μ, τ, g, rs, q⟩
  unfold sumD at q
  split at q
  · rename_i d
    obtain ⟨x, rfl, p⟩ := one_inv rfl rs
    split at q
    · rename_i bs hb
      obtain ⟨ys, a, vs, rfl, h, rv, hf⟩ := lstb g p hb
      have e := ints_of rv hf
      subst e
      exact cr_sum hc pins s σ H _ us Q I r ⟨a, bs, rfl, .inl (.inl h), Pst.here (W := W) (σ := σ') q g rfl⟩
    · exact False.elim q
  · exact False.elim q
theorem c_abs : CallR X (.builtin "abs") (rCl G absD) := by
  intro pins s σ H xs us Q I r ⟨W, σ', ds, m, μ, τ, g, rs, q⟩
  unfold absD at q
  split at q
  · rename_i i
    obtain ⟨x, rfl, p⟩ := one_inv rfl rs
    cases (show x = _ from p)
    exact call_abs pins s σ H _ us Q I r ⟨i, rfl, Pst.here (W := W) (σ := σ') q g rfl⟩
  · exact False.elim q
theorem c_int : CallR X (.type "int") (rCl G intD) := by
  intro pins s σ H xs us Q I r ⟨W, σ', ds, m, μ, τ, g, rs, q⟩
  unfold intD at q
  split at q
  · rename_i i
    obtain ⟨x, rfl, p⟩ := one_inv rfl rs
    cases (show x = _ from p)
    exact call_int1 pins s σ H _ us Q I r (.inl ⟨i, rfl, Pst.here (W := W) (σ := σ') q g rfl⟩)
  · rename_i b
    obtain ⟨x, rfl, p⟩ := one_inv rfl rs
    cases (show x = _ from p)
    exact call_int1 pins s σ H _ us Q I r (.inr ⟨b, rfl, Pst.here (W := W) (σ := σ') q g rfl⟩)
  · exact False.elim q
theorem sOk_of (z : String) : sOk (Str.ofString z) = true := by
  rw [Str.ofString_eq_toList]
  unfold sOk
  simp only [List.all_toArray, List.all_map]
  rw [List.all_eq_true]
  intro c hc
  refine decide_eq_true ?_
  have h := c.valid
  show c.val.toNat < 1114112
  rcases h with h | h
  · exact Nat.lt_trans h (by decide)
  · exact h.2
theorem sOk_int (i : Int) : sOk (toString i : String) = true := sOk_of _
theorem c_str : CallR X (.type "str") (rCl G strD) := by
  intro pins s σ H xs us Q I r ⟨W, σ', ds, m, μ, τ, g, rs, q⟩
  unfold strD at q
  split at q
  · rename_i i
    obtain ⟨x, rfl, p⟩ := one_inv rfl rs
    cases (show x = _ from p)
    unfold rotI at q
    split at q
    · rename_i hl
      exact call_str_int pins s σ H _ us Q I r ⟨i, rfl, hl, Pst.here (W := W) (σ := σ') q g ⟨rfl, sOk_int i⟩⟩
    · exact False.elim q
  · rename_i z
    obtain ⟨x, rfl, p⟩ := one_inv rfl rs
    cases (show x = _ from p.1)
    exact SkE.call_str_str pins s σ H _ us Q I r ⟨z, rfl, Pst.here (W := W) (σ := σ') q g p⟩
  · exact False.elim q
theorem c_repr : CallR X (.builtin "repr") (rCl G reprD) := by
  intro pins s σ H xs us Q I r ⟨W, σ', ds, m, μ, τ, g, rs, q⟩
  unfold reprD at q
  split at q
  · rename_i i
    obtain ⟨x, rfl, p⟩ := one_inv rfl rs
    cases (show x = _ from p)
    unfold rotI at q
    split at q
    · rename_i hl
      exact SkE.call_repr_int pins s σ H _ us Q I r ⟨i, rfl, hl, Pst.here (W := W) (σ := σ') q g ⟨rfl, sOk_int i⟩⟩
    · exact False.elim q
  · rename_i b
    obtain ⟨x, rfl, p⟩ := one_inv rfl rs
    cases (show x = _ from p)
    obtain ⟨u, rfl, ru⟩ := vals1 r
    cases (show u = Value.bool b from ru)
    refine PySem.P.repr_of_bool ⟨.str _, H, I.tok _, ⟨_, rfl⟩, Pst.here (W := W) (σ := σ') q g ⟨rfl, ?_⟩⟩
    cases b <;> exact sOk_of _
  · obtain ⟨x, rfl, p⟩ := one_inv rfl rs
    cases (show x = _ from p)
    obtain ⟨u, rfl, ru⟩ := vals1 r
    cases (show u = Value.none from ru)
    exact PySem.P.repr_of_none ⟨.str _, H, I.tok _, ⟨_, rfl⟩, Pst.here (W := W) (σ := σ') q g ⟨rfl, sOk_of _⟩⟩
  · rename_i z
    obtain ⟨x, rfl, p⟩ := one_inv rfl rs
    cases (show x = _ from p.1)
    obtain ⟨u, rfl, t, rfl⟩ := vals1 r
    split at q
    · rename_i hl
      exact PySem.P.repr_of_str ⟨.str _, H, I.tok _, ⟨_, rfl⟩, Pst.here (W := W) (σ := σ') q g ⟨rfl, hl.2⟩⟩ (hsz := by rw [← lim_eq]; exact hl.1)
    · exact False.elim q
  · exact False.elim q
theorem Reps.signs : ∀ {us : List Value} {cs : List Nat}, us.length = cs.length → (∀ (j : Nat) (u : Value), us[j]? = some u → ∃ c t, cs[j]? = some c ∧ u = .str ⟨#[c]⟩ t) → (∀ c ∈ cs, c < 0x110000) →
    ∃ vs, Vals vs us ∧ Reps G μ τ H (cs.map fun c => .str ⟨#[c]⟩) vs
  | [], [], _, _, _ => ⟨[], .nil, rfl⟩
  | [], _ :: _, l, _, _ => by simp at l
  | _ :: _, [], l, _, _ => by simp at l
  | u :: us, c :: cs, l, h, ho => by
    obtain ⟨c', t, e1, e2⟩ := h 0 u rfl
    cases (show some c = some c' from e1)
    obtain ⟨vs, r1, r2⟩ := Reps.signs (us := us) (cs := cs) (by simpa using l) (fun j v e => h (j + 1) v e) (fun d hd => ho d (List.mem_cons_of_mem _ hd))
    refine ⟨.str ⟨#[c]⟩ :: vs, .cons ⟨t, e2⟩ r1, .cons ⟨rfl, ?_⟩ r2⟩
    have := ho c List.mem_cons_self
    simp [sOk, this]
theorem c_tuple (hK : G.K = X.K) (hc : X.calm = true) : CallR X (.type "tuple") (rCl G tupleD) := by
  intro pins s σ H xs us Q I r ⟨W, σ', ds, m, μ, τ, g, rs, q⟩
  unfold tupleD at q
  split at q
  · rename_i z
    obtain ⟨x, rfl, p⟩ := one_inv rfl rs
    by_cases hl : z.length ≤ lim
    case neg => rw [if_neg hl] at q; exact False.elim q
    rw [if_pos hl] at q
    cases (show x = _ from p.1)
    obtain ⟨u, rfl, t, rfl⟩ := vals1 r
    refine call_tuple_str (I.ok.hd hc) z t (fun h' tk acc kp hacc => ?_) (by rw [← lim_eq]; exact hl)
    have I1 : Inv X pins σ H { s with heap := h', toks := tk } := I.kept (t' := tk) kp
    have ho := p.2
    unfold sOk at ho
    rw [Array.all_eq_true'] at ho
    obtain ⟨vs, v1, v2⟩ := Reps.signs (G := G) (μ := μ) (τ := τ) (H := H) (us := acc.toList) (cs := z.cps.toList) (by rw [Array.length_toList, Array.length_toList]; exact hacc.1) (fun j v e => by
      obtain ⟨c, w, e1, e2⟩ := hacc.2 j v (by rw [← e, Array.getElem?_toList])
      exact ⟨c, w, by rw [Array.getElem?_toList]; exact e1, e2⟩) (fun c hc => by simpa using ho c (Array.mem_toList_iff.mp hc))
    have hz : vs.length ≤ sizeLine := by
      rw [v2.length, List.length_map, Array.length_toList, ← lim_eq]; exact hl
    have I2 : Inv X pins σ (upd H h'.objs.size (.frz { cls := .type "tuple", data := .seq acc } (.tup vs))) { s with heap := h'.push { cls := .type "tuple", data := .seq acc }, toks := tk } :=
      I1.laid (t' := tk) (fun b o e => Heap.get?_push_of_some _ e) (Nat.le_refl _) (show ObjOk X.prog X.w _ _ _ (.frz _ (.tup vs)) from ⟨Heap.get?_push_size _ rfl, hz, acc.toList, v1, ⟨_, Heap.get?_push_size _ rfl, rfl, 0, by simp⟩⟩)
    exact ⟨.ref h'.objs.size, _, I2, rfl, newT (W := W) (σ := σ') q g v2 (I1.hok.fresh (Nat.le_refl _)) rfl⟩
  · rename_i d _
    obtain ⟨x, rfl, p⟩ := one_inv rfl rs
    split at q
    · rename_i ys hx
      obtain ⟨a, vs, rfl, h, rv⟩ := seq_invS hK g p hx
      refine call_tupleF pins s σ H _ us Q I r ⟨a, vs, rfl, ?_⟩
      rcases h with h | h
      · exact .inl ⟨h, fun l o hl ho => newT (W := W) (σ := σ') q g rv hl ho⟩
      · exact .inr ⟨h.sqT, Pst.here (W := W) (σ := σ') q g ⟨a, vs, rfl, hK ▸ h, rv⟩⟩
    · exact False.elim q
  · exact False.elim q
theorem keys_rep : ∀ ks : List Key, ks.all okKey = true → Reps G μ τ H (ks.map keyOf) (ks.map kV)
  | [], _ => rfl
  | k :: ks, h => by
    rw [List.all_cons, Bool.and_eq_true] at h
    refine ⟨_, _, rfl, ?_, keys_rep ks h.2⟩
    cases k with
    | inl i => exact rfl
    | inr x => exact ⟨rfl, h.1⟩
theorem c_list (hK : G.K = X.K) (hc : X.calm = true) : CallR X (.type "list") (rCl G listD) := by
  intro pins s σ H xs us Q I r ⟨W, σ', ds, m, μ, τ, g, rs, q⟩
  unfold listD at q
  split at q
  · rename_i d
    obtain ⟨x, rfl, p⟩ := one_inv rfl rs
    split at q
    · rename_i ys hx
      obtain ⟨a, vs, rfl, h, rv⟩ := seq_inv hK g p hx
      exact call_list_of pins s σ H _ us Q I r ⟨a, vs, rfl, h, fun l hl => newL q g rv hl⟩
    · split at q
      · rename_i pr hpr
        by_cases hk : pr.1.all okKey = true
        case neg => rw [if_neg hk] at q; exact False.elim q
        rw [if_pos hk] at q
        obtain ⟨a, ws, rfl, h, hl, rv⟩ := dic_inv g p hpr
        refine call_listD hc pins s σ H _ us Q I r ⟨a, _, rfl, .inl h, fun l hl2 => newL q g ?_ hl2⟩
        have ek := congrArg (List.map kV) (List.map_fst_zip (l₁ := pr.1) (l₂ := ws) (by rw [hl]; exact Nat.le_refl _))
        rw [List.map_map] at ek
        have ek : (pr.1.zip ws).map (fun kv => kV kv.1) = pr.1.map kV := ek
        rw [ek]
        exact keys_rep _ hk
      · exact False.elim q
  · exact False.elim q
theorem c_max (hK : G.K = X.K) (hc : X.calm = true) : CallR X (.builtin "max") (rCl G maxD) := by
  intro pins s σ H xs us Q I r ⟨W, σ', ds, m, μ, τ, g, rs, q⟩
  unfold maxD at q
  split at q
  · rename_i i j
    obtain ⟨x, y, rfl, p1, p2⟩ := two_inv rfl rs
    cases (show x = _ from p1); cases (show y = _ from p2)
    exact call_max2 hc pins s σ H _ us Q I r ⟨i, j, rfl, Pst.here (W := W) (σ := σ') q g rfl⟩
  · rename_i d
    obtain ⟨x, rfl, p⟩ := one_inv rfl rs
    split at q
    · rename_i z hz
      cases hq : seqOf m d with
      | none => rw [hq] at hz; cases hz
      | some xs =>
        rw [hq] at hz
        have hz : extD true xs = some z := hz
        unfold extD at hz
        split at hz
        · rename_i a0 r0 ha
          cases hz
          obtain ⟨a, vs, rfl, h, rv⟩ := seq_inv hK g p hq
          have e := ints_of rv ha
          subst e
          have fin : ∀ M : Int, M ∈ a0 :: r0 → (∀ y, y ∈ a0 :: r0 → y ≤ M) → Q (.int M) H := fun M h1 h2 => by
            obtain ⟨f1, f2⟩ := foldMax_ok r0 a0
            have z1 := h2 _ f1
            have z2 := f2 _ h1
            have e : M = foldMax a0 r0 := by omega
            exact Pst.here (W := W) (σ := σ') q g (show V.int M = V.int _ from by rw [e]; rfl)
          rcases h with h | h
          · exact cr_max hc pins s σ H _ us Q I r ⟨a, _, rfl, h, by simp, fin⟩
          · exact cr_maxT hc pins s σ H _ us Q I r ⟨a, _, rfl, h, by simp, fin⟩
        · cases hz
    · exact False.elim q
  · exact False.elim q
theorem c_min (hK : G.K = X.K) (hc : X.calm = true) : CallR X (.builtin "min") (rCl G minD) := by
  intro pins s σ H xs us Q I r ⟨W, σ', ds, m, μ, τ, g, rs, q⟩
  unfold minD at q
  split at q
  · rename_i i j
    obtain ⟨x, y, rfl, p1, p2⟩ := two_inv rfl rs
    cases (show x = _ from p1); cases (show y = _ from p2)
    exact call_min2 hc pins s σ H _ us Q I r ⟨i, j, rfl, Pst.here (W := W) (σ := σ') q g rfl⟩
  · rename_i d
    obtain ⟨x, rfl, p⟩ := one_inv rfl rs
    split at q
    · rename_i z hz
      cases hq : seqOf m d with
      | none => rw [hq] at hz; cases hz
      | some xs =>
        rw [hq] at hz
        have hz : extD false xs = some z := hz
        unfold extD at hz
        split at hz
        · rename_i a0 r0 ha
          cases hz
          obtain ⟨a, vs, rfl, h, rv⟩ := seq_inv hK g p hq
          have e := ints_of rv ha
          subst e
          have fin : ∀ M : Int, M ∈ a0 :: r0 → (∀ y, y ∈ a0 :: r0 → M ≤ y) → Q (.int M) H := fun M h1 h2 => by
            obtain ⟨f1, f2⟩ := foldMin_ok r0 a0
            have z1 := h2 _ f1
            have z2 := f2 _ h1
            have e : M = foldMin a0 r0 := by omega
            exact Pst.here (W := W) (σ := σ') q g (show V.int M = V.int _ from by rw [e]; rfl)
          rcases h with h | h
          · exact cr_min hc pins s σ H _ us Q I r ⟨a, _, rfl, h, by simp, fin⟩
          · exact cr_minT hc pins s σ H _ us Q I r ⟨a, _, rfl, h, by simp, fin⟩
        · cases hz
    · exact False.elim q
  · exact False.elim q
theorem c_ord : CallR X (.builtin "ord") (rCl G ordD) := by
  intro pins s σ H xs us Q I r ⟨W, σ', ds, m, μ, τ, g, rs, q⟩
  unfold ordD at q
  split at q
  · rename_i z
    obtain ⟨x, rfl, p⟩ := one_inv rfl rs
    cases (show x = _ from p.1)
    split at q
    · rename_i hl
      exact call_ord pins s σ H _ us Q I r ⟨z, rfl, hl, Pst.here (W := W) (σ := σ') q g rfl⟩
    · exact False.elim q
  · exact False.elim q
end
end EV

/-! isinstance, methods, displays, stores, sorted. -/
namespace EV
open PySem PySem.Spec PyProof.Rows L2

section
variable {X : Cx} {G : Gw} {W : WX} {σ : L2.St} {μ τ : List Addr} {H : Hp} {m : Mem} {Q : VK} {pins : List (Addr × Obj)} {s : Shared} {a b c e : Expr} {fa fb fc f : Rho → Mem → R D} {pos : Pos}
/-! ### the text's form -/
def noStar : Expr → Bool
  | .Starred _ _ => false
  | _ => true
theorem star_cons {e : Expr} {es : List Expr} {env : Env} (h : noStar e = true) : starEach (e :: es) env = (false, eval e env) :: starEach es env := by
  cases e <;> first | rfl | exact nomatch h
theorem plain_args {env : Env} {pos : Pos} : ∀ {es : List Expr}, es.all noStar = true → (backTo pos (starEach es env)).any (·.1) = false
  | [], _ => rfl
  | e :: es, h => by
    rw [List.all_cons, Bool.and_eq_true] at h
    rw [star_cons h.1]
    show (false || (backTo pos (starEach es env)).any (·.1)) = false
    rw [plain_args h.2]; rfl
theorem few_args {env : Env} {pos : Pos} : ∀ {es : List Expr}, es.all noStar = true → (backTo pos (starEach es env)).all (fun x => !x.1) = true
  | [], _ => rfl
  | e :: es, h => by
    rw [List.all_cons, Bool.and_eq_true] at h
    rw [star_cons h.1]
    show (true && (backTo pos (starEach es env)).all fun x => !x.1) = true
    rw [few_args h.2]; rfl

/-! ### isinstance -/
def tyN : Ty → String
  | .int => "int" | .bool => "bool" | .str => "str" | .tuple => "tuple" | .list => "list" | .dict => "dict"
theorem tup_ty {K : PySem.W.Frag} {a : Addr} {vs : List V} (h : SqT K H a vs) : TyX K H (.ref a) (.type "tuple") := by
  rcases h with (h | ⟨o, h⟩) | ⟨o, its, n, h1, h2, _⟩
  · exact .base (.tup h)
  · exact .fTuple h
  · exact .kTuple h1 h2
/-- the type's name of a value -/
def tyS (m : Mem) : D → Option String
  | .non => some "NoneType"
  | d => (tyOf m d).map tyN
theorem ty_of (hK : G.K = X.K) (g : Good G μ τ m H) {d : D} {v : V} {t : String} (r : Rep G μ τ H d v) (h : tyS m d = some t) : TyX X.K H v (.type t) := by
  cases d with
  | non => cases h; cases (show v = _ from r); exact .base .non
  | bl b => cases h; cases (show v = _ from r); exact .base (.bl b)
  | int b => cases h; cases (show v = _ from r); exact .base (.int b)
  | str b => cases h; cases (show v = _ from r.1); exact .base (.str b)
  | tup xs => cases h; obtain ⟨a, vs, rfl, p, _⟩ := r; exact hK ▸ tup_ty p.sqT
  | lst xs => cases h; obtain ⟨a, vs, rfl, p, _⟩ := r; exact .base (.lst p)
  | dic ks xs => cases h; obtain ⟨a, vs, rfl, p, _⟩ := r; exact .base (.dK p)
  | pr _ _ => cases h
  | ref n =>
    obtain ⟨a, rfl, q⟩ := r
    unfold tyS tyOf at h
    dsimp only at h
    cases hc : m[n]? with
    | none => rw [hc] at h; cases h
    | some c =>
      rw [hc] at h
      have cr := g.cell n c a hc q
      cases c with
      | lst ys => cases h; obtain ⟨vs, h1, h2⟩ := cr; exact .base (.lst h1)
      | dic ks ys => cases h; obtain ⟨vs, h1, h2⟩ := cr; exact .base (.dK h1)
      | ins _ _ _ => cases h
  | fn => cases h
  | scr ns => cases h
theorem kit_all : ∀ t ∈ ["NoneType", "bool", "int", "str", "tuple", "list", "dict"], ∀ c ∈ [Ty.int, .bool, .str, .tuple, .list, .dict], (kitB t (tyN c)).isSome = true := by decide +kernel
theorem kit_eq (t : Option Ty) (c : Ty) : kitB (match t with | some t => tyN t | none => "NoneType") (tyN c) = some (isTy t c) := by
  revert t c
  have h : ∀ t ∈ [none, some Ty.int, some .bool, some .str, some .tuple, some .list, some .dict], ∀ c ∈ [Ty.int, .bool, .str, .tuple, .list, .dict], kitB (match t with | some t => tyN t | none => "NoneType") (tyN c) = some (isTy t c) := by decide +kernel
  intro t c
  refine h t ?_ c ?_
  · cases t with
    | none => decide
    | some t => cases t <;> decide
  · cases c <;> decide
theorem isi_inv {d : D} {ts : List Ty} {b : Bool} (h : isiD m d ts = some b) : ∃ t : Option Ty, tyS m d = some (match t with | some t => tyN t | none => "NoneType") ∧ b = ts.any (isTy t) := by
  unfold isiD at h
  cases d with
  | fn => cases h
  | pr _ _ => cases h
  | scr _ => cases h
  | non => cases h; exact ⟨none, rfl, rfl⟩
  | ref n =>
    dsimp only at h
    cases hc : m[n]? with
    | none => rw [hc] at h; cases h
    | some c =>
      rw [hc] at h
      cases c with
      | ins _ _ _ => cases h
      | lst ys => cases h; exact ⟨some .list, by simp [tyS, tyOf, hc], by simp [tyOf, hc]⟩
      | dic ks ys => cases h; exact ⟨some .dict, by simp [tyS, tyOf, hc], by simp [tyOf, hc]⟩
  | bl b => cases h; exact ⟨some .bool, rfl, rfl⟩
  | int b => cases h; exact ⟨some .int, rfl, rfl⟩
  | str b => cases h; exact ⟨some .str, rfl, rfl⟩
  | tup b => cases h; exact ⟨some .tuple, rfl, rfl⟩
  | lst b => cases h; exact ⟨some .list, rfl, rfl⟩
  | dic b c => cases h; exact ⟨some .dict, rfl, rfl⟩
theorem kit_any {K : PySem.W.Frag} (t : Option Ty) : ∀ ts : List Ty, PySem.W.kitAny K (.type (match t with | some t => tyN t | none => "NoneType")) (ts.map fun c => .type (tyN c)) = some (ts.any (isTy t))
  | [] => rfl
  | c :: ts => by
    rw [List.map_cons, List.any_cons]
    refine kitAny_cons (kit_ty (kit_eq t c)) (fun h => ?_) (fun h => by rw [h]; rfl)
    rw [h, Bool.false_or]
    exact kit_any t ts
/-- the names of the classes -/
def TyName (X : Cx) (n : Expr) (t : Ty) : Prop := ∃ x p, n = .Name x p ∧ Gl X x ∧ X.mg x = none ∧ bootBuiltins x = some (.type (tyN t)) ∧ x ≠ "__name__" ∧ (x == ("__debug__" : Str)) = false
theorem pe_tyn {n : Expr} {t : Ty} (h : TyName X n t) : PE X n (tC (.ty (tyN t))) := by
  obtain ⟨x, p, rfl, h1, h2, h3, h4, h5⟩ := h
  exact pe_bltn h1 h2 h3 (by exact rfl) h4 h5
theorem tyn_star {n : Expr} {t : Ty} (h : TyName X n t) : noStar n = true := by
  obtain ⟨x, p, rfl, _⟩ := h; rfl
theorem isi_here (hK : G.K = X.K) {d : D} {x : V} {ts : List Ty} {σ : L2.St} (g : Good G μ τ m H) (r : Rep G μ τ H d x) (h : Pst G W σ μ τ H (RD G τ) (R.of ((isiD m d ts).map .bl) m) Q) :
    ∃ (t : Option Ty), TyX X.K H x (.type (match t with | some t => tyN t | none => "NoneType")) ∧ PySem.W.kitAny X.K (.type (match t with | some t => tyN t | none => "NoneType")) (ts.map fun c => .type (tyN c)) = some (ts.any (isTy t)) ∧ Q (.bl (ts.any (isTy t))) H := by
  cases hb : isiD m d ts with
  | none => rw [hb] at h; exact False.elim h
  | some b =>
    rw [hb] at h
    obtain ⟨t, h1, h2⟩ := isi_inv hb
    exact ⟨t, ty_of hK g r h1, kit_any t ts, h2 ▸ Pst.here h g rfl⟩
theorem ev_isi1 (hK : G.K = X.K) {n : Expr} {t : Ty} {p : Pos} (hg : Gl X "isinstance") (hm : X.mg "isinstance" = none) (ha : EvE X G W a fa) (hs : noStar a = true) (hn : TyName X n t) :
    EvE X G W (.Call (.Name "isinstance" p) [a, n] [] pos) (fun ρ m => (fa ρ m).bind fun d m1 => R.of ((isiD m1 d [t]).map .bl) m1) := by
  have hpa : PA X [a, n] (tCons (rdE G W fa) (tCons (tC (.ty (tyN t))) tNil)) := pa_cons ha (pa_cons (pe_tyn hn) pa_nil (star_cons (tyn_star hn))) (star_cons hs)
  refine PE.imp (pe_callB call_isi hg hm PyProof.Rows.boot_isinstance hpa (by decide) (by decide) (star_cons hs) (plain_args (by rw [List.all_cons, tyn_star hn]; rfl))) fun σ H Q ⟨ρ, m, μ, τ, g, s, h⟩ => ?_
  refine ⟨ρ, m, μ, τ, g, s, (Pst.bind (RP := RD G τ) h).imp fun x H1 ⟨d, m1, μ1, n1, g1, r1, h1⟩ => ?_⟩
  obtain ⟨u, k1, k2, k3⟩ := isi_here hK g1 r1 h1
  refine ⟨x, .ty (tyN t), _, .type (tyN t), _, rfl, .ty _, k1, kit_ty (kit_eq u t), ?_⟩
  simpa using k3
def TyNames (X : Cx) : List Expr → List Ty → Prop
  | [], [] => True
  | n :: ns, t :: ts => TyName X n t ∧ TyNames X ns ts
  | _, _ => False
theorem tyns_star : ∀ {ns : List Expr} {ts : List Ty}, TyNames X ns ts → ns.all noStar = true
  | [], [], _ => rfl
  | n :: ns, t :: ts, h => by rw [List.all_cons, tyn_star h.1, tyns_star h.2]; rfl
theorem pa_tyns : ∀ {ns : List Expr} {ts : List Ty}, TyNames X ns ts → PA X ns (fun _ H Q => Q (ts.map fun c => V.ty (tyN c)) H)
  | [], [], _ => pa_nil
  | n :: ns, t :: ts, h => PA.imp (pa_cons (pe_tyn h.1) (pa_tyns h.2) (star_cons (tyn_star h.1))) fun _ _ _ q => q
theorem clsv_all : ∀ ts : List Ty, Paired ClsV (ts.map fun c => V.ty (tyN c)) (ts.map fun c => Value.type (tyN c))
  | [] => .nil
  | t :: ts => .cons (.ty _) (clsv_all ts)
theorem ev_isiN (hK : G.K = X.K) {ns : List Expr} {ts : List Ty} {k : Nat} {p p2 : Pos} (hg : Gl X "isinstance") (hm : X.mg "isinstance" = none) (ha : EvE X G W a fa) (hs : noStar a = true) (hn : TyNames X ns ts) (hl : ts.length ≤ 10) :
    EvE X G W (.Call (.Name "isinstance" p) [a, .Tuple ns k p2] [] pos) (fun ρ m => (fa ρ m).bind fun d m1 => R.of ((isiD m1 d ts).map .bl) m1) := by
  have hpa : PA X [a, .Tuple ns k p2] _ := pa_cons ha (pa_cons (pe_tup (x1 := k) (pos := p2) (pa_tyns hn)) pa_nil rfl) (star_cons hs)
  refine PE.imp (pe_callB call_isiT hg hm PyProof.Rows.boot_isinstance hpa (by decide) (by decide) (star_cons hs) (plain_args rfl)) fun σ H Q ⟨ρ, m, μ, τ, g, s, h⟩ => ?_
  refine ⟨ρ, m, μ, τ, g, s, (Pst.bind (RP := RD G τ) h).imp fun x H1 ⟨d, m1, μ1, n1, g1, r1, h1⟩ => ?_⟩
  refine ⟨by rw [List.length_map]; exact small (by omega), fun tp htp => ?_⟩
  have nl : Nxt μ1 τ H1 μ1 (tp :: τ) (upd H1 tp (.tup (ts.map fun c => V.ty (tyN c)))) := Nxt.laid htp
  have h2 : Pst G W σ μ1 τ (upd H1 tp (.tup (ts.map fun c => V.ty (tyN c)))) (RD G τ) (R.of ((isiD m1 d ts).map .bl) m1) Q := by
    cases hb : isiD m1 d ts with
    | none => rw [hb] at h1; exact h1
    | some b =>
      rw [hb] at h1
      exact fun v H' μ' n' g' r' => h1 v H' μ' (nl.free.trans n') g' r'
  obtain ⟨u, k1, k2, k3⟩ := isi_here hK (g1.laid htp).free (r1.next nl.free g1) h2
  exact ⟨x, tp, _, _, _, _, rfl, upd_same, clsv_all ts, k1, k2, k3⟩

/-! ### -a, xs[::-1] -/
theorem ev_neg (ha : EvE X G W a fa) : EvE X G W (.UnaryOp .USub a pos) (fun ρ m => (fa ρ m).bind fun d m1 => match d with | .int i => .ok (.int (-i)) m1 | _ => .bad) := by
  refine PE.imp (pe_un un_neg ha) fun σ H Q ⟨ρ, m, μ, τ, g, s, h⟩ => ?_
  refine ⟨ρ, m, μ, τ, g, s, (Pst.bind (RP := RD G τ) h).imp fun x H1 ⟨d, m1, μ1, n1, g1, r1, h1⟩ => ?_⟩
  cases d with
  | int i => exact ⟨i, r1, Pst.here h1 g1 rfl⟩
  | _ => exact False.elim h1
theorem revD_inv {d y : D} {m : Mem} (h : revD d m = some y) : (∃ z, d = .str z ∧ z.length ≤ lim ∧ y = .str (revS z)) ∨ ∃ xs, lstOf m d = some xs ∧ y = .lst xs.reverse := by
  unfold revD at h
  split at h
  · rename_i z
    by_cases hl : z.length ≤ lim
    · rw [if_pos hl] at h
      cases h
      exact .inl ⟨z, rfl, hl, rfl⟩
    · rw [if_neg hl] at h; cases h
  · obtain ⟨xs, h1, h2⟩ := Option.map_eq_some_iff.mp h
    exact .inr ⟨xs, h1, h2.symm⟩
theorem ev_rev {k : Nat} {p1 p2 p3 : Pos} (ha : EvE X G W a fa) : EvF X G W (.Subscript a (.Slice none none (some (.UnaryOp .USub (.Constant (.int 1) k p1) p2)) p3) pos) (fun ρ m => (fa ρ m).bind fun d m1 => R.of (revD d m1) m1) := by
  refine PE.imp (pe_revA ha) fun σ H Q ⟨ρ, m, μ, τ, g, s, h⟩ => ?_
  refine ⟨ρ, m, μ, τ, g, s, (PstF.bind (RP := RD G τ) g h).imp fun x H1 ⟨d, m1, μ1, n1, g1, r1, h1⟩ => ?_⟩
  cases hr : revD d m1 with
  | none => rw [hr] at h1; exact False.elim h1
  | some y =>
    rw [hr] at h1
    rcases revD_inv hr with ⟨z, rfl, hl, rfl⟩ | ⟨xs, hl, rfl⟩
    · obtain ⟨rfl, hs⟩ := r1
      have h1 : Pst G W σ μ1 τ H1 (RD G τ) (.ok (.str (revS z)) m1) Q := h1
      refine .inr ⟨z, rfl, by rw [← lim_eq]; exact hl, Pst.here h1 g1 ⟨rfl, ?_⟩⟩
      unfold sOk at hs ⊢
      rw [Array.all_eq_true'] at hs ⊢
      intro c hc
      exact hs c (by
        have hc : c ∈ z.cps.toList.reverse.toArray := hc
        rw [List.mem_toArray, List.mem_reverse, Array.mem_toList_iff] at hc
        exact hc)
    · obtain ⟨a, vs, rfl, p, rs⟩ := lst_inv g1 r1 hl
      exact .inl ⟨a, vs, rfl, .inl (.inl p), fun q hq => newL h1 g1 rs.reverse hq⟩
end
end EV

/-! Methods, displays, stores, sorted. -/
namespace EV
open PySem PySem.Spec PyProof.Rows L2

section
variable {X : Cx} {G : Gw} {W : WX} {σ : L2.St} {μ τ : List Addr} {H : Hp} {m : Mem} {Q : VK} {pins : List (Addr × Obj)} {s : Shared} {a b c e : Expr} {fa fb fc f : Rho → Mem → R D} {pos : Pos}
/-! ### methods -/
def rBm (G : Gw) (k : D → List D → Mem → R D) : V → List V → Hp → VK → Prop := fun x xs H Q => ∃ (W : WX) (σ : L2.St) (d : D) (ds : List D) (m : Mem) (μ τ : List Addr), Good G μ τ m H ∧ Rep G μ τ H d x ∧ Reps G μ τ H ds xs ∧ PstF G W σ μ τ H (k d ds m) Q
def baseOk : Expr → Bool
  | .Call _ [] _ _ => false
  | _ => true
theorem base_of {o : Expr} {name : Str} {env : Env} {w : Sem Value} (h : baseOk o = true) : attributeBase o name env w = w := by
  cases o
  case Call f as ks p =>
    cases as with
    | nil => exact nomatch h
    | cons a r => cases f <;> rfl
  all_goals rfl
theorem ev_bm {es : List Expr} {fs : Rho → Mem → R (List D)} {name : Str} {T id : String} {b : Bm} {apos : Pos} (pa : PlainAttrs T) (slot : Slot T name id) (hty : typeOf (.builtin id) = pure (.type "method_descriptor")) (hm : MtR X id (rBm G (bmD b)))
    (htv : ∀ d m v H μ τ, tyM b d m = true → Good G μ τ m H → Rep G μ τ H d v → tyV X.K T v H) (ha : EvE X G W a fa) (hs : EvA X G W (e :: es) fs) (hb : baseOk a = true) (hst : (e :: es).all noStar = true) (hl : (e :: es).length < 20) (hline : (apos.endLine == pos.line) = true) :
    EvF X G W (.Call (.Attribute a name apos) (e :: es) [] pos) (fun ρ m => (fa ρ m).bind fun d m1 => if tyM b d m1 then (fs ρ m1).bind fun ds m2 => bmD b d ds m2 else .bad) := by
  have hst' := hst
  rw [List.all_cons, Bool.and_eq_true] at hst'
  refine PE.imp (pe_bm pa slot hty hm ha hs (base_of hb) ?_ hline (star_cons hst'.1) (plain_args hst'.2)) fun σ H Q ⟨ρ, m, μ, τ, g, s, h⟩ => ?_
  · rw [few_args hst]
    show (true && true && decide ((e :: es).length + 0 + 0 < 30)) = true
    exact decide_eq_true (by omega)
  · refine ⟨ρ, m, μ, τ, g, s, (PstF.bind (RP := RD G τ) g h).imp fun x H1 ⟨d, m1, μ1, n1, g1, r1, h1⟩ => ?_⟩
    by_cases ht : tyM b d m1 = true
    · rw [if_pos ht] at h1
      refine ⟨htv _ _ _ _ _ _ ht g1 r1, ρ, m1, μ1, τ, g1, s.nxt g n1, (PstF.bind (RP := RL G τ) g1 h1).imp fun xs H2 ⟨ds, m2, μ2, n2, g2, r2, h2⟩ => ?_⟩
      exact ⟨W, σ, d, ds, m2, μ2, τ, g2, r1.next n2 g1, r2, h2⟩
    · rw [if_neg ht] at h1; exact False.elim h1
theorem tyV_list {d : D} {v : V} (b : Bm) (hb : b ≠ .join) (h : tyM b d m = true) (g : Good G μ τ m H) (r : Rep G μ τ H d v) : tyV X.K "list" v H := by
  have key : ∀ n a, d = .ref n → (match m[n]? with | some (.lst _) => true | _ => false) = true → v = .ref a → μ[n]? = some a → tyV X.K "list" v H := by
    intro n a e h e2 q
    subst e2
    cases hc : m[n]? with
    | none => rw [hc] at h; cases h
    | some c =>
      rw [hc] at h
      cases c with
      | lst ys =>
        obtain ⟨vs, h1, h2⟩ := g.cell n _ a hc q
        exact .inl ⟨rfl, vs, .inl (.inl h1)⟩
      | _ => cases h
  cases d with
  | ref n =>
    obtain ⟨a, e, q⟩ := r
    cases b with
    | join => exact absurd rfl hb
    | _ => exact key n a rfl h e q
  | _ => cases b with
    | join => exact absurd rfl hb
    | _ => exact nomatch h
theorem tyV_str {d : D} {v : V} (h : tyM .join d m = true) (r : Rep G μ τ H d v) : tyV X.K "str" v H := by
  cases d with
  | str x => cases (show v = _ from r.1); rfl
  | _ => exact nomatch h
/-- a cell is written -/
theorem wrote {n : Nat} {a : Addr} {o : HO} {cl : Cell} {d : D} {x : V} (q : PstF G W σ μ τ H (.ok d (m.set n cl)) Q) (g : Good G μ τ m H) (hn : μ[n]? = some a) (hc : CellRep G μ τ (upd H a o) a cl) (r : Rep G μ τ (upd H a o) d x)
    (hd : ∀ ds, d ≠ .lst ds) (hd2 : ∀ ks ds, d ≠ .dic ks ds) : Q x (upd H a o) := by
  have nx : Nxt μ τ H μ τ (upd H a o) := Nxt.write g hn
  have g' := g.write hn hc
  cases d with
  | lst ds => exact absurd rfl (hd ds)
  | dic ks ds => exact absurd rfl (hd2 ks ds)
  | _ => exact q x _ μ nx g' r
theorem mt_app : MtR X "list.append" (rBm G (bmD .append)) := by
  intro pins s σ H x xs v us Q I rx rs ⟨W, σ', d, ds, m, μ, τ, g, r1, r2, q⟩
  dsimp only [bmD] at q
  unfold appendD at q
  split at q
  · rename_i n y
    obtain ⟨z, rfl, ry⟩ := one_inv rfl r2
    obtain ⟨a, rfl, hn⟩ := r1
    split at q
    · rename_i ys hc
      by_cases hl : ys.length < lim
      · rw [if_pos hl] at q
        obtain ⟨vs, h1, h2⟩ := g.cell n _ a hc hn
        refine mt_append pins s σ H _ _ v us Q I rx rs ⟨a, vs, z, rfl, rfl, h1, by rw [h2.length, ← lim_eq]; exact hl, ?_⟩
        have nx : Nxt μ τ H μ τ (upd H a (.lst (vs ++ [z]))) := Nxt.write g hn
        exact wrote q g hn ⟨_, upd_same, (h2.next nx g).append (.cons (ry.next nx g) .nil)⟩ rfl (fun _ => nofun) (fun _ _ => nofun)
      · rw [if_neg hl] at q; exact False.elim q
    · exact False.elim q
  · exact False.elim q
theorem mt_ext : MtR X "list.extend" (rBm G (bmD .extend)) := by
  intro pins s σ H x xs v us Q I rx rs ⟨W, σ', d, ds, m, μ, τ, g, r1, r2, q⟩
  dsimp only [bmD] at q
  unfold extendD at q
  split at q
  · rename_i n y
    obtain ⟨z, rfl, ry⟩ := one_inv rfl r2
    obtain ⟨a, rfl, hn⟩ := r1
    split at q
    · rename_i ys hc
      split at q
      · rename_i zs hz
        by_cases hl : ys.length + zs.length ≤ lim
        · rw [if_pos hl] at q
          obtain ⟨vs, h1, h2⟩ := g.cell n _ a hc hn
          obtain ⟨b, ws, rfl, p, rw'⟩ := lst_inv g ry hz
          refine mt_extend pins s σ H _ _ v us Q I rx rs ⟨a, b, vs, ws, rfl, rfl, h1, p, by rw [h2.length, rw'.length, ← lim_eq]; exact hl, ?_⟩
          have nx : Nxt μ τ H μ τ (upd H a (.lst (vs ++ ws))) := Nxt.write g hn
          exact wrote q g hn ⟨_, upd_same, (h2.next nx g).append (rw'.next nx g)⟩ rfl (fun _ => nofun) (fun _ _ => nofun)
        · rw [if_neg hl] at q; exact False.elim q
      · exact False.elim q
    · exact False.elim q
  · exact False.elim q
theorem sOk_glue {sep : Str} (h1 : sOk sep = true) : ∀ (l : List Str) (acc : Array Nat), acc.all (· < 0x110000) = true → l.all sOk = true → (l.foldl (fun acc p => acc ++ sep.cps ++ p.cps) acc).all (· < 0x110000) = true
  | [], acc, h, _ => h
  | x :: l, acc, h, hl => by
    rw [List.all_cons, Bool.and_eq_true] at hl
    rw [List.foldl_cons]
    refine sOk_glue h1 l _ ?_ hl.2
    have h2 : sep.cps.all (· < 0x110000) = true := h1
    have h3 : x.cps.all (· < 0x110000) = true := hl.1
    rw [Array.all_append, Array.all_append, h, h2, h3]; rfl
theorem sOk_all : ∀ {ys : List Str} {sep : Str}, sOk sep = true → ys.all sOk = true → sOk (Txt.join sep ys) = true := by
  intro ys sep h1 h2
  show (Builtin.Str.glued sep ys).cps.all (· < 0x110000) = true
  unfold Builtin.Str.glued
  cases ys with
  | nil => exact sOk_of ""
  | cons x ys =>
    rw [List.all_cons, Bool.and_eq_true] at h2
    exact sOk_glue h1 ys x.cps h2.1 h2.2
theorem mt_joinD : MtR X "str.join" (rBm G (bmD .join)) := by
  intro pins s σ H x xs v us Q I rx rs ⟨W, σ', d, ds, m, μ, τ, g, r1, r2, q⟩
  dsimp only [bmD] at q
  unfold joinD at q
  split at q
  · rename_i sep y
    obtain ⟨z, rfl, ry⟩ := one_inv rfl r2
    cases (show x = _ from r1.1)
    split at q
    · rename_i ys hy
      by_cases hl : (ys.map (·.length)).sum + sep.length * ys.length ≤ lim
      · rw [if_pos hl] at q
        obtain ⟨xs, a, vs, rfl, p, rv, hf⟩ := lstb g ry hy
        obtain ⟨e1, e2⟩ := strs_of rv hf
        subst e1
        refine mt_join pins s σ H _ _ v us Q I rx rs ⟨sep, a, ys, rfl, rfl, .inl (.inl (.inl p)), ?_, Pst.here (W := W) (σ := σ') q g ⟨rfl, sOk_all r1.2 e2⟩⟩
        rw [Nat.mul_comm ys.length]; exact hl
      · rw [if_neg hl] at q; exact False.elim q
    · exact False.elim q
  · exact False.elim q

/-! ### stores -/
theorem putK_zip {α : Type} (q : Key) (v : V) : ∀ (ks : List Key) (vs : List V), ks.length = vs.length → putK (ks.zip vs) q v = (dputK ks q).zip (dputX ks vs q v) := by
  have any : ∀ (ks : List Key) (vs : List V), ks.length = vs.length → (ks.zip vs).any (fun kv => decide (kv.1 = q)) = kin ks q := by
    intro ks
    induction ks with
    | nil => intro vs _; rfl
    | cons k ks ih =>
      intro vs l
      cases vs with
      | nil => simp at l
      | cons x vs =>
        rw [List.zip_cons_cons, List.any_cons, ih vs (by simpa using l)]
        rfl
  have mp : ∀ (ks : List Key) (vs : List V), ks.length = vs.length → (ks.zip vs).map (fun kv => if kv.1 = q then (kv.1, v) else kv) = ks.zip (dsetX ks vs q v) := by
    intro ks
    induction ks with
    | nil => intro vs _; rfl
    | cons k ks ih =>
      intro vs l
      cases vs with
      | nil => simp at l
      | cons x vs =>
        rw [List.zip_cons_cons, List.map_cons, ih vs (by simpa using l)]
        show _ = (k, if k = q then v else x) :: ks.zip (dsetX ks vs q v)
        by_cases e : k = q
        · rw [if_pos e, if_pos e]
        · rw [if_neg e, if_neg e]
  intro ks vs l
  unfold putK dputK dputX
  rw [any ks vs l]
  cases kin ks q with
  | true => rw [if_pos rfl, if_pos rfl, if_pos rfl]; exact mp ks vs l
  | false =>
    rw [if_neg (by simp), if_neg (by simp), if_neg (by simp), List.zip_append l]
    rfl
theorem dsetX_len {α : Type} (q : Key) (v : α) : ∀ (ks : List Key) (vs : List α), (dsetX ks vs q v).length = vs.length
  | [], _ => rfl
  | _ :: _, [] => rfl
  | k :: ks, x :: vs => by
    show (dsetX ks vs q v).length + 1 = _
    rw [dsetX_len q v ks vs]; rfl
theorem dputX_len {α : Type} (q : Key) (v : α) {ks : List Key} {vs : List α} (l : ks.length = vs.length) : (dputK ks q).length = (dputX ks vs q v).length := by
  unfold dputK dputX
  split
  · rw [dsetX_len]; exact l
  · rw [List.length_append, List.length_append, l]; rfl
theorem Reps.dset {q : Key} {d : D} {v : V} (r : Rep G μ τ H d v) : ∀ {ks : List Key} {ds : List D} {vs : List V}, Reps G μ τ H ds vs → Reps G μ τ H (dsetX ks ds q d) (dsetX ks vs q v)
  | [], _, _, rs => by
    show Reps G μ τ H _ _
    unfold dsetX; exact rs
  | k :: ks, [], vs, rs => by
    cases (show vs = [] from rs); rfl
  | k :: ks, e :: ds, vs, rs => by
    obtain ⟨w, r', rfl, p, rs⟩ := rs
    refine ⟨if k = q then v else w, dsetX ks r' q v, rfl, ?_, Reps.dset r rs⟩
    by_cases e : k = q
    · rw [if_pos e, if_pos e]; exact r
    · rw [if_neg e, if_neg e]; exact p
theorem Reps.dput {q : Key} {d : D} {v : V} {ks : List Key} {ds : List D} {vs : List V} (r : Rep G μ τ H d v) (rs : Reps G μ τ H ds vs) : Reps G μ τ H (dputX ks ds q d) (dputX ks vs q v) := by
  unfold dputX
  split
  · exact rs.dset r
  · exact rs.append (.cons r .nil)
def rSetG (G : Gw) : TSet := fun o i v H Q => ∃ (d j y : D) (m : Mem) (μ τ : List Addr), Good G μ τ m H ∧ Rep G μ τ H d o ∧ Rep G μ τ H j i ∧ Rep G μ τ H y v ∧ ∃ m', setD d j y m = some m' ∧ ∀ H', Nxt μ τ H μ τ H' → Good G μ τ m' H' → Q H'
theorem set_G (hu : X.A.units + 1 < cLine) : PSet X (rSetG G) := by
  intro pins s σ H o i v ov iv u Q I ro ri rv ⟨d, j, y, m, μ, τ, g, r1, r2, r3, m', hs, q⟩
  unfold setD at hs
  split at hs
  · rename_i n
    obtain ⟨a, rfl, hn⟩ := r1
    split at hs
    · rename_i xs hc
      split at hs
      · rename_i k
        obtain ⟨jj, hj, hm⟩ := Option.map_eq_some_iff.mp hs
        subst hm
        cases (show i = _ from r2)
        obtain ⟨vs, h1, h2⟩ := g.cell n _ a hc hn
        refine set_list pins s σ H _ _ _ ov iv u Q I ro ri rv ⟨a, vs, k, jj, rfl, rfl, h1, by rw [h2.length]; exact hj, ?_⟩
        have nx : Nxt μ τ H μ τ (upd H a (.lst (vs.set jj v))) := Nxt.write g hn
        exact q _ nx (g.write hn ⟨_, upd_same, Reps.set (r3.next nx g) jj (h2.next nx g)⟩)
      · cases hs
    · rename_i ks xs hc
      split at hs
      · rename_i k hk
        split at hs
        · rename_i hl
          cases hs
          obtain ⟨vs, h1, l, h2⟩ := g.cell n _ a hc hn
          cases key_V r2 hk
          refine set_dict hu pins s σ H _ _ _ ov iv u Q I ro ri rv ⟨a, _, rfl, .inl ⟨_, k, h1, rfl, ?_, rfl⟩, ?_⟩
          · rw [List.length_zip, ← l, Nat.min_self, ← lim_eq]; exact hl
          · rw [putK_zip (α := V) k v ks vs l]
            have nx : Nxt μ τ H μ τ (upd H a (.dK ((dputK ks k).zip (dputX ks vs k v)))) := Nxt.write g hn
            exact q _ nx (g.write hn ⟨_, upd_same, dputX_len k v l, Reps.dput (r3.next nx g) (h2.next nx g)⟩)
        · cases hs
      · cases hs
    · cases hs
  · cases hs
end
end EV

/-! Walks, targets. -/
namespace EV
open PySem PySem.Spec PyProof.Rows L2

section
variable {X : Cx} {G : Gw} {W : WX} {σ : L2.St} {μ τ μ' τ' : List Addr} {H H' : Hp} {m m' : Mem} {pins : List (Addr × Obj)} {s : Shared} {a b c e : Expr} {fa fb fc f : Rho → Mem → R D} {pos : Pos}
/-! ### a reserved object is written -/
def Res (H : Hp) (τ : List Addr) (p : Addr) : Prop := p ∈ τ ∧ ((∃ vs, H p = some (.lst vs)) ∨ ∃ kvs, H p = some (.dK kvs))
theorem Rd.rewr {p a : Addr} {o u : HO} (hp : Res H τ p) (r : Rd H a u) (h1 : ∀ vs, u ≠ .lst vs) (h2 : ∀ vs, u ≠ .dK vs) : Rd (upd H p o) a u := by
  have ne : a ≠ p := fun z => by
    subst z
    obtain ⟨_, ⟨vs, h⟩ | ⟨vs, h⟩⟩ := hp
    · rcases r with r | ⟨o', r⟩ <;> rw [h] at r <;> cases r
      exact h1 _ rfl
    · rcases r with r | ⟨o', r⟩ <;> rw [h] at r <;> cases r
      exact h2 _ rfl
  rcases r with r | ⟨o', r⟩
  · exact .inl (by rw [upd_ne ne]; exact r)
  · exact .inr ⟨o', by rw [upd_ne ne]; exact r⟩
mutual
theorem Rep.rewr {p : Addr} {o : HO} (hp : Res H τ p) : ∀ {d : D} {v : V}, Rep G μ τ H d v → Rep G μ τ (upd H p o) d v
  | .non, _, r => r
  | .bl _, _, r => r
  | .int _, _, r => r
  | .str _, _, r => r
  | .tup ds, v, r => by
    obtain ⟨a, vs, e, q, rs⟩ := r
    refine ⟨a, vs, e, ?_, Reps.rewr hp rs⟩
    rcases q with ⟨o1, q, d⟩ | q
    · refine .inl ⟨o1, ?_, d⟩
      rw [upd_ne]
      · exact q
      · intro z
        subst z
        obtain ⟨_, ⟨vs', h⟩ | ⟨vs', h⟩⟩ := hp <;> rw [h] at q <;> cases q
    · exact .inr q
  | .pr x y, v, r => by
    obtain ⟨a, p1, q1, e, t, r1, r2⟩ := r
    refine ⟨a, p1, q1, e, ?_, Rep.rewr hp r1, Rep.rewr hp r2⟩
    rcases t with t | t
    · exact .inl (Rd.rewr hp t (fun _ => nofun) (fun _ => nofun))
    · exact .inr t
  | .lst ds, v, r => by
    obtain ⟨a, vs, e, q, n1, n2, rs⟩ := r
    exact ⟨a, vs, e, by rw [upd_ne (fun (z : a = p) => n2 (z ▸ hp.1))]; exact q, n1, n2, Reps.rewr hp rs⟩
  | .dic ks ds, v, r => by
    obtain ⟨a, vs, e, q, l, n1, n2, rs⟩ := r
    exact ⟨a, vs, e, by rw [upd_ne (fun (z : a = p) => n2 (z ▸ hp.1))]; exact q, l, n1, n2, Reps.rewr hp rs⟩
  | .ref n, v, r => r
  | .fn, v, r => r
  | .scr ns, v, r => by
    obtain ⟨a, e, ⟨q, n1, n2⟩ | q⟩ := r
    case inr => exact ⟨a, e, .inr q⟩
    refine ⟨a, e, .inl ⟨?_, n1, n2⟩⟩
    have ne : a ≠ p := fun z => n2 (z ▸ hp.1)
    rcases q with q | ⟨o', q⟩
    · exact .inl (by rw [upd_ne ne]; exact q)
    · exact .inr ⟨o', by rw [upd_ne ne]; exact q⟩
theorem Reps.rewr {p : Addr} {o : HO} (hp : Res H τ p) : ∀ {ds : List D} {vs : List V}, Reps G μ τ H ds vs → Reps G μ τ (upd H p o) ds vs
  | [], _, r => r
  | d :: ds, vs, r => by
    obtain ⟨v, r', e, q, rs⟩ := r
    exact ⟨v, r', e, Rep.rewr hp q, Reps.rewr hp rs⟩
end
theorem Good.rewr {p : Addr} {o : HO} (g : Good G μ τ m H) (hp : Res H τ p) : Good G μ τ m (upd H p o) := by
  have np : p ∉ μ := (g.dis p hp.1).1
  refine ⟨g.len, fun n c a e1 e2 => ?_, g.nodup, fun a h => ⟨(g.dis a h).1, ?_⟩, tabs_upd g.tabs fun u e => by
    obtain ⟨_, ⟨vs, h⟩ | ⟨vs, h⟩⟩ := hp <;> rw [h] at e <;> cases e <;> exact True.intro⟩
  · have ne : a ≠ p := fun z => np (z ▸ List.mem_of_getElem? e2)
    have cr := g.cell n c a e1 e2
    cases c with
    | lst ds => obtain ⟨vs, h1, h2⟩ := cr; exact ⟨vs, by rw [upd_ne ne]; exact h1, h2.rewr hp⟩
    | dic ks ds => obtain ⟨vs, h1, l, h2⟩ := cr; exact ⟨vs, by rw [upd_ne ne]; exact h1, l, h2.rewr hp⟩
    | ins c ns ds => obtain ⟨dx, vs, h1, l, h2⟩ := cr; exact ⟨dx, vs, by rw [upd_ne ne]; exact h1, l, h2.rewr hp⟩
  · by_cases e : a = p
    · subst e; rw [upd_same]; simp
    · rw [upd_ne e]; exact (g.dis a h).2

/-! ### walks -/
def Walk (G : Gw) (μ τ : List Addr) (H : Hp) (p : List D × Option (Nat × List D)) (J : L2.It) : Prop :=
  ∀ μ' τ' H' m', Nxt μ τ H μ' τ' H' → Good G μ' τ' m' H' → ckD p.2 m' = true →
    (∀ i d, p.1[i]? = some d → J.go i H' ∧ ∀ x H'', J.yld i H' x H'' → Nxt μ' τ' H' μ' τ' H'' ∧ Good G μ' τ' m' H'' ∧ Rep G μ' τ' H'' d x) ∧ ∀ i, p.1.length ≤ i → J.stop i H'
def rdI (G : Gw) (W : WX) (f : Rho → Mem → R (List D × Option (Nat × List D))) : TI := fun σ H R => ∃ ρ m μ τ, Good G μ τ m H ∧ Slots G μ τ H ρ σ ∧ Pst G W σ μ τ H (fun μ H p J => Walk G μ τ H p J) (f ρ m) R
def EvI (X : Cx) (G : Gw) (W : WX) (tg iter : Expr) (f : Rho → Mem → R (List D × Option (Nat × List D))) : Prop := PI X tg iter (rdI G W f)
theorem PI.imp {X : Cx} {tg e : Expr} {t t' : TI} (h : PI X tg e t) (q : ∀ σ H Q, t' σ H Q → t σ H Q) : PI X tg e t' := ⟨fun pins s σ H Q I z => h.run pins s σ H Q I (q σ H Q z)⟩
/-- the list at a stays as vs -/
theorem walk_lst {K : PySem.W.Frag} {xs : List D} {vs : List V} {a : Addr} {q : Option (Nat × List D)} (rs : Reps G μ τ H xs vs) (g : Good G μ τ m H) (h : ∀ μ' τ' H' m', Nxt μ τ H μ' τ' H' → Good G μ' τ' m' H' → ckD q m' = true → ∃ ws, H' a = some (.lst ws) ∧ Reps G μ' τ' H' xs ws) : Walk G μ τ H (xs, q) (Itl K a) := by
  intro μ' τ' H' m' n g' ck
  obtain ⟨ws, h1, h2⟩ := h μ' τ' H' m' n g' ck
  refine ⟨fun i d e => ?_, fun i hi => ⟨ws, .inl (.inl h1), by rw [h2.length]; exact hi⟩⟩
  obtain ⟨v, e1, e2⟩ := h2.get e
  refine ⟨⟨ws, v, .inl (.inl h1), e1⟩, fun x H'' ⟨e3, y⟩ => ?_⟩
  subst e3
  have e4 := y ws (.inl (.inl h1))
  rw [e1] at e4; cases e4
  exact ⟨.refl, g', e2⟩
theorem walk_tup {K : PySem.W.Frag} {xs : List D} {vs : List V} {a : Addr} (rs : Reps G μ τ H xs vs) (g : Good G μ τ m H) (h : SqT K H a vs) : Walk G μ τ H (xs, none) (Itt K a) := by
  intro μ' τ' H' m' n g' ck
  have h1 := SqT.nxt n (fun _ => g.mut) h
  have h2 := rs.next n g
  refine ⟨fun i d e => ?_, fun i hi => ⟨vs, h1, by rw [h2.length]; exact hi⟩⟩
  obtain ⟨v, e1, e2⟩ := h2.get e
  refine ⟨⟨vs, v, h1, e1⟩, fun x H'' ⟨e3, y⟩ => ?_⟩
  subst e3
  have e4 := y vs h1
  rw [e1] at e4; cases e4
  exact ⟨.refl, g', e2⟩
theorem walk_rng {lo hi : Int} {xs : List D} (h : rngD lo hi = some xs) : Walk G μ τ H (xs, none) (Itr lo (hi - lo).toNat) ∧ -(2 ^ 62) ≤ lo ∧ lo < 2 ^ 62 ∧ -(2 ^ 62) ≤ hi ∧ hi < 2 ^ 62 := by
  unfold rngD at h
  split at h
  · rename_i hh
    cases h
    refine ⟨fun μ' τ' H' m' n g' ck => ⟨fun i d e => ?_, fun i hi => by show _ ≤ i; simpa [List.length_map, List.length_range] using hi⟩, hh⟩
    have hi := (List.getElem?_eq_some_iff.mp e).1
    rw [List.length_map, List.length_range] at hi
    rw [List.getElem?_map, List.getElem?_range hi] at e
    cases e
    refine ⟨hi, fun x H'' ⟨e3, y⟩ => ?_⟩
    subst e3 y
    exact ⟨.refl, g', rfl⟩
  · cases h
theorem walk_str {z : Str} (hz : sOk z = true) : Walk G μ τ H (z.cps.toList.map fun c => .str ⟨#[c]⟩, none) (Its z) := by
  intro μ' τ' H' m' n g' ck
  refine ⟨fun i d e => ?_, fun i hi => by show _ ≤ i; simpa using hi⟩
  rw [List.getElem?_map] at e
  obtain ⟨c, e1, e2⟩ := Option.map_eq_some_iff.mp e
  have hi := (List.getElem?_eq_some_iff.mp e1).1
  rw [Array.length_toList] at hi
  refine ⟨hi, fun x H'' ⟨e3, c', e4, e5⟩ => ?_⟩
  subst e3 e5
  rw [Array.getElem?_toList, e4] at e1
  cases e1
  subst e2
  refine ⟨.refl, g', rfl, ?_⟩
  unfold sOk at hz ⊢
  rw [Array.all_eq_true_iff_forall_mem] at hz
  have := hz c (by simpa using Array.mem_of_getElem? e4)
  simpa using this
/-- a value walked -/
theorem evi_ex {tg : Expr} (hK : G.K = X.K) (he : EvE X G W e fa) : EvI X G W tg e (fun ρ m => (fa ρ m).bind fun d m1 => match d with
    | .ref n => match m1[n]? with
      | some (.lst xs) => .ok (xs, some (n, xs)) m1
      | _ => .bad
    | d => R.of ((itsD m1 d).map fun xs => (xs, none)) m1) := by
  refine ⟨fun pins s σ H R I ⟨ρ, m, μ, τ, g, sl, h⟩ => ?_⟩
  dsimp only at h
  cases hr : fa ρ m with
  | bad => rw [hr] at h; exact False.elim h
  | ex x p m1 =>
    refine (pi_tup he).run pins s σ H R I ⟨ρ, m, μ, τ, g, sl, ?_⟩
    rw [hr] at h ⊢
    exact h
  | ok d m1 =>
    rw [hr] at h
    cases d with
    | tup xs =>
      refine (pi_tup he).run pins s σ H R I ⟨ρ, m, μ, τ, g, sl, ?_⟩
      rw [hr]
      intro v H1 μ1 n1 g1 r1
      obtain ⟨a, vs, e, q, rs⟩ := r1
      exact ⟨a, e, ⟨vs, hK ▸ q.sqT⟩, h _ H1 μ1 n1 g1 (walk_tup rs g1 (hK ▸ q.sqT))⟩
    | str z =>
      refine (pi_str he).run pins s σ H R I ⟨ρ, m, μ, τ, g, sl, ?_⟩
      rw [hr]
      intro v H1 μ1 n1 g1 r1
      exact ⟨z, r1.1, h _ H1 μ1 n1 g1 (walk_str r1.2)⟩
    | lst xs =>
      refine (pi_list he).run pins s σ H R I ⟨ρ, m, μ, τ, g, sl, ?_⟩
      rw [hr]
      intro v H1 μ1 n1 g1 r1
      obtain ⟨a, vs, e, q, na, nt, rs⟩ := r1
      refine ⟨a, e, ⟨vs, .inl (.inl q)⟩, h _ H1 μ1 n1 g1 (walk_lst rs g1 fun μ' τ' H' m' n g' ck => ⟨vs, n.keep a _ q na (fun ps z => by cases z), rs.next n g1⟩)⟩
    | ref k =>
      refine (pi_list he).run pins s σ H R I ⟨ρ, m, μ, τ, g, sl, ?_⟩
      rw [hr]
      intro v H1 μ1 n1 g1 r1
      obtain ⟨a, e, hk⟩ := r1
      have h : Pst G W σ μ τ H _ (match m1[k]? with | some (.lst xs) => EV.R.ok (xs, some (k, xs)) m1 | _ => .bad) R := h
      cases hc : m1[k]? with
      | none => rw [hc] at h; exact False.elim h
      | some cl =>
        rw [hc] at h
        cases cl with
        | lst xs =>
          obtain ⟨vs, q, rs⟩ := g1.cell k _ a hc hk
          refine ⟨a, e, ⟨vs, .inl (.inl q)⟩, h _ H1 μ1 n1 g1 (walk_lst rs g1 fun μ' τ' H' m' n g' ck => ?_)⟩
          have ck : m'[k]? = some (.lst xs) := of_decide_eq_true ck
          exact g'.cell k _ a ck (n.pre k a hk)
        | _ => exact False.elim h
    | _ => exact False.elim h
theorem evi_rng1 {tg : Expr} {p : Pos} (hg : Gl X "range") (hm : X.mg "range" = none) (he : EvE X G W e fa) (hs : noStar e = true) : EvI X G W tg (.Call (.Name "range" p) [e] [] pos) (fun ρ m => (fa ρ m).bind fun d m1 => match d with
    | .int i => R.of ((rngD 0 i).map fun xs => (xs, none)) m1
    | _ => .bad) := by
  refine PI.imp (pi_range1 hg hm (ev_cons he ev_nil (star_cons hs)) (by rw [star_cons hs]; rfl)) fun σ H R ⟨ρ, m, μ, τ, g, sl, h⟩ => ?_
  refine ⟨ρ, m, μ, τ, g, sl, ?_⟩
  dsimp only at h ⊢
  cases hr : fa ρ m with
  | bad => rw [hr] at h; exact False.elim h
  | ex x p m1 => rw [hr] at h; exact h
  | ok d m1 =>
    rw [hr] at h
    cases d with
    | int i =>
      have h : Pst G W σ μ τ H _ (EV.R.of ((rngD 0 i).map fun xs => (xs, none)) m1) R := h
      cases hx : rngD 0 i with
      | none => rw [hx] at h; exact False.elim h
      | some xs =>
        rw [hx] at h
        intro vs H1 μ1 n1 g1 r1
        obtain ⟨v, e1, r1⟩ := one_inv rfl r1
        cases (show v = _ from r1)
        obtain ⟨w, b1, b2, b3, b4⟩ := walk_rng (G := G) (μ := μ1) (τ := τ) (H := H1) hx
        refine ⟨i, e1, b3, b4, ?_⟩
        have e2 : (i - 0).toNat = i.toNat := by rw [Int.sub_zero]
        rw [← e2]
        exact h _ H1 μ1 n1 g1 w
    | _ => exact False.elim h
theorem evi_rng2 {tg : Expr} {p : Pos} (hg : Gl X "range") (hm : X.mg "range" = none) (ha : EvE X G W a fa) (hb : EvE X G W b fb) (hs : noStar a = true) (hs2 : noStar b = true) : EvI X G W tg (.Call (.Name "range" p) [a, b] [] pos) (fun ρ m => (fa ρ m).bind fun d m1 => (fb ρ m1).bind fun e m2 => match d, e with
    | .int i, .int j => R.of ((rngD i j).map fun xs => (xs, none)) m2
    | _, _ => .bad) := by
  refine PI.imp (pi_range2 hg hm (ev_cons ha (ev_cons hb ev_nil (star_cons hs2)) (star_cons hs)) (by rw [star_cons hs, star_cons hs2]; rfl) (by rw [star_cons hs2]; rfl)) fun σ H R ⟨ρ, m, μ, τ, g, sl, h⟩ => ?_
  refine ⟨ρ, m, μ, τ, g, sl, ?_⟩
  dsimp only at h ⊢
  cases hr : fa ρ m with
  | bad => rw [hr] at h; exact False.elim h
  | ex x p m1 => rw [hr] at h; exact h
  | ok d m1 =>
    rw [hr] at h
    dsimp only [EV.R.bind] at h ⊢
    cases hr2 : fb ρ m1 with
    | bad => rw [hr2] at h; exact False.elim h
    | ex x p m2 => rw [hr2] at h; exact h
    | ok e2 m2 =>
      rw [hr2] at h
      dsimp only [EV.R.bind] at h ⊢
      intro vs H1 μ1 n1 g1 r1
      obtain ⟨v, w, e1, r2, r3⟩ := two_inv rfl r1
      cases d with
      | int i =>
        cases e2 with
        | int j =>
          dsimp only at h
          cases hx : rngD i j with
          | none => rw [hx] at h; exact False.elim h
          | some xs =>
            rw [hx] at h
            cases (show v = _ from r2); cases (show w = _ from r3)
            obtain ⟨w, b⟩ := walk_rng (G := G) (μ := μ1) (τ := τ) (H := H1) hx
            exact ⟨i, j, e1, b, h _ H1 μ1 n1 g1 w⟩
        | _ => exact False.elim h
      | _ => exact False.elim h
/-- a new pair -/
theorem paired {T : Addr} {d1 d2 : D} {x y : V} (g : Good G μ τ m H) (hT : H T = none) (r1 : Rep G μ τ H d1 x) (r2 : Rep G μ τ H d2 y) : Nxt μ τ H μ τ (upd H T (.tup [x, y])) ∧ Good G μ τ m (upd H T (.tup [x, y])) ∧ Rep G μ τ (upd H T (.tup [x, y])) (.pr d1 d2) (.ref T) := by
  have nl : Nxt μ τ H μ (T :: τ) (upd H T (.tup [x, y])) := Nxt.laid hT
  exact ⟨nl.free, (g.laid hT).free, T, x, y, rfl, SqT.of upd_same, r1.next nl.free g, r2.next nl.free g⟩
theorem zip_at {xs ys : List D} {i : Nat} {d : D} (h : ((xs.zip ys).map fun p => D.pr p.1 p.2)[i]? = some d) : ∃ d1 d2, xs[i]? = some d1 ∧ ys[i]? = some d2 ∧ d = .pr d1 d2 := by
  rw [List.getElem?_map] at h
  obtain ⟨p, e1, e2⟩ := Option.map_eq_some_iff.mp h
  rw [List.getElem?_zip_eq_some] at e1
  exact ⟨p.1, p.2, e1.1, e1.2, e2.symm⟩
theorem evi_zip {elts : List Expr} {kk : Nat} {tpos p : Pos} (hK : G.K = X.K) (hg : Gl X "zip") (hm : X.mg "zip" = none) (ha : EvE X G W a fa) (hb : EvE X G W b fb) (hs : noStar a = true) (hs2 : noStar b = true) :
    EvI X G W (.Tuple elts kk tpos) (.Call (.Name "zip" p) [a, b] [] pos) (fun ρ m => (fa ρ m).bind fun d m1 => (fb ρ m1).bind fun e m2 => R.of ((zipD d e).map fun xs => (xs, none)) m2) := by
  refine PI.imp (RZ.pi_zipA hg hm (ev_cons ha (ev_cons hb ev_nil (star_cons hs2)) (star_cons hs)) (star_cons hs) (plain_args (by rw [List.all_cons, hs2]; rfl))) fun σ H R ⟨ρ, m, μ, τ, g, sl, h⟩ => ?_
  refine ⟨ρ, m, μ, τ, g, sl, ?_⟩
  dsimp only at h ⊢
  cases hr : fa ρ m with
  | bad => rw [hr] at h; exact False.elim h
  | ex x p m1 => rw [hr] at h; exact h
  | ok d m1 =>
    rw [hr] at h
    dsimp only [EV.R.bind] at h ⊢
    cases hr2 : fb ρ m1 with
    | bad => rw [hr2] at h; exact False.elim h
    | ex x p m2 => rw [hr2] at h; exact h
    | ok e2 m2 =>
      rw [hr2] at h
      dsimp only [EV.R.bind] at h ⊢
      intro vs H1 μ1 n1 g1 r1
      obtain ⟨v, w, e1, r2, r3⟩ := two_inv rfl r1
      cases d with
      | tup xs =>
        cases e2 with
        | tup ys =>
          obtain ⟨a, vs1, rfl, q1, s1⟩ := r2
          obtain ⟨b, vs2, rfl, q2, s2⟩ := r3
          refine ⟨a, b, vs1, vs2, e1, .inr ⟨hK ▸ q1.sqT, hK ▸ q2.sqT, h _ H1 μ1 n1 g1 fun μ' τ' H' m' n g' ck => ?_⟩⟩
          have k1 : SqT X.K H' a vs1 := SqT.nxt n (fun _ => g1.mut) (hK ▸ q1.sqT)
          have k2 : SqT X.K H' b vs2 := SqT.nxt n (fun _ => g1.mut) (hK ▸ q2.sqT)
          have t1 := s1.next n g1
          have t2 := s2.next n g1
          refine ⟨fun i d e => ?_, fun i hi => ⟨vs1, vs2, k1, k2, by rw [t1.length, t2.length]; simp only [List.length_map, List.length_zip] at hi; omega⟩⟩
          obtain ⟨d1, d2, f1, f2, rfl⟩ := zip_at e
          obtain ⟨x1, u1, u2⟩ := t1.get f1
          obtain ⟨x2, u3, u4⟩ := t2.get f2
          refine ⟨⟨vs1, vs2, x1, x2, k1, k2, u1, u3⟩, fun x H'' ⟨T, y1, y2, e3, hT, e4, e5, e6⟩ => ?_⟩
          have e5 := e5 vs1 k1
          have e6 := e6 vs2 k2
          rw [u1] at e5; cases e5
          rw [u3] at e6; cases e6
          subst e3 e4
          exact paired g' hT u2 u4
        | _ => exact False.elim h
      | lst xs =>
        cases e2 with
        | lst ys =>
          obtain ⟨a, vs1, rfl, q1, na, nt, s1⟩ := r2
          obtain ⟨b, vs2, rfl, q2, nb, nu, s2⟩ := r3
          refine ⟨a, b, vs1, vs2, e1, .inl ⟨.inl (.inl q1), .inl (.inl q2), h _ H1 μ1 n1 g1 fun μ' τ' H' m' n g' ck => ?_⟩⟩
          have k1 : SqL X.K H' a vs1 := .inl (.inl (n.keep a _ q1 na (fun ps z => by cases z)))
          have k2 : SqL X.K H' b vs2 := .inl (.inl (n.keep b _ q2 nb (fun ps z => by cases z)))
          have t1 := s1.next n g1
          have t2 := s2.next n g1
          refine ⟨fun i d e => ?_, fun i hi => ⟨vs1, vs2, k1, k2, by rw [t1.length, t2.length]; simp only [List.length_map, List.length_zip] at hi; omega⟩⟩
          obtain ⟨d1, d2, f1, f2, rfl⟩ := zip_at e
          obtain ⟨x1, u1, u2⟩ := t1.get f1
          obtain ⟨x2, u3, u4⟩ := t2.get f2
          refine ⟨⟨vs1, vs2, x1, x2, k1, k2, u1, u3⟩, fun x H'' ⟨T, y1, y2, e3, hT, e4, e5, e6⟩ => ?_⟩
          have e5 := e5 vs1 k1
          have e6 := e6 vs2 k2
          rw [u1] at e5; cases e5
          rw [u3] at e6; cases e6
          subst e3 e4
          exact paired g' hT u2 u4
        | _ => exact False.elim h
      | _ => exact False.elim h
theorem enm_at {xs : List D} {i : Nat} {d : D} (h : (enmL xs)[i]? = some d) : ∃ y, xs[i]? = some y ∧ d = .pr (.int i) y := by
  unfold enmL at h
  rw [List.getElem?_map] at h
  obtain ⟨p, f1, f2⟩ := Option.map_eq_some_iff.mp h
  rw [List.getElem?_zipIdx] at f1
  obtain ⟨y, f3, f4⟩ := Option.map_eq_some_iff.mp f1
  subst f4
  refine ⟨y, f3, ?_⟩
  rw [← f2]
  simp
theorem enm_len {xs : List D} : (enmL xs).length = xs.length := by unfold enmL; simp
theorem walk_enm {K : PySem.W.Frag} {xs : List D} {a : Addr} {q : Option (Nat × List D)} (h : ∀ μ' τ' H' m', Nxt μ τ H μ' τ' H' → Good G μ' τ' m' H' → ckD q m' = true → ∃ ws, H' a = some (.lst ws) ∧ Reps G μ' τ' H' xs ws) : Walk G μ τ H (enmL xs, q) (Ite K a) := by
  intro μ' τ' H' m' n g' ck
  obtain ⟨ws, h1, h2⟩ := h μ' τ' H' m' n g' ck
  have k1 : SqL K H' a ws := .inl (.inl h1)
  refine ⟨fun i d e => ?_, fun i hi => ⟨ws, k1, by rw [h2.length]; rw [enm_len] at hi; exact hi⟩⟩
  obtain ⟨y, f3, rfl⟩ := enm_at e
  obtain ⟨x1, u1, u2⟩ := h2.get f3
  refine ⟨⟨ws, x1, k1, u1⟩, fun x H'' ⟨T, y1, e3, hT, e4, e5⟩ => ?_⟩
  have e5 := e5 ws k1
  rw [u1] at e5; cases e5
  subst e3 e4
  exact paired g' hT (show V.int _ = V.int _ from rfl) u2
theorem walk_enT {K : PySem.W.Frag} {xs : List D} {vs : List V} {a : Addr} (rs : Reps G μ τ H xs vs) (g : Good G μ τ m H) (h : SqT K H a vs) : Walk G μ τ H (enmL xs, none) (IteT K a) := by
  intro μ' τ' H' m' n g' ck
  have k1 := SqT.nxt n (fun _ => g.mut) h
  have h2 := rs.next n g
  refine ⟨fun i d e => ?_, fun i hi => ⟨vs, k1, by rw [h2.length]; rw [enm_len] at hi; exact hi⟩⟩
  obtain ⟨y, f3, rfl⟩ := enm_at e
  obtain ⟨x1, u1, u2⟩ := h2.get f3
  refine ⟨⟨vs, x1, k1, u1⟩, fun x H'' ⟨T, y1, e3, hT, e4, e5⟩ => ?_⟩
  have e5 := e5 vs k1
  rw [u1] at e5; cases e5
  subst e3 e4
  exact paired g' hT (show V.int _ = V.int _ from rfl) u2
theorem evi_enm {elts : List Expr} {kk : Nat} {tpos p : Pos} (hK : G.K = X.K) (hg : Gl X "enumerate") (hm : X.mg "enumerate" = none) (ha : EvE X G W a fa) (hs : noStar a = true) :
    EvI X G W (.Tuple elts kk tpos) (.Call (.Name "enumerate" p) [a] [] pos) (fun ρ m => (fa ρ m).bind fun d m1 => R.of (enmQ m1 d) m1) := by
  have pa := ev_cons ha (ev_nil (X := X) (G := G) (W := W)) (star_cons hs)
  have hst : starEach [a] X.env = [(false, eval a X.env)] := by rw [star_cons hs]; rfl
  refine ⟨fun pins s σ H R I ⟨ρ, m, μ, τ, g, sl, h⟩ => ?_⟩
  dsimp only at h
  cases hr : fa ρ m with
  | bad => rw [hr] at h; exact False.elim h
  | ex x p m1 =>
    refine (pi_enum hg hm pa hst).run pins s σ H R I ⟨ρ, m, μ, τ, g, sl, ?_⟩
    rw [hr] at h
    dsimp only
    rw [hr]
    exact h
  | ok d m1 =>
    rw [hr] at h
    dsimp only [EV.R.bind] at h
    cases d with
    | tup xs =>
      refine (pi_enT hg hm pa hst).run pins s σ H R I ⟨ρ, m, μ, τ, g, sl, ?_⟩
      dsimp only
      rw [hr]
      dsimp only [EV.R.bind]
      intro vs H1 μ1 n1 g1 r1
      obtain ⟨v, e1, r1⟩ := one_inv rfl r1
      obtain ⟨a, vs1, rfl, q1, s1⟩ := r1
      exact ⟨a, vs1, e1, hK ▸ q1.sqT, h _ H1 μ1 n1 g1 (walk_enT s1 g1 (hK ▸ q1.sqT))⟩
    | lst xs =>
      refine (pi_enum hg hm pa hst).run pins s σ H R I ⟨ρ, m, μ, τ, g, sl, ?_⟩
      dsimp only
      rw [hr]
      dsimp only [EV.R.bind]
      intro vs H1 μ1 n1 g1 r1
      obtain ⟨v, e1, r1⟩ := one_inv rfl r1
      obtain ⟨a, vs1, rfl, q1, na, nt, s1⟩ := r1
      exact ⟨a, vs1, e1, .inl (.inl q1), h _ H1 μ1 n1 g1 (walk_enm fun μ' τ' H' m' n g' ck => ⟨vs1, n.keep a _ q1 na (fun ps z => by cases z), s1.next n g1⟩)⟩
    | ref k =>
      refine (pi_enum hg hm pa hst).run pins s σ H R I ⟨ρ, m, μ, τ, g, sl, ?_⟩
      dsimp only
      rw [hr]
      dsimp only [EV.R.bind]
      intro vs H1 μ1 n1 g1 r1
      obtain ⟨v, e1, r1⟩ := one_inv rfl r1
      obtain ⟨a, rfl, hk⟩ := r1
      have h : Pst G W σ μ τ H _ (EV.R.of (match m1[k]? with | some (.lst xs) => some (enmL xs, some (k, xs)) | _ => none) m1) R := h
      cases hc : m1[k]? with
      | none => rw [hc] at h; exact False.elim h
      | some cl =>
        rw [hc] at h
        cases cl with
        | lst xs =>
          obtain ⟨vs1, q, rs⟩ := g1.cell k _ a hc hk
          refine ⟨a, vs1, e1, .inl (.inl q), h _ H1 μ1 n1 g1 (walk_enm fun μ' τ' H' m' n g' ck => ?_)⟩
          have ck : m'[k]? = some (.lst xs) := of_decide_eq_true ck
          exact g'.cell k _ a ck (n.pre k a hk)
        | _ => exact False.elim h
    | _ => exact False.elim h
end
end EV

/-! Targets, comprehensions. -/
namespace EV
open PySem PySem.Spec PyProof.Rows L2

mutual
def tgI : Tg → List Nat
  | .nm i => [i]
  | .tp ts => tgsI ts
def tgsI : Tgs → List Nat
  | .nil => []
  | .cons t ts => tgI t ++ tgsI ts
end
section
variable {X : Cx} {G : Gw} {W : WX} {σ : L2.St} {μ τ μ' τ' : List Addr} {H H' : Hp} {m m' : Mem} {ρ : Rho} {pins : List (Addr × Obj)} {s : Shared} {a b c e : Expr} {fa fb fc f : Rho → Mem → R D} {pos : Pos}
theorem Slots.set (s : Slots G μ τ H ρ σ) {i : Nat} {d : D} {v : V} (hi : i < ρ.length) (r : Rep G μ τ H d v) : Slots G μ τ H (ρ.set i (some d)) (σ.set i (some v)) := by
  refine ⟨by rw [List.length_set, List.length_set]; exact s.1, fun j e h => ?_⟩
  by_cases hj : i = j
  · subst hj
    rw [List.getElem?_set_self hi] at h
    cases h
    exact ⟨v, by rw [List.getElem?_set_self (by rw [← s.1]; exact hi)], r⟩
  · rw [List.getElem?_set_ne hj] at h ⊢
    exact s.2 j e h
def rdG (G : Gw) (t : Tg) : TG := fun v σ H Q => ∃ (d : D) (ρ ρ' : Rho) (m : Mem) (μ τ : List Addr), Good G μ τ m H ∧ Slots G μ τ H ρ σ ∧ Rep G μ τ H d v ∧ tgD t d ρ = some ρ' ∧ ∀ σ', Slots G μ τ H ρ' σ' → (∀ i, i ∉ tgI t → σ'[i]? = σ[i]?) → Q σ' H
def rdGs (G : Gw) (ts : Tgs) : TGs := fun vs σ H Q => ∃ (ds : List D) (ρ ρ' : Rho) (m : Mem) (μ τ : List Addr), Good G μ τ m H ∧ Slots G μ τ H ρ σ ∧ Reps G μ τ H ds vs ∧ tgsD ts ds ρ = some ρ' ∧ ∀ σ', Slots G μ τ H ρ' σ' → (∀ i, i ∉ tgsI ts → σ'[i]? = σ[i]?) → Q σ' H
def EvG (X : Cx) (G : Gw) (tg : Expr) (t : Tg) : Prop := PG X tg (rdG G t)
def EvGs (X : Cx) (G : Gw) (tg : List Expr) (t : Tgs) : Prop := PGs X tg (rdGs G t)
theorem PG.imp {tg : Expr} {t t' : TG} (h : PG X tg t) (q : ∀ v σ H Q, t' v σ H Q → t v σ H Q) : PG X tg t' := ⟨fun pins s σ H v u Q I r z => h.run pins s σ H v u Q I r (q v σ H Q z)⟩
theorem PGs.imp {tg : List Expr} {t t' : TGs} (h : PGs X tg t) (q : ∀ v σ H Q, t' v σ H Q → t v σ H Q) : PGs X tg t' := ⟨fun pins s σ H v u Q I r z => h.run pins s σ H v u Q I r (q v σ H Q z)⟩
theorem evg_name {i : Nat} {x : Str} (hN : X.N.Nodup) (hi : X.N[i]? = some x) (hx : Loc X.env.scope x) (hf : X.fn x = true ∨ X.env.scope.names.lookup x = some .local) : EvG X G (.Name x pos) (.nm i) := by
  refine PG.imp (pg_name hN hi hx hf) fun v σ H Q ⟨d, ρ, ρ', m, μ, τ, g, s, r, e, q⟩ => ?_
  unfold tgD at e
  split at e
  · rename_i hl
    cases e
    refine q _ (s.set hl r) fun j hj => ?_
    rw [List.getElem?_set_ne (fun z => hj (by rw [z]; exact List.mem_singleton.mpr rfl))]
  · cases e
theorem evgs_nil : EvGs X G [] .nil := PGs.imp pgs_nil fun v σ H Q ⟨ds, ρ, ρ', m, μ, τ, g, s, r, e, q⟩ => by
  cases ds with
  | nil =>
    cases e
    exact ⟨r, q σ s fun _ _ => rfl⟩
  | cons d ds => unfold tgsD at e; cases e
theorem asg_cons {e : Expr} {es : List Expr} {env : Env} (h : noStar e = true) : assignEach (e :: es) env = (false, assign e env) :: assignEach es env := by
  cases e <;> first | rfl | exact nomatch h
theorem evgs_cons {e : Expr} {es : List Expr} {t : Tg} {ts : Tgs} (h1 : EvG X G e t) (h2 : EvGs X G es ts) (hs : noStar e = true) : EvGs X G (e :: es) (.cons t ts) := by
  refine PGs.imp (pgs_cons h1 h2 (by rw [asg_cons hs]; rfl)) fun vs σ H Q ⟨ds, ρ, ρ', m, μ, τ, g, s, r, e, q⟩ => ?_
  cases ds with
  | nil => unfold tgsD at e; cases e
  | cons d ds =>
    obtain ⟨v, rest, rfl, p, rs⟩ := r
    unfold tgsD at e
    split at e
    · rename_i ρ1 he
      refine ⟨v, rest, rfl, d, ρ, ρ1, m, μ, τ, g, s, p, he, fun σ1 s1 k1 => ?_⟩
      refine ⟨ds, ρ1, ρ', m, μ, τ, g, s1, rs, e, fun σ2 s2 k2 => q σ2 s2 fun i hi => ?_⟩
      have hi' : i ∉ tgI t ∧ i ∉ tgsI ts := by
        have hi2 : i ∉ tgI t ++ tgsI ts := hi
        rw [List.mem_append, not_or] at hi2; exact hi2
      rw [k2 i hi'.2, k1 i hi'.1]
    · cases e
def tgsN : Tgs → Nat
  | .nil => 0
  | .cons _ ts => tgsN ts + 1
theorem tgsD_len : ∀ (ts : Tgs) (ds : List D) (ρ ρ' : Rho), tgsD ts ds ρ = some ρ' → ds.length = tgsN ts
  | .nil, [], _, _, _ => rfl
  | .nil, _ :: _, _, _, h => by unfold tgsD at h; cases h
  | .cons t ts, [], _, _, h => by unfold tgsD at h; cases h
  | .cons t ts, d :: ds, ρ, ρ', h => by
    unfold tgsD at h
    split at h
    · rename_i ρ1 _
      show ds.length + 1 = tgsN ts + 1
      rw [tgsD_len ts ds ρ1 ρ' h]
    · cases h
theorem asg_len {env : Env} : ∀ {es : List Expr}, es.all noStar = true → (assignEach es env).length = es.length ∧ (assignEach es env).findIdx? (·.1) = none
  | [], _ => ⟨rfl, rfl⟩
  | e :: es, h => by
    rw [List.all_cons, Bool.and_eq_true] at h
    obtain ⟨h1, h2⟩ := asg_len (env := env) h.2
    rw [asg_cons h.1]
    refine ⟨by simp [h1], ?_⟩
    rw [List.findIdx?_cons]
    simp [h2]
theorem evg_tup (hK : G.K = X.K) (hc : X.calm = true) {es : List Expr} {ts : Tgs} {k : Nat} (h : EvGs X G es ts) (hs : es.all noStar = true) (hl : es.length = tgsN ts) : EvG X G (.Tuple es k pos) (.tp ts) := by
  refine PG.imp (pg_tup (n := es.length) hc h (asg_len hs).1 (asg_len hs).2) fun v σ H Q ⟨d, ρ, ρ', m, μ, τ, g, s, r, e, q⟩ => ?_
  unfold tgD at e
  split at e
  · rename_i xs
    obtain ⟨a, vs, rfl, p, rs⟩ := r
    refine ⟨a, vs, rfl, hK ▸ p.sqT, ?_, xs, ρ, ρ', m, μ, τ, g, s, rs, e, q⟩
    rw [rs.length, tgsD_len _ _ _ _ e, hl]
  · rename_i x y
    obtain ⟨a, p1, p2, rfl, p, r1, r2⟩ := r
    refine ⟨a, [p1, p2], rfl, hK ▸ p, ?_, [x, y], ρ, ρ', m, μ, τ, g, s, .cons r1 (.cons r2 .nil), e, q⟩
    rw [hl, ← tgsD_len _ _ _ _ e]; rfl
  · cases e

mutual
theorem tgD_len : ∀ {t : Tg} {d : D} {ρ ρ' : Rho}, tgD t d ρ = some ρ' → ρ'.length = ρ.length
  | .nm i, d, ρ, ρ', h => by
    unfold tgD at h
    split at h
    · cases h; rw [List.length_set]
    · cases h
  | .tp ts, d, ρ, ρ', h => by
    unfold tgD at h
    split at h
    · exact tgsD_lenR h
    · exact tgsD_lenR h
    · cases h
theorem tgsD_lenR : ∀ {ts : Tgs} {ds : List D} {ρ ρ' : Rho}, tgsD ts ds ρ = some ρ' → ρ'.length = ρ.length
  | .nil, [], ρ, ρ', h => by unfold tgsD at h; cases h; rfl
  | .nil, _ :: _, _, _, h => by unfold tgsD at h; cases h
  | .cons t ts, [], _, _, h => by unfold tgsD at h; cases h
  | .cons t ts, d :: ds, ρ, ρ', h => by
    unfold tgsD at h
    split at h
    · rename_i ρ1 h1
      rw [tgsD_lenR h, tgD_len h1]
    · cases h
end
/-! ### comprehensions -/
abbrev W0 : WX := fun _ _ _ _ => False
theorem calm_inv {α β : Type} {RP : List Addr → Hp → α → β → Prop} {r : R α} {Q : β → Hp → Prop} (h : Pst G W σ μ τ H RP (calmR r) Q) : ∀ W' σ', Pst G W' σ' μ τ H RP (calmR r) Q := by
  intro W' σ'
  cases r with
  | ok a m => exact h
  | _ => exact False.elim h
/-- what a calm part gives it gives without exceptions -/
theorem calm_out {α β : Type} {RP : List Addr → Hp → α → β → Prop} {r : R α} {Q : β → Hp → Prop} (h : Pst G W σ μ τ H RP (calmR r) Q) : ∀ W' σ', Pst G W' σ' μ τ H RP r Q := by
  intro W' σ'
  cases r with
  | ok a m => exact h
  | _ => exact False.elim h
theorem wipe_get {σ : L2.St} {i : Nat} : ∀ {vs : List Nat}, (L2.wipe σ vs)[i]? = if i ∈ vs then (if i < σ.length then some none else none) else σ[i]?
  | [] => by simp [L2.wipe]
  | v :: vs => by
    unfold L2.wipe
    by_cases hi : v = i
    · subst hi
      rw [if_pos List.mem_cons_self]
      by_cases hl : v < σ.length
      · rw [List.getElem?_set_self (by rw [wipe_length]; exact hl), if_pos hl]
      · rw [if_neg hl, List.getElem?_eq_none]
        rw [List.length_set, wipe_length]; omega
    · rw [List.getElem?_set_ne hi, wipe_get]
      by_cases h2 : i ∈ vs
      · rw [if_pos h2, if_pos (List.mem_cons_of_mem _ h2)]
      · rw [if_neg h2, if_neg]
        rw [List.mem_cons, not_or]
        exact ⟨fun z => hi z.symm, h2⟩
theorem wipe_eq {σ σ' : L2.St} {vs : List Nat} (hl : σ'.length = σ.length) (h : ∀ i, i ∉ vs → σ'[i]? = (L2.wipe σ vs)[i]?) : L2.wipe σ' vs = L2.wipe σ vs := by
  refine List.ext_getElem? fun i => ?_
  by_cases hi : i ∈ vs
  · rw [wipe_get, wipe_get, if_pos hi, if_pos hi, hl]
  · rw [wipe_get, if_neg hi]
    exact h i hi
theorem wipeR_len : ∀ {ρ : Rho} (vs : List Nat), (wipeR ρ vs).length = ρ.length
  | ρ, [] => rfl
  | ρ, v :: vs => by unfold wipeR; rw [List.length_set, wipeR_len vs]
theorem Slots.wipe (s : Slots G μ τ H ρ σ) : ∀ vs : List Nat, Slots G μ τ H (wipeR ρ vs) (L2.wipe σ vs)
  | [] => s
  | v :: vs => by
    have ih := Slots.wipe s vs
    unfold wipeR L2.wipe
    refine ⟨by rw [List.length_set, List.length_set]; exact ih.1, fun i d h => ?_⟩
    by_cases hi : v = i
    · subst hi
      by_cases hl : v < (wipeR ρ vs).length
      · rw [List.getElem?_set_self hl] at h; cases h
      · rw [List.getElem?_eq_none (by rw [List.length_set]; omega)] at h; cases h
    · rw [List.getElem?_set_ne hi] at h ⊢
      exact ih.2 i d h
theorem Slots.len (s : Slots G μ τ H ρ σ) : σ.length = ρ.length := s.1.symm
theorem Nxt.lay {p : Addr} (n : Nxt μ (p :: τ) H μ' (p :: τ) H') : Nxt μ (p :: τ) H μ' (p :: τ) H' := n
theorem Nxt.unres {p : Addr} {o : HO} (hp : H p = none) (n : Nxt μ (p :: τ) (upd H p o) μ' (p :: τ) H') : Nxt μ τ H μ' (p :: τ) H' := (Nxt.laid hp).trans n
/-- a comprehension's rule asks this -/
theorem lc_in {fi : Rho → Mem → R (List D × Option (Nat × List D))} {cd : Rho → Mem → R Bool} {el : Rho → Mem → R D} {t : Tg} {vs : List Nat} (hv : ∀ i ∈ tgI t, i ∈ vs) {σ : L2.St} {H : Hp} {Q : VK}
    (h : rdF G W (fun ρ m => (fi ρ m).bind fun xs m1 => if lim < xs.1.length then .bad else lcpL xs.2 (tgD t) (fun ρ' m => calmR (cd ρ' m)) (fun ρ' m => calmR (el ρ' m)) (wipeR ρ vs) xs.1 [] m1) σ H Q) :
    tLc (rdI G W fi) (rdG G t) (rdT G W0 cd) (rdE G W0 el) vs σ H Q := by
  obtain ⟨ρ, m, μ, τ, g, s, h⟩ := h
  refine ⟨ρ, m, μ, τ, g, s, (PstF.bind (RP := fun μ H p J => Walk G μ τ H p J) g h).imp fun J H1 ⟨xs, m1, μ1, n1, g1, wk, h1⟩ => fun Dd hD => ?_⟩
  obtain ⟨xs, qq⟩ := xs
  dsimp only at h1
  by_cases hlim : lim < xs.length
  · rw [if_pos hlim] at h1; exact False.elim h1
  rw [if_neg hlim] at h1
  refine ⟨fun i k H2 => k = xs.length - i ∧ i ≤ xs.length ∧ ∃ acc m2 μ2 ws, acc.length ≤ i ∧ Nxt μ1 τ H1 μ2 (Dd :: τ) H2 ∧ H2 Dd = some (.lst ws) ∧ Good G μ2 (Dd :: τ) m2 H2 ∧ Reps G μ2 (Dd :: τ) H2 acc ws ∧
    PstF G W σ μ1 τ H1 (lcpL qq (tgD t) (fun ρ' m => calmR (cd ρ' m)) (fun ρ' m => calmR (el ρ' m)) (wipeR ρ vs) (xs.drop i) acc m2) Q, ⟨xs.length, by simp, Nat.zero_le _, [], m1, μ1, [], Nat.le_refl _, Nxt.laid hD, upd_same, g1.laid hD, rfl, by rw [List.drop_zero]; exact h1⟩, ?_⟩
  rintro i k H2 ⟨rfl, hi, acc, m2, μ2, ws, hacc, n2, hw, g2, r2, h2⟩
  by_cases hlt : i < xs.length
  · rw [List.drop_eq_getElem_cons hlt] at h2
    unfold lcpL at h2
    by_cases ck : ckD qq m2 = true
    case neg => rw [if_neg ck] at h2; exact False.elim h2
    rw [if_pos ck] at h2
    cases htg : tgD t xs[i] (wipeR ρ vs) with
    | none => rw [htg] at h2; exact False.elim h2
    | some ρ' =>
      rw [htg] at h2
      dsimp only at h2
      have wk2 := (wk μ2 (Dd :: τ) H2 m2 n2 g2 ck).1 i xs[i] (by simp [hlt])
      refine .inr ⟨wk2.1, fun H3 => ∃ acc m3 μ3 ws, acc.length ≤ i + 1 ∧ Nxt μ1 τ H1 μ3 (Dd :: τ) H3 ∧ H3 Dd = some (.lst ws) ∧ Good G μ3 (Dd :: τ) m3 H3 ∧ Reps G μ3 (Dd :: τ) H3 acc ws ∧
        PstF G W σ μ1 τ H1 (lcpL qq (tgD t) (fun ρ' m => calmR (cd ρ' m)) (fun ρ' m => calmR (el ρ' m)) (wipeR ρ vs) (xs.drop (i + 1)) acc m3) Q, fun H' q' => ⟨xs.length - (i + 1), by omega, rfl, hlt, q'⟩, fun x H3 y => ?_⟩
      obtain ⟨n3, g3, r3⟩ := wk2.2 x H3 y
      have n13 := n2.trans n3
      have s3 : Slots G μ2 (Dd :: τ) H3 ρ σ := (s.nxt g n1).nxt g1 n13
      refine ⟨xs[i], wipeR ρ vs, ρ', m2, μ2, Dd :: τ, g3, s3.wipe vs, r3, htg, fun σ2 s4 k2 => ⟨wipe_eq ?_ fun j hj => k2 j fun z => hj (hv j z), ?_⟩⟩
      · have l1 := s4.len
        have l2 := s3.len
        have l3 : ρ'.length = (wipeR ρ vs).length := by
          have := s4.1
          exact tgD_len htg
        rw [l1, l3, wipeR_len, l2]
      · have nD : Dd ∉ μ2 := (g2.dis Dd List.mem_cons_self).1
        refine ⟨ρ', m2, μ2, Dd :: τ, g3, s4, ?_⟩
        cases hc : cd ρ' m2 with
        | bad => rw [hc] at h2; exact False.elim h2
        | ex x p m3 => rw [hc] at h2; exact False.elim h2
        | ok b m3 =>
          rw [hc] at h2
          have h2 : PstF G W σ μ1 τ H1 (if b then (calmR (el ρ' m3)).bind fun y m2 => lcpL qq (tgD t) (fun ρ' m => calmR (cd ρ' m)) (fun ρ' m => calmR (el ρ' m)) (wipeR ρ vs) (xs.drop (i + 1)) (acc ++ [y]) m2 else lcpL qq (tgD t) (fun ρ' m => calmR (cd ρ' m)) (fun ρ' m => calmR (el ρ' m)) (wipeR ρ vs) (xs.drop (i + 1)) acc m3) Q := h2
          intro b' H4 μ4 n4 g4 eb
          subst eb
          have w4 : H4 Dd = some (.lst ws) := (n3.trans n4).keep Dd _ hw nD (fun ps z => by cases z)
          cases b with
          | false =>
            rw [if_neg Bool.false_ne_true] at h2 ⊢
            exact ⟨acc, m3, μ4, ws, Nat.le_succ_of_le hacc, n13.trans n4, w4, g4, (r2.next n3 g2).next n4 g3, h2⟩
          | true =>
            rw [if_pos rfl] at h2 ⊢
            refine ⟨ρ', m3, μ4, Dd :: τ, g4, s4.nxt g3 n4, ?_⟩
            cases he : el ρ' m3 with
            | bad => rw [he] at h2; exact False.elim h2
            | ex x p m4 => rw [he] at h2; exact False.elim h2
            | ok y m4 =>
              rw [he] at h2
              intro v H5 μ5 n5 g5 r5
              have nD4 : Dd ∉ μ4 := (g4.dis Dd List.mem_cons_self).1
              have w5 : H5 Dd = some (.lst ws) := n5.keep Dd _ w4 nD4 (fun ps z => by cases z)
              have rs5 : Reps G μ5 (Dd :: τ) H5 acc ws := ((r2.next n3 g2).next n4 g3).next n5 g4
              have res : EV.Res H5 (Dd :: τ) Dd := ⟨List.mem_cons_self, .inl ⟨ws, w5⟩⟩
              refine ⟨ws, w5, ?_, acc ++ [y], m4, μ5, ws ++ [v], ?_, Nxt.rewrite List.mem_cons_self w5 (fun ps z => by cases z) ((n13.trans n4).trans n5) hD, upd_same, g5.rewr res, (rs5.append (.cons r5 .nil)).rewr res, h2⟩
              · rw [rs5.length, ← lim_eq]; omega
              · rw [List.length_append]; show acc.length + 1 ≤ i + 1; omega
  · have e : i = xs.length := by omega
    subst e
    rw [List.drop_length] at h2
    unfold lcpL at h2
    by_cases ck : ckD qq m2 = true
    case neg => rw [if_neg ck] at h2; exact False.elim h2
    rw [if_pos ck] at h2
    exact .inl ⟨(wk μ2 (Dd :: τ) H2 m2 n2 g2 ck).2 _ (Nat.le_refl _), h2 Dd ws H2 μ2 n2 hD g2 hw r2⟩
theorem ev_lc {elt tg iter : Expr} {ifs : List Expr} {scope : Scope} {own : List (Str × Nat)} {fi : Rho → Mem → R (List D × Option (Nat × List D))} {cd : Rho → Mem → R Bool} {el : Rho → Mem → R D} {t : Tg} (hc : X.calm = true) (hN : X.N.Nodup) (hi : EvI X G W tg iter fi) (ok : BlkOk X.N X.env.scope scope own) (hv : ∀ i ∈ tgI t, i ∈ own.map (·.2))
    (hg : ∀ (s : Shared) (H : Hp) (C : Addr) (cl : List (Str × Addr)) (fp : List Addr), EvG (X.blk s H scope (compEnvC scope cl C X.env) fp) G tg t) (ht : ∀ (s : Shared) (H : Hp) (C : Addr) (cl : List (Str × Addr)) (fp : List Addr), PTs (X.blk s H scope (compEnvC scope cl C X.env) fp) ifs (rdT G W0 cd))
    (he : ∀ (s : Shared) (H : Hp) (C : Addr) (cl : List (Str × Addr)) (fp : List Addr), EvE (X.blk s H scope (compEnvC scope cl C X.env) fp) G W0 elt el) (hs : ∀ x, foldedSetIterable iter X.env x = pure x) :
    EvF X G W (.ListComp elt [⟨tg, iter, ifs, 0⟩] scope pos) (fun ρ m => (fi ρ m).bind fun xs m1 => if lim < xs.1.length then .bad else lcpL xs.2 (tgD t) (fun ρ' m => calmR (cd ρ' m)) (fun ρ' m => calmR (el ρ' m)) (wipeR ρ (own.map (·.2))) xs.1 [] m1) :=
  PE.imp (pe_lc hc hN hi ok hg ht he hs) fun σ H Q h => lc_in hv h
end
end EV

/-! Statements. -/
namespace EV
open PySem PySem.Spec PyProof.Rows L2

def PstS (G : Gw) (W : WX) (μ τ : List Addr) (H : Hp) (o : O) (D : Ends) : Prop :=
  match o with
  | .nx ρ m => ∀ σ' H' μ', Nxt μ τ H μ' τ H' → Good G μ' τ m H' → Slots G μ' τ H' ρ σ' → D.nx σ' H'
  | .bk ρ m => ∀ σ' H' μ', Nxt μ τ H μ' τ H' → Good G μ' τ m H' → Slots G μ' τ H' ρ σ' → D.bk σ' H'
  | .ct ρ m => ∀ σ' H' μ', Nxt μ τ H μ' τ H' → Good G μ' τ m H' → Slots G μ' τ H' ρ σ' → D.ct σ' H'
  | .rt d m => ∀ v H' μ', Nxt μ τ H μ' τ H' → Good G μ' τ m H' → Rep G μ' τ H' d v → D.rt v H'
  | .ex x p ρ m => ∀ c dd σ' H' μ', Nxt μ τ H μ' τ H' → Good G μ' τ m H' → ExR G μ' τ H' x p c dd → Slots G μ' τ H' ρ σ' → W c dd σ' H'
  | .bad => False
def rdS (G : Gw) (W : WX) (f : Rho → Mem → O) : TS := fun D σ H => ∃ ρ m μ τ, Good G μ τ m H ∧ Slots G μ τ H ρ σ ∧ PstS G W μ τ H (f ρ m) D
def EvSt (X : Cx) (G : Gw) (W : WX) (st : Stmt) (f : Rho → Mem → O) : Prop := PS X st (rdS G W f)
def EvSs (X : Cx) (G : Gw) (W : WX) (st : List Stmt) (f : Rho → Mem → O) : Prop := PSs X st (rdS G W f)
theorem PS.imp {X : Cx} {e : Stmt} {t t' : TS} (h : PS X e t) (q : ∀ D σ H, t' D σ H → t D σ H) : PS X e t' := ⟨fun pins s σ H D I z => h.run pins s σ H D I (q D σ H z)⟩
theorem PSs.imp {X : Cx} {e : List Stmt} {t t' : TS} (h : PSs X e t) (q : ∀ D σ H, t' D σ H → t D σ H) : PSs X e t' := ⟨fun pins s σ H D I z => h.run pins s σ H D I (q D σ H z)⟩
section
variable {X : Cx} {G : Gw} {W : WX} {σ : L2.St} {μ τ μ' τ' : List Addr} {H H' : Hp} {m m' : Mem} {ρ ρ' : Rho} {a b c e : Expr} {fa fb fc f : Rho → Mem → R D} {pos : Pos} {D : Ends}
theorem PstS.nxt {o : O} (h : PstS G W μ τ H o D) (n : Nxt μ τ H μ' τ H') : PstS G W μ' τ H' o D := by
  cases o with
  | nx ρ m => exact fun σ' H2 μ2 n2 => h σ' H2 μ2 (n.trans n2)
  | bk ρ m => exact fun σ' H2 μ2 n2 => h σ' H2 μ2 (n.trans n2)
  | ct ρ m => exact fun σ' H2 μ2 n2 => h σ' H2 μ2 (n.trans n2)
  | rt d m => exact fun σ' H2 μ2 n2 => h σ' H2 μ2 (n.trans n2)
  | ex x p ρ m => exact fun c dd σ' H2 μ2 n2 => h c dd σ' H2 μ2 (n.trans n2)
  | bad => exact h
/-- a part, then the rest -/
theorem go_inv {α β : Type} {RP : List Addr → Hp → α → β → Prop} {r : R α} {k : α → Mem → O} (g : Good G μ τ m H) (s : Slots G μ τ H ρ σ) (h : PstS G W μ τ H (r.go ρ k) D) :
    Pst G W σ μ τ H RP r fun b H1 => ∃ a m1 μ1, Nxt μ τ H μ1 τ H1 ∧ Good G μ1 τ m1 H1 ∧ RP μ1 H1 a b ∧ PstS G W μ1 τ H1 (k a m1) D := by
  cases r with
  | bad => exact h
  | ex x p m1 => exact fun c dd H' μ' n g' r' => h c dd σ H' μ' n g' r' (s.nxt g n)
  | ok a m1 => exact fun v H1 μ1 n g1 r1 => ⟨a, m1, μ1, n, g1, r1, PstS.nxt h n⟩
theorem test_inv {r : R EV.D} {k : Bool → Mem → O} (g : Good G μ τ m H) (s : Slots G μ τ H ρ σ) (h : PstS G W μ τ H (O.test r ρ k) D) :
    Pst G W σ μ τ H REq (tst r) fun b H1 => ∃ m1 μ1, Nxt μ τ H μ1 τ H1 ∧ Good G μ1 τ m1 H1 ∧ PstS G W μ1 τ H1 (k b m1) D :=
  (go_inv (RP := REq) g s h).imp fun b H1 ⟨a, m1, μ1, n, g1, r, h1⟩ => by cases r; exact ⟨m1, μ1, n, g1, h1⟩
theorem then_inv {o : O} {k : Rho → Mem → O} (h : PstS G W μ τ H (o.then k) D) : PstS G W μ τ H o { D with nx := rdS G W k D } := by
  cases o with
  | nx ρ m => exact fun σ' H' μ' n g s => ⟨ρ, m, μ', τ, g, s, PstS.nxt h n⟩
  | _ => exact h
theorem turn_inv {o : O} {k : Rho → Mem → O} (h : PstS G W μ τ H (o.turn k) D) {N : L2.St → Hp → Prop} (hN : ∀ ρ m σ' H' μ', Nxt μ τ H μ' τ H' → Good G μ' τ m H' → Slots G μ' τ H' ρ σ' → PstS G W μ' τ H' (k ρ m) D → N σ' H') : PstS G W μ τ H o { D with nx := N, ct := N, bk := D.nx } := by
  cases o with
  | nx ρ m => exact fun σ' H' μ' n g s => hN ρ m σ' H' μ' n g s (PstS.nxt h n)
  | ct ρ m => exact fun σ' H' μ' n g s => hN ρ m σ' H' μ' n g s (PstS.nxt h n)
  | bk ρ m => exact h
  | rt d m => exact h
  | ex x p ρ m => exact h
  | bad => exact h
theorem ofR_inv {o : Option Rho} (h : PstS G W μ τ H (O.ofR o m) D) : ∃ ρ', o = some ρ' ∧ ∀ σ' H' μ', Nxt μ τ H μ' τ H' → Good G μ' τ m H' → Slots G μ' τ H' ρ' σ' → D.nx σ' H' := by
  cases o with
  | none => exact False.elim h
  | some ρ' => exact ⟨ρ', rfl, h⟩
theorem ofM_inv {o : Option Mem} {k : Mem → O} (h : PstS G W μ τ H (O.ofM o k) D) : ∃ m', o = some m' ∧ PstS G W μ τ H (k m') D := by
  cases o with
  | none => exact False.elim h
  | some m' => exact ⟨m', rfl, h⟩

/-! ### the statements -/
theorem sts_nil : EvSs X G W [] (fun ρ m => .nx ρ m) := PSs.imp pss_nil fun D σ H ⟨ρ, m, μ, τ, g, s, h⟩ => h σ H μ .refl g s
theorem sts_cons {st : Stmt} {rest : List Stmt} {f k : Rho → Mem → O} (h1 : EvSt X G W st f) (h2 : EvSs X G W rest k) : EvSs X G W (st :: rest) (fun ρ m => (f ρ m).then k) :=
  PSs.imp (pss_cons h1 h2) fun D σ H ⟨ρ, m, μ, τ, g, s, h⟩ => ⟨ρ, m, μ, τ, g, s, then_inv h⟩
/-- into a target, of what may be a new list -/
theorem asg_inv {t : Tg} {D : Ends} {σ : L2.St} {H : Hp} (h : rdS G W (fun ρ m => (fa ρ m).go ρ fun d m1 => O.ofR (tgD t d ρ) m1) D σ H) : tAsg (rdE G W fa) (rdG G t) D σ H := by
  obtain ⟨ρ, m, μ, τ, g, s, h⟩ := h
  refine ⟨ρ, m, μ, τ, g, s, (go_inv (RP := RD G τ) g s h).imp fun x H1 ⟨d, m1, μ1, n1, g1, r1, h1⟩ => ?_⟩
  obtain ⟨ρ', e, q⟩ := ofR_inv h1
  exact ⟨d, ρ, ρ', m1, μ1, τ, g1, s.nxt g n1, r1, e, fun σ' s' _ => q σ' H1 μ1 .refl g1 s'⟩
def noSw : Expr → Bool
  | .ListComp _ _ _ _ => false
  | .SetComp _ _ _ _ => false
  | .DictComp _ _ _ _ _ => false
  | _ => true
theorem sw_no {e : Expr} {t : Option Expr} {l : Nat} {env : Env} (h : noSw e = true) : swapsWith e t l env = pure false := by
  cases e <;> first | rfl | exact nomatch h
theorem st_asg {x : Str} {px : Pos} {i : Nat} (hN : X.N.Nodup) (hi : X.N[i]? = some x) (hx : Loc X.env.scope x) (hf : X.fn x = true ∨ X.env.scope.names.lookup x = some .local) (he : EvE X G W e fa) (hs : swapsWith e (some (.Name x px)) pos.line X.env = pure false) :
    EvSt X G W (.Assign [.Name x px] e pos) (fun ρ m => (fa ρ m).go ρ fun d m1 => O.ofR (tgD (.nm i) d ρ) m1) := by
  refine PS.imp (ps_set hN hi hx he hs hf) fun D σ H h => ?_
  obtain ⟨ρ, m, μ, τ, g, s, h⟩ := h
  refine ⟨ρ, m, μ, τ, g, s, (go_inv (RP := RD G τ) g s h).imp fun x H1 ⟨d, m1, μ1, n1, g1, r1, h1⟩ => ?_⟩
  obtain ⟨ρ', e, q⟩ := ofR_inv h1
  unfold tgD at e
  split at e
  · rename_i hl
    cases e
    exact q _ H1 μ1 .refl g1 ((s.nxt g n1).set hl r1)
  · cases e
/-- name = [..] on one line -/
theorem st_asgLc {x : Str} {px : Pos} {i : Nat} {te : TE} (hps : PS X (.Assign [.Name x px] e pos) (tAsg te (gName i))) (ht : ∀ σ H Q, rdE G W fa σ H Q → te σ H Q) :
    EvSt X G W (.Assign [.Name x px] e pos) (fun ρ m => (fa ρ m).go ρ fun d m1 => O.ofR (tgD (.nm i) d ρ) m1) := by
  refine PS.imp hps fun D σ H h => ht σ H _ ?_
  obtain ⟨ρ, m, μ, τ, g, s, h⟩ := h
  refine ⟨ρ, m, μ, τ, g, s, (go_inv (RP := RD G τ) g s h).imp fun x H1 ⟨d, m1, μ1, n1, g1, r1, h1⟩ => ?_⟩
  obtain ⟨ρ', e, q⟩ := ofR_inv h1
  unfold tgD at e
  split at e
  · rename_i hl
    cases e
    exact q _ H1 μ1 .refl g1 ((s.nxt g n1).set hl r1)
  · cases e
theorem st_asgT {tg : Expr} {t : Tg} (hg : EvG X G tg t) (he : EvE X G W e fa) (hs : noSw e = true) (hw : swappedStores [tg] e X.env = pure none) (h1 : noStar tg = true) :
    EvSt X G W (.Assign [tg] e pos) (fun ρ m => (fa ρ m).go ρ fun d m1 => O.ofR (tgD t d ρ) m1) :=
  PS.imp (ps_asg he hg (sw_no hs) hw (by rw [asg_cons h1]; rfl)) fun D σ H h => asg_inv h
theorem setAll2 {i j : Nat} {d e : EV.D} {ρ ρ' : Rho} (h : setAll [i, j] [d, e] ρ = some ρ') : i < ρ.length ∧ j < ρ.length ∧ ρ' = (ρ.set i (some d)).set j (some e) := by
  unfold setAll at h
  split at h
  · rename_i h1
    unfold setAll at h
    split at h
    · rename_i h2
      cases h
      rw [List.length_set] at h2
      exact ⟨h1, h2, rfl⟩
    · cases h
  · cases h
theorem st_par2 {i j : Nat} {x y : Str} {px py pt : Pos} {kt k2 : Nat} {pt2 : Pos} {fs : Rho → Mem → R (List EV.D)} (hc : X.calm = true) (hN : X.N.Nodup) (hi : X.N[i]? = some x) (hj : X.N[j]? = some y) (hij : i ≠ j) (hx : X.env.scope.names.lookup x = some .local) (hy : X.env.scope.names.lookup y = some .local)
    (ha : EvA X G W [a, b] fs) (hw : swappedStores [.Tuple [.Name x px, .Name y py] kt pt] (.Tuple [a, b] k2 pt2) X.env = pure (some [x, y])) :
    EvSt X G W (.Assign [.Tuple [.Name x px, .Name y py] kt pt] (.Tuple [a, b] k2 pt2) pos) (fun ρ m => (fs ρ m).go ρ fun ds m1 => O.ofR (setAll [i, j] ds ρ) m1) := by
  refine PS.imp (ps_par hc hN hi hj hij hx hy ha hw rfl) fun D σ H h => ?_
  obtain ⟨ρ, m, μ, τ, g, s, h⟩ := h
  refine ⟨ρ, m, μ, τ, g, s, (go_inv (RP := RL G τ) g s h).imp fun xs H1 ⟨ds, m1, μ1, n1, g1, r1, h1⟩ => ?_⟩
  obtain ⟨ρ', e, q⟩ := ofR_inv h1
  match ds, r1, e with
  | [], r1, e => unfold setAll at e; cases e
  | [d], r1, e =>
    unfold setAll at e
    split at e
    · unfold setAll at e; cases e
    · cases e
  | [d, e'], r1, e =>
    obtain ⟨v, w, rfl, r2, r3⟩ := two_inv rfl r1
    obtain ⟨h1, h2, rfl⟩ := setAll2 e
    exact ⟨v, w, rfl, q _ H1 μ1 .refl g1 (((s.nxt g n1).set h1 r2).set (by rw [List.length_set]; exact h2) r3)⟩
  | d :: e' :: f :: r, r1, e =>
    unfold setAll at e
    split at e
    · unfold setAll at e
      split at e
      · unfold setAll at e; cases e
      · cases e
    · cases e
theorem st_par3 {i j l : Nat} {x y z : Str} {px py pz pt : Pos} {kt k2 : Nat} {pt2 : Pos} {fs : Rho → Mem → R (List EV.D)} (hc : X.calm = true) (hN : X.N.Nodup) (hi : X.N[i]? = some x) (hj : X.N[j]? = some y) (hl : X.N[l]? = some z) (hij : i ≠ j) (hil : i ≠ l) (hjl : j ≠ l) (hx : X.env.scope.names.lookup x = some .local) (hy : X.env.scope.names.lookup y = some .local) (hz : X.env.scope.names.lookup z = some .local)
    (ha : EvA X G W [a, b, c] fs) (hw : swappedStores [.Tuple [.Name x px, .Name y py, .Name z pz] kt pt] (.Tuple [a, b, c] k2 pt2) X.env = pure (some [x, y, z])) :
    EvSt X G W (.Assign [.Tuple [.Name x px, .Name y py, .Name z pz] kt pt] (.Tuple [a, b, c] k2 pt2) pos) (fun ρ m => (fs ρ m).go ρ fun ds m1 => O.ofR (setAll [i, j, l] ds ρ) m1) := by
  refine PS.imp (ps_par3 hc hN hi hj hl hij hil hjl hx hy hz ha hw rfl) fun D σ H h => ?_
  obtain ⟨ρ, m, μ, τ, g, s, h⟩ := h
  refine ⟨ρ, m, μ, τ, g, s, (go_inv (RP := RL G τ) g s h).imp fun xs H1 ⟨ds, m1, μ1, n1, g1, r1, h1⟩ => ?_⟩
  obtain ⟨ρ', e, q⟩ := ofR_inv h1
  cases ds with
  | nil => unfold setAll at e; cases e
  | cons d ds =>
    unfold setAll at e
    split at e
    case isFalse => cases e
    rename_i hh1
    cases ds with
    | nil => unfold setAll at e; cases e
    | cons d2 ds =>
      obtain ⟨v, r', rfl, p1, r1⟩ := r1
      obtain ⟨w, r', rfl, p2, r1⟩ := r1
      unfold setAll at e
      split at e
      case isFalse => cases e
      rename_i hh2
      cases ds with
      | nil => unfold setAll at e; cases e
      | cons d3 ds =>
        obtain ⟨u, r', rfl, p3, r1⟩ := r1
        unfold setAll at e
        split at e
        case isFalse => cases e
        rename_i hh3
        cases ds with
        | cons _ _ => unfold setAll at e; cases e
        | nil =>
          cases (show r' = [] from r1)
          unfold setAll at e
          cases e
          exact ⟨v, w, u, rfl, q _ H1 μ1 .refl g1 ((((s.nxt g n1).set hh1 p1).set hh2 p2).set hh3 p3)⟩
theorem st_seti {p : Pos} (hu : X.A.units + 1 < cLine) (he : EvE X G W e fc) (ha : EvE X G W a fa) (hb : EvE X G W b fb) (hs : noSw e = true) (hsl : ∀ v, assign (.Subscript a b p) X.env v = (do
      let ov ← holding [v] (eval a X.env)
      let iv ← holding [v, ov] (eval b X.env)
      standAt p
      holding [v, ov, iv] (setItem ov iv v)
      release [v, ov, iv] [])) :
    EvSt X G W (.Assign [.Subscript a b p] e pos) (fun ρ m => (fc ρ m).go ρ fun y m1 => (fa ρ m1).go ρ fun d m2 => (fb ρ m2).go ρ fun j m3 => O.ofM (setD d j y m3) fun m4 => .nx ρ m4) := by
  have hsw : swapsWithSole [.Subscript a b p] e pos.line X.env = pure false := by cases e <;> first | rfl | exact nomatch hs
  have hst : swappedStores [.Subscript a b p] e X.env = pure none := rfl
  refine PS.imp (ps_asg he (pg_sub ha hb (set_G (G := G) hu) hsl) hsw hst rfl) fun D σ H h => ?_
  obtain ⟨ρ, m, μ, τ, g, s, h⟩ := h
  refine ⟨ρ, m, μ, τ, g, s, (go_inv (RP := RD G τ) g s h).imp fun x H1 ⟨y, m1, μ1, n1, g1, r1, h1⟩ => ?_⟩
  have s1 := s.nxt g n1
  refine ⟨ρ, m1, μ1, τ, g1, s1, (go_inv (RP := RD G τ) g1 s1 h1).imp fun o H2 ⟨d, m2, μ2, n2, g2, r2, h2⟩ => ?_⟩
  have s2 := s1.nxt g1 n2
  refine ⟨ρ, m2, μ2, τ, g2, s2, (go_inv (RP := RD G τ) g2 s2 h2).imp fun i H3 ⟨j, m3, μ3, n3, g3, r3, h3⟩ => ?_⟩
  obtain ⟨m4, e4, h4⟩ := ofM_inv h3
  exact ⟨d, j, y, m3, μ3, τ, g3, r2.next n3 g2, r3, (r1.next n2 g1).next n3 g2, m4, e4, fun H' n' g' => h4 σ H' μ3 n' g' ((s2.nxt g2 n3).nxt g3 n')⟩
/-- a[b], x = (e1, e2) -/
theorem st_sasg {p px pt : Pos} {k j : Nat} {x : Str} {v : Expr} {fs : Rho → Mem → R (List EV.D)} (hK : G.K = X.K) (hc : X.calm = true) (hN : X.N.Nodup) (hu : X.A.units + 1 < cLine) (he : EvE X G W v (fun ρ m => (fs ρ m).bind fun ds m1 => .ok (.tup ds) m1)) (ha : EvE X G W a fa) (hb : EvE X G W b fb)
    (hj : X.N[j]? = some x) (hx : Loc X.env.scope x) (hf : X.fn x = true ∨ X.env.scope.names.lookup x = some .local) (hsw : swapsWithSole [.Tuple [.Subscript a b p, .Name x px] k pt] v pos.line X.env = pure false) (hst : swappedStores [.Tuple [.Subscript a b p, .Name x px] k pt] v X.env = pure none)
    (hsl : ∀ v, assign (.Subscript a b p) X.env v = (do
      let ov ← holding [v] (eval a X.env)
      let iv ← holding [v, ov] (eval b X.env)
      standAt p
      holding [v, ov, iv] (setItem ov iv v)
      release [v, ov, iv] [])) :
    EvSt X G W (.Assign [.Tuple [.Subscript a b p, .Name x px] k pt] v pos) (fun ρ m => (fs ρ m).go ρ fun ds m1 => match ds with
      | [y, z] => (fa ρ m1).go ρ fun d m2 => (fb ρ m2).go ρ fun i m3 => O.ofM (setD d i y m3) fun m4 => if j < ρ.length then .nx (ρ.set j (some z)) m4 else .bad
      | _ => .bad) := by
  refine PS.imp (ps_asg he (pg_tup (n := 2) hc (pgs_cons (pg_sub ha hb (set_G (G := G) hu) hsl) (pgs_cons (pg_name hN hj hx hf) pgs_nil rfl) rfl) rfl rfl) hsw hst rfl) fun D σ H h => ?_
  obtain ⟨ρ, m, μ, τ, g, s, h⟩ := h
  have h' : PstS G W μ τ H (((fs ρ m).bind fun ds m1 => R.ok (EV.D.tup ds) m1).go ρ fun t m1 => match t with
      | .tup [y, z] => (fa ρ m1).go ρ fun d m2 => (fb ρ m2).go ρ fun i m3 => O.ofM (setD d i y m3) fun m4 => if j < ρ.length then .nx (ρ.set j (some z)) m4 else .bad
      | _ => .bad) D := by
    dsimp only at h
    cases hr : fs ρ m with
    | bad => rw [hr] at h; exact h
    | ex e q m1 => rw [hr] at h; exact h
    | ok ds m1 =>
      rw [hr] at h
      match ds, h with
      | [], h => exact h
      | [_], h => exact h
      | [_, _], h => exact h
      | _ :: _ :: _ :: _, h => exact h
  refine ⟨ρ, m, μ, τ, g, s, (go_inv (RP := RD G τ) g s h').imp fun t H1 ⟨t', m1, μ1, n1, g1, r1, h1⟩ => ?_⟩
  skip
  split at h1
  case h_2 => exact False.elim h1
  rename_i y z
  obtain ⟨ad, vs, rfl, q1, rs⟩ := r1
  obtain ⟨v1, v2, rfl, p1, p2⟩ := two_inv rfl rs
  have s1 := s.nxt g n1
  refine ⟨ad, [v1, v2], rfl, hK ▸ q1.sqT, rfl, v1, [v2], rfl, ?_⟩
  refine ⟨ρ, m1, μ1, τ, g1, s1, (go_inv (RP := RD G τ) g1 s1 h1).imp fun o H2 ⟨d, m2, μ2, n2, g2, r2, h2⟩ => ?_⟩
  have s2 := s1.nxt g1 n2
  refine ⟨ρ, m2, μ2, τ, g2, s2, (go_inv (RP := RD G τ) g2 s2 h2).imp fun i H3 ⟨jj, m3, μ3, n3, g3, r3, h3⟩ => ?_⟩
  obtain ⟨m4, e4, h4⟩ := ofM_inv h3
  have s3 := s2.nxt g2 n3
  refine ⟨d, jj, y, m3, μ3, τ, g3, r2.next n3 g2, r3, (p1.next n2 g1).next n3 g2, m4, e4, fun H' n' g' => ⟨v2, [], rfl, rfl, ?_⟩⟩
  by_cases hl : j < ρ.length
  · rw [if_pos hl] at h4
    exact h4 _ H' μ3 n' g' ((s3.nxt g3 n').set hl (((p2.next n2 g1).next n3 g2).next n' g3))
  · rw [if_neg hl] at h4
    exact False.elim h4
theorem st_expr (he : EvE X G W e fa) (hs : noSw e = true) : EvSt X G W (.Expr e pos) (fun ρ m => (fa ρ m).go ρ fun _ m1 => .nx ρ m1) := by
  refine PS.imp (ps_expr he (sw_no hs)) fun D σ H ⟨ρ, m, μ, τ, g, s, h⟩ => ?_
  refine ⟨ρ, m, μ, τ, g, s, (go_inv (RP := RD G τ) g s h).imp fun x H1 ⟨y, m1, μ1, n1, g1, r1, h1⟩ => ?_⟩
  exact h1 σ H1 μ1 .refl g1 (s.nxt g n1)
theorem st_ret (he : EvE X G W e fa) : EvSt X G W (.Return (some e) pos) (fun ρ m => (fa ρ m).go ρ fun d m1 => .rt d m1) := by
  refine PS.imp (ps_ret he) fun D σ H ⟨ρ, m, μ, τ, g, s, h⟩ => ?_
  refine ⟨ρ, m, μ, τ, g, s, (go_inv (RP := RD G τ) g s h).imp fun x H1 ⟨y, m1, μ1, n1, g1, r1, h1⟩ => ?_⟩
  exact h1 x H1 μ1 .refl g1 r1
theorem st_retn : EvSt X G W (.Return none pos) (fun _ m => .rt .non m) :=
  PS.imp ps_retN fun D σ H ⟨ρ, m, μ, τ, g, s, h⟩ => h .non H μ .refl g rfl
theorem st_if {p q : List Stmt} {f k : Rho → Mem → O} (hc : EvT X G W c fc) (ha : EvSs X G W p f) (hb : EvSs X G W q k) : EvSt X G W (.If c p q pos) (fun ρ m => O.test (fc ρ m) ρ fun b m1 => if b then f ρ m1 else k ρ m1) := by
  refine PS.imp (ps_if hc ha hb) fun D σ H ⟨ρ, m, μ, τ, g, s, h⟩ => ?_
  refine ⟨ρ, m, μ, τ, g, s, (test_inv g s h).imp fun b H1 ⟨m1, μ1, n1, g1, h1⟩ => ?_⟩
  cases b with
  | true => exact ⟨ρ, m1, μ1, τ, g1, s.nxt g n1, h1⟩
  | false => exact ⟨ρ, m1, μ1, τ, g1, s.nxt g n1, h1⟩
theorem st_brk : EvSt X G W (.Break pos) (fun ρ m => .bk ρ m) := PS.imp ps_break fun D σ H ⟨ρ, m, μ, τ, g, s, h⟩ => h σ H μ .refl g s
theorem st_cnt : EvSt X G W (.Continue pos) (fun ρ m => .ct ρ m) := PS.imp ps_continue fun D σ H ⟨ρ, m, μ, τ, g, s, h⟩ => h σ H μ .refl g s
theorem st_pas : EvSt X G W (.Pass pos) (fun ρ m => .nx ρ m) := PS.imp ps_pass fun D σ H ⟨ρ, m, μ, τ, g, s, h⟩ => h σ H μ .refl g s
theorem st_nev {st : Stmt} : EvSt X G W st (fun _ _ => .bad) := PS.imp ps_never fun D σ H ⟨ρ, m, μ, τ, g, s, h⟩ => h.elim
theorem st_for {tg iter : Expr} {body : List Stmt} {t : Tg} {fi : Rho → Mem → R (List EV.D × Option (Nat × List EV.D))} {fb : Rho → Mem → O} (hp : PassesOwn (model X.prog X.w) X.A X.env X.xe) (hc : X.calm = true) (hi : EvI X G W tg iter fi) (hg : EvG X G tg t) (hb : EvSs X G W body fb) (hs : ∀ x, foldedSetIterable iter X.env x = pure x) :
    EvSt X G W (.For tg iter body [] pos) (fun ρ m => (fi ρ m).go ρ fun xs m1 => forL xs.2 (tgD t) fb xs.1 ρ m1) := by
  refine PS.imp (ps_for hp hc hi hg hb hs) fun D σ H ⟨ρ, m, μ, τ, g, s, h⟩ => ?_
  refine ⟨ρ, m, μ, τ, g, s, (go_inv (RP := fun μ H p J => Walk G μ τ H p J) g s h).imp fun J H1 ⟨xs, m1, μ1, n1, g1, wk, h1⟩ => ?_⟩
  obtain ⟨xs, qq⟩ := xs
  dsimp only at h1
  refine ⟨fun i k σ2 H2 => k = xs.length - i ∧ i ≤ xs.length ∧ ∃ ρ2 m2 μ2, Nxt μ1 τ H1 μ2 τ H2 ∧ Good G μ2 τ m2 H2 ∧ Slots G μ2 τ H2 ρ2 σ2 ∧ PstS G W μ2 τ H2 (forL qq (tgD t) fb (xs.drop i) ρ2 m2) D,
    ⟨xs.length, by simp, Nat.zero_le _, ρ, m1, μ1, .refl, g1, s.nxt g n1, by rw [List.drop_zero]; exact h1⟩, ?_⟩
  rintro i k σ2 H2 ⟨rfl, hi, ρ2, m2, μ2, n2, g2, s2, h2⟩
  by_cases hlt : i < xs.length
  · rw [List.drop_eq_getElem_cons hlt] at h2
    unfold forL at h2
    by_cases ck : ckD qq m2 = true
    case neg => rw [if_neg ck] at h2; exact False.elim h2
    rw [if_pos ck] at h2
    have wk2 := (wk μ2 τ H2 m2 n2 g2 ck).1 i xs[i] (by simp [hlt])
    refine .inr ⟨wk2.1, fun σ' H' => ∃ ρ3 m3 μ3, Nxt μ1 τ H1 μ3 τ H' ∧ Good G μ3 τ m3 H' ∧ Slots G μ3 τ H' ρ3 σ' ∧ PstS G W μ3 τ H' (forL qq (tgD t) fb (xs.drop (i + 1)) ρ3 m3) D, fun σ' H' q' => ⟨xs.length - (i + 1), by omega, rfl, hlt, q'⟩, fun x H3 y => ?_⟩
    obtain ⟨n3, g3, r3⟩ := wk2.2 x H3 y
    cases htg : tgD t xs[i] ρ2 with
    | none => rw [htg] at h2; exact False.elim h2
    | some ρ' =>
      rw [htg] at h2
      refine ⟨xs[i], ρ2, ρ', m2, μ2, τ, g3, s2.nxt g2 n3, r3, htg, fun σ4 s4 _ => ⟨ρ', m2, μ2, τ, g3, s4, ?_⟩⟩
      exact turn_inv (PstS.nxt h2 n3) fun ρ5 m5 σ5 H5 μ5 n5 g5 s5 h5 => ⟨ρ5, m5, μ5, (n2.trans n3).trans n5, g5, s5, h5⟩
  · have e : i = xs.length := by omega
    subst e
    rw [List.drop_length] at h2
    unfold forL at h2
    by_cases ck : ckD qq m2 = true
    case neg => rw [if_neg ck] at h2; exact False.elim h2
    rw [if_pos ck] at h2
    exact .inl ⟨(wk μ2 τ H2 m2 n2 g2 ck).2 _ (Nat.le_refl _), h2 σ2 H2 μ2 .refl g2 s2⟩
theorem st_whl {body : List Stmt} {fb : Rho → Mem → O} (w : Nat) (hp : PassesOwn (model X.prog X.w) X.A X.env X.xe) (hc : EvT X G W c fc) (hb : EvSs X G W body fb) : EvSt X G W (.While c body [] pos) (fun ρ m => whlL fc fb w ρ m) := by
  refine PS.imp (ps_while hp hc hb) fun D σ H ⟨ρ, m, μ, τ, g, s, h⟩ => ?_
  refine ⟨fun k σ2 H2 => ∃ ρ2 m2 μ2, Nxt μ τ H μ2 τ H2 ∧ Good G μ2 τ m2 H2 ∧ Slots G μ2 τ H2 ρ2 σ2 ∧ PstS G W μ2 τ H2 (whlL fc fb k ρ2 m2) D, ⟨w, ρ, m, μ, .refl, g, s, h⟩, ?_⟩
  rintro k σ2 H2 ⟨ρ2, m2, μ2, n2, g2, s2, h2⟩
  cases k with
  | zero => exact False.elim h2
  | succ k =>
    refine ⟨ρ2, m2, μ2, τ, g2, s2, (test_inv g2 s2 h2).imp fun b H3 ⟨m3, μ3, n3, g3, h3⟩ => ?_⟩
    cases b with
    | false =>
      rw [if_neg Bool.false_ne_true] at h3 ⊢
      exact h3 σ2 H3 μ3 .refl g3 (s2.nxt g2 n3)
    | true =>
      rw [if_pos rfl] at h3 ⊢
      refine ⟨fun σ' H' => ∃ ρ4 m4 μ4, Nxt μ τ H μ4 τ H' ∧ Good G μ4 τ m4 H' ∧ Slots G μ4 τ H' ρ4 σ' ∧ PstS G W μ4 τ H' (whlL fc fb k ρ4 m4) D, fun σ' H' q => ⟨k, Nat.lt_succ_self _, q⟩, ρ2, m3, μ3, τ, g3, s2.nxt g2 n3, ?_⟩
      exact turn_inv h3 fun ρ5 m5 σ5 H5 μ5 n5 g5 s5 h5 => ⟨ρ5, m5, μ5, (n2.trans n3).trans n5, g5, s5, h5⟩
end
end EV

/-! Dict displays, sorted. -/
namespace EV
open PySem PySem.Spec PyProof.Rows L2
section
variable {X : Cx} {G : Gw} {W : WX} {σ : L2.St} {μ τ μ' τ' : List Addr} {H H' : Hp} {m m' : Mem} {ρ ρ' : Rho} {a b c e : Expr} {fa fb fc f : Rho → Mem → R D} {pos : Pos}
abbrev RKV (G : Gw) (τ : List Addr) : List Addr → Hp → List D × List D → List (V × V) → Prop := fun μ H p ps => Reps G μ τ H p.1 (ps.map (·.1)) ∧ Reps G μ τ H p.2 (ps.map (·.2))
def rdKV (G : Gw) (W : WX) (f : Rho → Mem → R (List D × List D)) (σ : L2.St) (H : Hp) (Q : List (V × V) → Hp → Prop) : Prop := ∃ ρ m μ τ, Good G μ τ m H ∧ Slots G μ τ H ρ σ ∧ Pst G W σ μ τ H (RKV G τ) (f ρ m) Q
def EvKV (X : Cx) (G : Gw) (W : WX) (keys : List (Option Expr)) (values : List Expr) (f : Rho → Mem → R (List D × List D)) : Prop := ∀ pos, ∃ trs, PPs X pos keys values trs ∧ ∀ σ H Q, rdKV G W f σ H Q → tPairs trs σ H Q
theorem kv_nil : EvKV X G W [] [] (fun _ m => .ok ([], []) m) := fun pos => ⟨[], pps_nil, fun σ H Q ⟨ρ, m, μ, τ, g, s, h⟩ => Pst.here (b := []) h g ⟨rfl, rfl⟩⟩
theorem kv_cons {k v : Expr} {ks : List (Option Expr)} {vs : List Expr} {fk fv : Rho → Mem → R D} {fr : Rho → Mem → R (List D × List D)} (hk : EvE X G W k fk) (hv : EvE X G W v fv) (hr : EvKV X G W ks vs fr) :
    EvKV X G W (some k :: ks) (v :: vs) (fun ρ m => (fk ρ m).bind fun d m1 => (fv ρ m1).bind fun e m2 => (fr ρ m2).bind fun p m3 => .ok (d :: p.1, e :: p.2) m3) := fun pos => by
  obtain ⟨trs, h1, h2⟩ := hr pos
  refine ⟨_, pps_cons hk hv h1, fun σ H Q ⟨ρ, m, μ, τ, g, s, h⟩ => ?_⟩
  refine ⟨ρ, m, μ, τ, g, s, (Pst.bind (RP := RD G τ) h).imp fun x H1 ⟨d, m1, μ1, n1, g1, r1, h1⟩ => ?_⟩
  have s1 := s.nxt g n1
  refine ⟨ρ, m1, μ1, τ, g1, s1, (Pst.bind (RP := RD G τ) h1).imp fun y H2 ⟨e, m2, μ2, n2, g2, r2, h2'⟩ => ?_⟩
  refine h2 σ H2 _ ⟨ρ, m2, μ2, τ, g2, s1.nxt g1 n2, (Pst.bind (RP := RKV G τ) h2').imp fun ps H3 ⟨p, m3, μ3, n3, g3, r3, h3⟩ => ?_⟩
  exact Pst.here (b := (x, y) :: ps) h3 g3 ⟨.cons ((r1.next n2 g1).next n3 g2) r3.1, .cons (r2.next n3 g2) r3.2⟩
theorem dsp_inv : ∀ (ks vs : List D) (qs : List Key) (xs : List D) (ps : List (V × V)) (ws : List V) (d : D), dspD ks vs qs xs = some d → Reps G μ τ H ks (ps.map (·.1)) → Reps G μ τ H vs (ps.map (·.2)) → qs.length = ws.length → Reps G μ τ H xs ws →
    ∃ qs' xs' ws' kvs, d = .dic qs' xs' ∧ ps = kvs.map (fun kv => (kV kv.1, kv.2)) ∧ kvs.length = ks.length ∧ mergeK (qs.zip ws) kvs = qs'.zip ws' ∧ qs'.length = ws'.length ∧ Reps G μ τ H xs' ws'
  | [], [], qs, xs, ps, ws, d, h, r1, r2, l, rx => by
    unfold dspD at h
    cases h
    have : ps = [] := List.map_eq_nil_iff.mp r1
    subst this
    exact ⟨qs, xs, ws, [], rfl, rfl, rfl, rfl, l, rx⟩
  | [], _ :: _, _, _, _, _, _, h, _, _, _, _ => by unfold dspD at h; cases h
  | _ :: _, [], _, _, _, _, _, h, _, _, _, _ => by unfold dspD at h; cases h
  | k :: ks, v :: vs, qs, xs, ps, ws, d, h, r1, r2, l, rx => by
    unfold dspD at h
    split at h
    · rename_i q hq
      obtain ⟨x, rx1, e1, p1, r1⟩ := r1
      obtain ⟨y, ry1, e2, p2, r2⟩ := r2
      cases ps with
      | nil => cases e1
      | cons pr ps =>
        rw [List.map_cons] at e1 e2
        cases e1; cases e2
        obtain ⟨qs', xs', ws', kvs, f1, f2, f3, f4, f5, f6⟩ := dsp_inv ks vs (dputK qs q) (dputX qs xs q v) ps (dputX qs ws q pr.2) d h r1 r2 (dputX_len q _ l) (Reps.dput p2 rx)
        refine ⟨qs', xs', ws', (q, pr.2) :: kvs, f1, ?_, by rw [List.length_cons, f3]; rfl, ?_, f5, f6⟩
        · rw [List.map_cons, f2, ← key_V p1 hq]
        · rw [← f4, ← putK_zip (α := V) q pr.2 qs ws l]; rfl
    · cases h
theorem dsp_len : ∀ (ks vs : List D) (qs : List Key) (xs : List D) (d : D), dspD ks vs qs xs = some d → True := fun _ _ _ _ _ _ => trivial
theorem ev_dsp0 : EvF X G W (.Dict [] [] pos) (fun _ m => .ok (.dic [] []) m) := by
  refine PE.imp pe_dnewK fun σ H Q ⟨ρ, m, μ, τ, g, s, h⟩ => fun p hp => ?_
  exact h p [] _ μ (Nxt.laid hp) hp (g.laid hp) upd_same rfl rfl
theorem ev_dsp {keys : List (Option Expr)} {values : List Expr} {fs : Rho → Mem → R (List D × List D)} (hs : EvKV X G W0 keys values fs) (hall : keys.all (·.isSome) = true) (hl : keys.length = values.length) (h0 : keys ≠ []) (h15 : keys.length ≤ 15)
    (hlen : ∀ ρ m p m', fs ρ m = .ok p m' → p.1.length ≤ 15) : EvF X G W (.Dict keys values pos) (fun ρ m => (calmR (fs ρ m)).bind fun p m1 => R.of (dspD p.1 p.2 [] []) m1) := by
  obtain ⟨trs, h1, h2⟩ := hs pos
  -- exceptions do not come
  refine PE.imp (pe_disp (trs := trs) ⟨fun pins s σ H Q I h => ?_⟩ hall hl h0 h15) ?_
  · exact h1.run pins s σ H Q I h
  · intro σ H Q ⟨ρ, m, μ, τ, g, s, h⟩ p hp
    have nl : Nxt μ τ H μ (p :: τ) (upd H p (.dK [])) := Nxt.laid hp
    have g0 := g.laid (o := .dK []) hp
    refine h2 σ _ _ ⟨ρ, m, μ, p :: τ, g0, s.nxt g nl, ?_⟩
    have hle := hlen ρ m
    dsimp only at h
    cases hr : fs ρ m with
    | bad => rw [hr] at h; exact False.elim h
    | ex x pp m1 => rw [hr] at h; exact False.elim h
    | ok pr m1 =>
      rw [hr] at h
      have h : PstF G W σ μ τ H (R.of (dspD pr.1 pr.2 [] []) m1) Q := h
      intro ps H2 μ2 n2 g2 ⟨r1, r2⟩
      cases hd : dspD pr.1 pr.2 [] [] with
      | none => rw [hd] at h; exact False.elim h
      | some d =>
        rw [hd] at h
        have w2 : H2 p = some (.dK []) := n2.keep p _ upd_same (g0.dis p List.mem_cons_self).1 (fun ps z => by cases z)
        obtain ⟨qs', xs', ws', kvs, f1, f2, f3, f4, f5, f6⟩ := dsp_inv pr.1 pr.2 [] [] ps [] d hd r1 r2 rfl rfl
        subst f1
        refine ⟨w2, kvs, f2, by rw [f3]; exact hle pr m1 hr, ?_⟩
        have res : EV.Res H2 (p :: τ) p := ⟨List.mem_cons_self, .inr ⟨[], w2⟩⟩
        have e : mergeK [] kvs = qs'.zip ws' := f4
        rw [e]
        exact h p ws' _ μ2 (Nxt.rewrite List.mem_cons_self w2 (fun ps z => by cases z) (nl.trans n2) hp) hp (g2.rewr res) upd_same f5 (f6.rewr res)

/-! ### sorted -/
theorem each_zip {R : Value → D × V → Prop} : ∀ {xs : List D} {vs : List V} {us : List Value}, Vals vs us → vs.length = xs.length → (∀ p u, p ∈ xs.zip vs → RelV p.2 u → R u p) → PySem.W.EachIs R us (xs.zip vs)
  | [], _, _, .nil, _, _ => .nil
  | [], _, _, .cons _ _, l, _ => by simp at l
  | _ :: _, _, _, .nil, l, _ => by simp at l
  | x :: xs, _, _, .cons (a := v) (b := u) (l₁ := vs) (l₂ := us) r t, l, h => by
    rw [List.zip_cons_cons]
    exact .cons (h (x, v) u (by rw [List.zip_cons_cons]; exact List.mem_cons_self) r) (each_zip t (by simpa using l) fun p u hp hr => h p u (by rw [List.zip_cons_cons]; exact List.mem_cons_of_mem _ hp) hr)
theorem Reps.mem : ∀ {xs : List D} {vs : List V} {p : D × V}, Reps G μ τ H xs vs → p ∈ xs.zip vs → Rep G μ τ H p.1 p.2
  | [], _, _, _, h => by simp at h
  | x :: xs, vs, p, r, h => by
    obtain ⟨v, r', rfl, q, rs⟩ := r
    rw [List.zip_cons_cons] at h
    rcases List.mem_cons.mp h with rfl | h
    · exact q
    · exact Reps.mem rs h
theorem Reps.ofPairs : ∀ {zs : List (D × V)}, (∀ p ∈ zs, Rep G μ τ H p.1 p.2) → Reps G μ τ H (zs.map (·.1)) (zs.map (·.2))
  | [], _ => rfl
  | z :: zs, h => .cons (h z List.mem_cons_self) (Reps.ofPairs fun p hp => h p (List.mem_cons_of_mem _ hp))
theorem vals_of_each : ∀ {us : List Value} {zs : List (D × V)}, PySem.W.EachIs (fun u p => RelV p.2 u) us zs → Vals (zs.map (·.2)) us
  | _, _, .nil => .nil
  | _, _, .cons h t => .cons h (vals_of_each t)
theorem srt_map (zs : List (D × V)) : (zs.mergeSort (PySem.W.dataLe false fun p => pd p.1)).map (·.1) = srt (zs.map (·.1)) := by
  rw [srt_eq]
  exact List.map_mergeSort fun a _ b _ => rfl
theorem can_inv {xs : List D} (h : canSort xs = true) : (∀ x ∈ xs, plain 50 x = true) ∧ (∀ x ∈ xs, ∀ y ∈ xs, PySem.W.alike (pd x) (pd y) = true) ∧ ((∀ x ∈ xs, ∃ y r, x = .tup (y :: r)) ∨ ∀ x ∈ xs, (∃ i, x = .int i) ∨ ∃ z, x = .str z) := by
  unfold canSort alikes at h
  rw [Bool.and_eq_true, Bool.and_eq_true, Bool.or_eq_true] at h
  obtain ⟨⟨h1, h2⟩, h3⟩ := h
  refine ⟨List.all_eq_true.mp h1, fun x hx y hy => List.all_eq_true.mp (List.all_eq_true.mp h2 x hx) y hy, ?_⟩
  rcases h3 with h3 | h3
  · refine .inl fun x hx => ?_
    have := List.all_eq_true.mp h3 x hx
    split at this
    · exact ⟨_, _, rfl⟩
    · cases this
  · refine .inr fun x hx => ?_
    have := List.all_eq_true.mp h3 x hx
    split at this
    · exact .inl ⟨_, rfl⟩
    · exact .inr ⟨_, rfl⟩
    · cases this
theorem can_sortable {xs : List D} {vs : List V} (h : canSort xs = true) : PySem.W.AllAlike ((xs.zip vs).map fun p => pd p.1) ∧ PySem.W.Sortable ((xs.zip vs).map fun p => pd p.1) := by
  obtain ⟨_, h2, h3⟩ := can_inv h
  have mem : ∀ d ∈ (xs.zip vs).map (fun p => pd p.1), ∃ x ∈ xs, d = pd x := fun d hd => by
    obtain ⟨p, hp, rfl⟩ := List.mem_map.mp hd
    exact ⟨p.1, (List.of_mem_zip hp).1, rfl⟩
  refine ⟨fun d hd d' hd' => ?_, ?_⟩
  · obtain ⟨x, hx, rfl⟩ := mem d hd
    obtain ⟨y, hy, rfl⟩ := mem d' hd'
    exact h2 x hx y hy
  · rcases h3 with h3 | h3
    · refine .inl fun d hd => ?_
      obtain ⟨x, hx, rfl⟩ := mem d hd
      obtain ⟨y, r, rfl⟩ := h3 x hx
      exact ⟨pd y, pds r, rfl⟩
    · refine .inr fun d hd => ?_
      obtain ⟨x, hx, rfl⟩ := mem d hd
      rcases h3 x hx with ⟨i, rfl⟩ | ⟨z, rfl⟩
      · exact ⟨nofun, fun _ => nofun⟩
      · exact ⟨nofun, fun _ => nofun⟩
theorem keyS_inv : ∀ {ks : List Key} {l : List Str}, keyS ks = some l → ks = l.map Sum.inr ∧ ∀ x ∈ l, sOk x = true
  | [], l, h => by cases h; exact ⟨rfl, fun _ h => nomatch h⟩
  | .inr x :: r, l, h => by
    unfold keyS at h
    split at h
    · rename_i l' hl
      by_cases hx : sOk x = true
      case neg => rw [if_neg hx] at h; cases h
      rw [if_pos hx] at h
      cases h
      obtain ⟨e1, e2⟩ := keyS_inv hl
      refine ⟨by rw [e1]; rfl, fun y hy => ?_⟩
      rcases List.mem_cons.mp hy with rfl | hy
      · exact hx
      · exact e2 y hy
    · cases h
  | .inl _ :: _, _, h => by cases h
theorem keyI_inv : ∀ {ks : List Key} {l : List Int}, keyI ks = some l → ks = l.map Sum.inl
  | [], l, h => by cases h; rfl
  | .inl x :: r, l, h => by
    unfold keyI at h
    split at h
    · rename_i l' hl
      cases h
      rw [keyI_inv hl]; rfl
    · cases h
  | .inr _ :: _, _, h => by cases h
theorem rising_pw : ∀ (p : Str) (l : List Str), risingS p l = true → (p :: l).Pairwise fun a b => a.cps.toList ≤ b.cps.toList
  | p, [], _ => by simp
  | p, x :: r, h => by
    unfold risingS at h
    rw [Bool.and_eq_true, ltCps_eq] at h
    have hle : p.cps.toList ≤ x.cps.toList := by simpa using h.1
    have ih := rising_pw x r h.2
    rw [List.pairwise_cons]
    refine ⟨fun y hy => ?_, ih⟩
    rcases List.mem_cons.mp hy with rfl | hy
    · exact hle
    · exact List.le_trans hle ((List.pairwise_cons.mp ih).1 y hy)
theorem sorted_pw : ∀ (l : List Str), sortedS l = true → l.Pairwise fun a b => a.cps.toList ≤ b.cps.toList
  | [], _ => .nil
  | x :: r, h => rising_pw x r h
theorem srt_str {l ys : List Str} (h1 : ys.Perm l) (h2 : sortedS ys = true) : srt (l.map .str) = ys.map .str := by
  have e : srt (l.map D.str) = (l.mergeSort fun a b => decide (a.cps.toList ≤ b.cps.toList)).map .str := by
    have hle := PySem.W.dataLe_str (β := Str) fun x => x
    rw [← hle]
    rw [srt_eq, List.map_mergeSort]
    intros; rfl
  rw [e]
  congr 1
  refine List.Perm.eq_of_pairwise (le := fun a b => a.cps.toList ≤ b.cps.toList) (fun a b _ _ z1 z2 => PySem.W.str_of_cps (List.le_antisymm z1 z2)) ?_ (sorted_pw ys h2) ((List.mergeSort_perm _ _).trans h1.symm)
  have := List.pairwise_mergeSort (le := fun a b : Str => decide (a.cps.toList ≤ b.cps.toList)) (fun a b c x y => by simp only [decide_eq_true_eq] at *; exact List.le_trans x y) (fun a b => by simp only [Bool.or_eq_true, decide_eq_true_eq]; exact List.le_total _ _) l
  exact this.imp fun h => of_decide_eq_true h
theorem srt_int {l ys : List Int} (h1 : ys.Perm l) (h2 : ys.Pairwise (· ≤ ·)) : srt (l.map .int) = ys.map .int := by
  have e : srt (l.map D.int) = (l.mergeSort fun a b => decide (a ≤ b)).map .int := by
    have hle := PySem.W.dataLe_int (β := Int) fun x => x
    rw [← hle]
    rw [srt_eq, List.map_mergeSort]
    intros; rfl
  rw [e]
  congr 1
  refine List.Perm.eq_of_pairwise (le := (· ≤ ·)) (fun a b _ _ z1 z2 => Int.le_antisymm z1 z2) ?_ h2 ((List.mergeSort_perm _ _).trans h1.symm)
  have := List.pairwise_mergeSort (le := fun a b : Int => decide (a ≤ b)) (fun a b c x y => by simp only [decide_eq_true_eq] at *; omega) (fun a b => by simp only [Bool.or_eq_true, decide_eq_true_eq]; omega) l
  exact this.imp fun h => of_decide_eq_true h
theorem Reps.strs : ∀ (ys : List Str), (∀ y ∈ ys, sOk y = true) → Reps G μ τ H (ys.map .str) (ys.map V.str)
  | [], _ => rfl
  | y :: ys, h => .cons ⟨rfl, h y List.mem_cons_self⟩ (Reps.strs ys fun z hz => h z (List.mem_cons_of_mem _ hz))
theorem Paired.unmap {α : Type} {F : α → V × V → Prop} : ∀ {ps : List α} {kvs : List (Key × V)}, Paired F ps (kvs.map fun kv => (kV kv.1, kv.2)) → Paired (fun p kv => F p (kV kv.1, kv.2)) ps kvs
  | [], [], _ => .nil
  | _ :: _, [], h => by cases h
  | [], _ :: _, h => by cases h
  | _ :: _, _ :: _, .cons h t => .cons h (Paired.unmap t)
theorem c_sorted (hK : G.K = X.K) (hc : X.calm = true) (hu : X.A.units + 64 < cLine) : CallR X (.builtin "sorted") (rCl G sortedD) := by
  intro pins s σ H vs us Q I r ⟨W, σ', ds, m, μ, τ, g, rs, q⟩
  unfold sortedD at q
  split at q
  · rename_i d
    obtain ⟨x, rfl, p⟩ := one_inv rfl rs
    split at q
    · rename_i xs hx
      unfold sortD at q
      by_cases hcs : canSort xs = true
      case neg => rw [if_neg hcs] at q; exact False.elim q
      rw [if_pos hcs] at q
      obtain ⟨a, ws, rfl, h, rv⟩ := seq_inv hK g p hx
      obtain ⟨its, ri, hl, hz⟩ : ∃ its : List Value, Vals ws its ∧ (s.heap.IsList a its.toArray ∨ s.heap.IsTuple a its.toArray) ∧ ws.length ≤ sizeLine := by
        rcases h with h | h
        · obtain ⟨its, ri, hl, hz⟩ := I.list h
          exact ⟨its, ri, .inl hl.isList, hz⟩
        · obtain ⟨its, ri, hl, hz⟩ := I.tuple h
          exact ⟨its, ri, .inr hl, hz⟩
      rw [Vals.ref1 r]
      obtain ⟨c1, c2, c3⟩ := can_inv hcs
      obtain ⟨k1, k2⟩ := can_sortable (vs := ws) hcs
      have lz : (xs.zip ws).length = ws.length := by rw [List.length_zip, ← rv.length, Nat.min_self]
      refine sorted_dataLT (R := fun u p => RelV p.2 u) (bs := xs.zip ws) (enc := fun p => pd p.1) hl (each_zip ri rv.length fun p u _ h => h) (each_zip ri rv.length fun p u hp hr => ?_) k1 k2 (by rw [lz]; exact hz) (fun b hb => ?_) fun out ho eo => ?_
      · exact Dp.reads I _ _ _ (Rep.dp hK _ 50 _ (c1 _ (List.of_mem_zip hp).1) (rv.mem hp)) hr
      · have := (Rep.shaped _ 50 _ (c1 _ (List.of_mem_zip hb).1) (rv.mem hb)).2
        omega
      · obtain ⟨ep, he'⟩ := PyProof.Rows.sortedAll_at s.heap its out.toArray
        have vo := vals_of_each eo
        have rr : Reps G μ τ H (srt xs) (((xs.zip ws).mergeSort (PySem.W.dataLe false fun p => pd p.1)).map (·.2)) := by
          have := Reps.ofPairs (G := G) (μ := μ) (τ := τ) (H := H) (zs := (xs.zip ws).mergeSort (PySem.W.dataLe false fun p => pd p.1)) fun p hp => rv.mem ((List.mergeSort_perm _ _).mem_iff.mp hp)
          rw [srt_map, List.map_fst_zip (by rw [rv.length]; exact Nat.le_refl _)] at this
          exact this
        have hsz : (((xs.zip ws).mergeSort (PySem.W.dataLe false fun p => pd p.1)).map (·.2)).length ≤ sizeLine := by
          rw [List.length_map, List.length_mergeSort, lz]; exact hz
        exact ⟨.ref _, upd H (s.heap.objs.size + 1) (.lst (((xs.zip ws).mergeSort (PySem.W.dataLe false fun p => pd p.1)).map (·.2))), I.laid (t' := s.toks) (fun _ _ => PyProof.Rows.sortedAll_old) (Nat.le_succ _) ⟨hsz, out, ep, vo, he'⟩, rfl, newL q g rr (I.hok.fresh (Nat.le_succ _))⟩
    · split at q
      · rename_i pr hpr
        obtain ⟨a, ws, rfl, h, hl, rv⟩ := dic_inv g p hpr
        unfold sortKeysD at q
        have hmap : (pr.1.zip ws).map (·.1) = pr.1 := List.map_fst_zip (by rw [hl]; exact Nat.le_refl _)
        split at q
        · rename_i l hk
          obtain ⟨e1, e2⟩ := keyS_inv hk
          by_cases h64 : l.length < 64
          case neg => rw [if_neg h64] at q; exact False.elim q
          rw [if_pos h64] at q
          refine call_sortedD hc pins s σ H _ us Q I r ⟨a, _, l, rfl, .inl h, by rw [hmap]; exact e1, h64, fun ys pp hp1 hp2 hpn => ?_⟩
          rw [srt_str hp1 hp2] at q
          refine newL q g (vs := ys.map V.str) ?_ hpn
          exact Reps.strs ys fun y hy => e2 y (hp1.mem_iff.mp hy)
        · split at q
          · rename_i l hk
            by_cases h64 : l.length < 64
            case neg => rw [if_neg h64] at q; exact False.elim q
            rw [if_pos h64] at q
            refine call_sortedDI hc pins s σ H _ us Q I r ⟨a, _, l, rfl, .inl h, by rw [hmap]; exact keyI_inv hk, h64, fun ys pp hp1 hp2 hpn => ?_⟩
            rw [srt_int hp1 hp2] at q
            exact newL q g (vs := ys.map V.int) (Reps.ints ys) hpn
          · exact False.elim q
      · exact False.elim q
  · exact False.elim q
/-! ### dict(x) -/
theorem split_inv {P : Value → Prop} : ∀ {xs ks vs : List D} {ws : List V}, splitP xs = some (ks, vs) → Reps G μ τ H xs ws →
    ∃ (ps : List Addr) (prs : List (V × V)), ws = ps.map V.ref ∧ Paired (fun p (kv : V × V) => SqT G.K H p [kv.1, kv.2]) ps prs ∧ Reps G μ τ H ks (prs.map (·.1)) ∧ Reps G μ τ H vs (prs.map (·.2))
  | [], ks, vs, ws, h, r => by
    cases h
    cases (show ws = [] from r)
    exact ⟨[], [], rfl, .nil, rfl, rfl⟩
  | x :: xs, ks, vs, ws, h, r => by
    unfold splitP at h
    split at h
    · cases ‹_ = []›
    · rename_i k v r' e
      cases e
      split at h
      · rename_i p hp
        cases h
        obtain ⟨w, ws', rfl, ⟨a, zs, rfl, q, rz⟩, rs⟩ := r
        obtain ⟨y, z, rfl, r1, r2⟩ := two_inv rfl rz
        obtain ⟨ps, prs, rfl, h1, h2, h3⟩ := split_inv (P := P) hp rs
        exact ⟨a :: ps, (y, z) :: prs, rfl, .cons q.sqT h1, .cons r1 h2, .cons r2 h3⟩
      · cases h
    · cases h
theorem c_dict (hK : G.K = X.K) (hc : X.calm = true) : CallR X (.type "dict") (rCl G dictD) := by
  intro pins s σ H vs us Q I r ⟨W, σ', ds, m, μ, τ, g, rs, q⟩
  unfold dictD at q
  split at q
  · rename_i d
    obtain ⟨x, rfl, p⟩ := one_inv rfl rs
    split at q
    · rename_i xs hx
      split at q
      · rename_i kv hkv
        obtain ⟨a, ws, rfl, h, rv⟩ := seq_invS hK g p hx
        obtain ⟨ps, prs, rfl, h1, h2, h3⟩ := split_inv (P := fun _ => True) (ks := kv.1) (vs := kv.2) hkv rv
        cases hd : dspD kv.1 kv.2 [] [] with
        | none => rw [hd] at q; exact False.elim q
        | some d' =>
          rw [hd] at q
          obtain ⟨qs', xs', ws', kvs, f1, f2, f3, f4, f5, f6⟩ := dsp_inv kv.1 kv.2 [] [] prs [] d' hd h2 h3 rfl rfl
          subst f1 f2
          have e : mergeK [] kvs = qs'.zip ws' := f4
          have hp : Paired (fun p (kv : Key × V) => SqT X.K H p [kV kv.1, kv.2]) ps kvs := by
            rw [← hK]
            exact Paired.unmap h1
          have fin : ∀ p, H p = none → Q (.ref p) (upd H p (.dK (mergeK [] kvs))) := fun p hp => by
            rw [e]
            have nl : Nxt μ τ H μ (p :: τ) (upd H p (.dK (qs'.zip ws'))) := Nxt.laid hp
            exact q p ws' _ μ nl hp (g.laid hp) upd_same f5 (f6.next nl g)
          rcases h with h | h
          · exact call_dictP hc pins s σ H _ us Q I r ⟨a, ps, kvs, rfl, h, hp, fin⟩
          · exact call_dictTP hc pins s σ H _ us Q I r ⟨a, ps, kvs, rfl, h, hp, fin⟩
      · exact False.elim q
    · split at q
      · rename_i pr hpr
        obtain ⟨a, ws, rfl, h, hl, rv⟩ := dic_inv g p hpr
        obtain rfl := Vals.ref1 r
        refine d_copyOf I (.inl h) fun p s' hp J => ⟨.ref p, _, J, rfl, ?_⟩
        have nl : Nxt μ τ H μ (p :: τ) (upd H p (.dK (pr.1.zip ws))) := Nxt.laid hp
        exact q p ws _ μ nl hp (g.laid hp) upd_same hl (rv.next nl g)
      · exact False.elim q
  · exact False.elim q
end
end EV

/-! sorted(d.items()), keys whole numbers and texts, values whole numbers. -/
namespace EV
open PySem PySem.Spec PyProof.Rows L2
section
variable {X : Cx} {G : Gw} {W : WX} {σ : L2.St} {μ τ μ' τ' : List Addr} {H H' : Hp} {m m' : Mem} {ρ : Rho} {a : Expr} {fa : Rho → Mem → R D}
/-- d.items() -/
def rItm : V → List V → Hp → VK → Prop := fun x xs H Q => ∃ (a : Addr) (kvs : List (Key × V)), x = .ref a ∧ xs = [] ∧ H a = some (.dK kvs) ∧ ∀ p, H p = none → Q (.ref p) (upd H p (DX.itemsO p a))
theorem mt_itm : MtR X "dict.items" rItm := by
  intro pins s σ H x xs v us Q I rx rxs ⟨a, kvs, e1, e2, ha, q⟩
  subst e1 e2
  obtain rfl : v = Value.ref a := rx
  cases rxs
  obtain ⟨_, hd, vs, _, o, es, ep, ho, hx, hdat, _⟩ := dk_of I.hok ha
  refine DT.callItems (es := es) (ep := ep) hd ⟨o, ho, hx, hdat⟩ ⟨.ref s.heap.objs.size, upd H s.heap.objs.size (DX.itemsO s.heap.objs.size a), ?_, rfl, q _ (I.hok.fresh (Nat.le_refl _))⟩
  exact I.laid (t' := s.toks) (fun b u e => Heap.get?_push_of_some _ e) (Nat.le_refl _) (DX.itemsO_ok (Heap.get?_push_size _ rfl))
/-- entries one by one -/
theorem pairs_at {P : Program} {w : World} : ∀ {es : List DictEntry} {kvs : List (Key × Value)} {ks : List Key} {vs : List V} {j : Nat} {e : DictEntry}, Pairs (mixKind P w) es kvs → KV (ks.zip vs) kvs → es[j]? = some e → ∃ q v, ks[j]? = some q ∧ vs[j]? = some v ∧ keyIs q e.key = true ∧ RelV v e.val
  | _, _, _, _, _, _, .nil, _, h => by simp at h
  | e :: es, kv :: kvs, ks, vs, j, e', .cons h1 h2 t, r, h => by
    cases ks with
    | nil => cases r
    | cons k ks =>
      cases vs with
      | nil => cases r
      | cons v vs =>
        rw [List.zip_cons_cons] at r
        have r' : Paired (fun (p : Key × V) (q : Key × Value) => p.1 = q.1 ∧ RelV p.2 q.2) ((k, v) :: ks.zip vs) (kv :: kvs) := r
        cases r' with
        | cons hh tt =>
          cases j with
          | zero =>
            simp at h
            subst h
            refine ⟨k, v, rfl, rfl, ?_, ?_⟩
            · have e : k = kv.1 := hh.1
              rw [e]; exact h1
            · rw [h2]; exact hh.2
          | succ j =>
            obtain ⟨q, x, g1, g2, g3, g4⟩ := pairs_at (j := j) t tt (by simpa using h)
            exact ⟨q, x, by simpa using g1, by simpa using g2, g3, g4⟩
theorem pairs_len {P : Program} {w : World} : ∀ {es : List DictEntry} {kvs : List (Key × Value)}, Pairs (mixKind P w) es kvs → es.length = kvs.length
  | _, _, .nil => rfl
  | _, _, .cons _ _ t => by rw [List.length_cons, List.length_cons, pairs_len t]
theorem kv_len {kvs : List (Key × V)} {ws : List (Key × Value)} (r : KV kvs ws) : kvs.length = ws.length := Paired.length r
theorem Good.grow {p : Addr} (g : Good G μ τ m H) (gr : ∀ b o, H b = some o → H' b = some o) (hp : H p = none) (hp' : H' p ≠ none) : Nxt μ τ H μ (p :: τ) H' ∧ Good G μ (p :: τ) m H' := by
  have nx : Nxt μ τ H μ (p :: τ) H' := by
    refine ⟨fun _ _ h => h, fun b o e _ _ => gr b o e, fun b ps e => ⟨#[], by rw [gr b _ e]; simp⟩, fun _ h => .inl h, fun b h => ?_⟩
    rcases List.mem_cons.mp h with rfl | h
    · exact .inr (.inr hp)
    · exact .inl h
  refine ⟨nx, g.len, fun n c b e1 e2 => ?_, g.nodup, fun b h => ?_, g.tabs.ext gr⟩
  · obtain ⟨o, eo, _⟩ := (g.cell n c b e1 e2).mut
    exact (g.cell n c b e1 e2).nxt nx (fun _ => g.mut) (by rw [gr b o eo, eo])
  · rcases List.mem_cons.mp h with rfl | h
    · refine ⟨fun z => ?_, hp'⟩
      obtain ⟨o, e, _⟩ := g.mut z
      rw [hp] at e; cases e
    · refine ⟨(g.dis b h).1, ?_⟩
      cases q : H b with
      | none => exact absurd q (g.dis b h).2
      | some o => rw [gr b o q]; simp
def rSrtI (G : Gw) : List V → Hp → VK → Prop := fun xs H Q => ∃ (W : WX) (σ : L2.St) (p a : Addr) (ks : List Key) (ds : List D) (vs : List V) (m : Mem) (μ τ : List Addr), xs = [.ref p] ∧ H p = some (DX.itemsO p a) ∧ H a = some (.dK (ks.zip vs)) ∧ ks.length = vs.length ∧ Good G μ τ m H ∧ Reps G μ τ H ds vs ∧
  PstF G W σ μ τ H (if itmOk ks ds then R.of (sortD (EV.pairsOf ks ds)) m else .bad) Q
theorem int_vals {ds : List D} {vs : List V} {j : Nat} {v : V} (h : ds.all (fun d => match d with | .int _ => true | _ => false) = true) (r : Reps G μ τ H ds vs) (e : vs[j]? = some v) : ∃ i, ds[j]? = some (.int i) ∧ v = .int i := by
  obtain ⟨d, h1, h2⟩ := r.getV e
  have := List.all_eq_true.mp h d (List.mem_of_getElem? h1)
  cases d with
  | int i => exact ⟨i, h1, h2⟩
  | _ => exact absurd this Bool.false_ne_true
theorem key_reads {h : Heap} {q : Key} {v : Value} (k : keyIs q v = true) : Reads h v (pd (keyOf q)) [] := by
  rcases keyIs_shape k with ⟨i, t, rfl, rfl⟩ | ⟨x, t, rfl, rfl⟩
  · exact .int i t
  · exact .str x t
theorem key_rel {q : Key} {v : Value} (k : keyIs q v = true) : RelV (kV q) v := by
  rcases keyIs_shape k with ⟨i, t, rfl, rfl⟩ | ⟨x, t, rfl, rfl⟩
  · exact ⟨t, rfl⟩
  · exact ⟨t, rfl⟩
/-- tuples already laid are tracked, their objects known -/
theorem takeF {X : Cx} {pins : List (Addr × Obj)} {σ : L2.St} {H0 : Hp} {s : Shared} {h' : Heap} {tk : Nat} {P : Addr → List V → Prop} (I0 : Inv X pins σ H0 s) : ∀ (L : List Addr) (H1 : Hp), Inv X pins σ H1 { s with heap := h', toks := tk } → L.Nodup →
    (∀ a ∈ L, s.heap.objs.size ≤ a ∧ H1 a = none ∧ ∃ vs o, P a vs ∧ o.dict = none ∧ ∀ H2, ObjOk X.prog X.w H2 h' a (.frz o (.tup vs))) →
    ∃ H2, Inv X pins σ H2 { s with heap := h', toks := tk } ∧ (∀ b o, H1 b = some o → H2 b = some o) ∧ ∀ a ∈ L, ∃ vs o, P a vs ∧ o.dict = none ∧ H2 a = some (.frz o (.tup vs))
  | [], H1, I1, _, _ => ⟨H1, I1, fun _ _ e => e, fun _ h => nomatch h⟩
  | a :: L, H1, I1, hn, h => by
    obtain ⟨hb, hnone, vs, o0, hP, ho, ok⟩ := h a (List.mem_cons_self ..)
    have I2 : Inv X pins σ (upd H1 a (.frz o0 (.tup vs))) { s with heap := h', toks := tk } := I1.take (h' := h') (t' := tk) (fun b ob _ e => e) (I0.fpOk hb hnone) (ok _)
    rw [List.nodup_cons] at hn
    obtain ⟨H2, I3, g, q⟩ := takeF I0 L (upd H1 a (.frz o0 (.tup vs))) I2 hn.2 fun c hc => by
      obtain ⟨c1, c2, c3⟩ := h c (List.mem_cons_of_mem _ hc)
      exact ⟨c1, by rw [upd_ne (fun z => hn.1 (by rw [← z]; exact hc))]; exact c2, c3⟩
    refine ⟨H2, I3, fun b o e => g b o (by rw [upd_ne (ne_of_none e hnone)]; exact e), fun c hc => ?_⟩
    rcases List.mem_cons.mp hc with rfl | hc
    · exact ⟨vs, o0, hP, ho, g _ _ upd_same⟩
    · exact q c hc
theorem c_srtI (hK : G.K = X.K) (hc : X.calm = true) (hu : X.A.units + 64 < cLine) : CallR X (.builtin "sorted") (rSrtI G) := by
  intro pins s σ H xs us Q I r ⟨W, σ', p, ad, ks, ds, vs, m, μ, τ, e0, hp, ha, hl, g, rs, q⟩
  subst e0
  obtain rfl := Vals.ref1 r
  by_cases hi : itmOk ks ds = true
  case neg => rw [if_neg hi] at q; exact False.elim q
  rw [if_pos hi] at q
  unfold sortD at q
  by_cases hcs : canSort (EV.pairsOf ks ds) = true
  case neg => rw [if_neg hcs] at q; exact False.elim q
  rw [if_pos hcs] at q
  unfold itmOk at hi
  rw [Bool.and_eq_true] at hi
  have view : s.heap.IsItemsView p ad := (show ObjOk X.prog X.w H s.heap p (DX.itemsO p ad) from I.hok p _ hp).1
  obtain ⟨z, hd, kvs, rel, o, es, ep, ho, hx, hdat, _, prs, _⟩ := dk_of I.hok ha
  have les : es.size = ks.length := by
    have h1 := pairs_len prs
    have h2 := kv_len rel
    rw [List.length_zip, ← hl, Nat.min_self] at h2
    rw [← Array.length_toList, h1, h2]
  have hz : ks.length ≤ sizeLine := by
    rw [List.length_zip, ← hl, Nat.min_self] at z; exact z
  have ld : ds.length = ks.length := by rw [← rs.length, hl]
  refine DT.sortedI (es := es) (ep := ep) (I.ok.hd hc) view ⟨o, ho, hx, hdat⟩ (by rw [les]; exact hz) fun h' tk as hk hlt hla hG => ?_
  have nd : as.Nodup := List.Pairwise.imp (fun h => Nat.ne_of_lt h) hG.rise
  -- the pairs as made
  have pr : ∀ (j : Nat) (b : Addr), as[j]? = some b → ∃ (e : DictEntry) (k : Key) (i : Int), ks[j]? = some k ∧ ds[j]? = some (.int i) ∧ keyIs k e.key = true ∧ RelV (.int i) e.val ∧ h'.get? b = some { cls := .type "tuple", data := .seq #[e.key, e.val] } := by
    intro j b hj
    obtain ⟨e, he, hg⟩ := hG.pairs j b hj
    obtain ⟨k, v, k1, k2, k3, k4⟩ := pairs_at (j := j) prs rel (by rw [Array.getElem?_toList]; exact he)
    obtain ⟨i, d1, rfl⟩ := int_vals hi.2 rs k2
    exact ⟨e, k, i, k1, d1, k3, k4, hg⟩
  have hob : (h'.push { cls := .type "list", data := .seq (as.map Value.ref).toArray }).get? h'.objs.size = some (seqObj "list" (as.map Value.ref).toArray 0) := Heap.get?_push_size _ rfl
  have ka : ∀ b o, h'.get? b = some o → (h'.push { cls := .type "list", data := .seq (as.map Value.ref).toArray }).get? b = some o := fun b o e => Heap.get?_push_of_some _ e
  have ne0 : ∀ b o, h'.get? b = some o → b ≠ h'.objs.size := fun b o e => Nat.ne_of_lt (Heap.lt_size e)
  generalize h'.push { cls := .type "list", data := .seq (as.map Value.ref).toArray } = h2 at hob ka ⊢
  -- what is sorted
  have lp : (EV.pairsOf ks ds).length = as.length := by
    unfold EV.pairsOf
    rw [List.length_map, List.length_zip, ld, Nat.min_self, hla, les]
  have pat : ∀ (j : Nat) (d : D), (EV.pairsOf ks ds)[j]? = some d → ∃ k x, ks[j]? = some k ∧ ds[j]? = some x ∧ d = .tup [keyOf k, x] := by
    intro j d e
    unfold EV.pairsOf at e
    rw [List.getElem?_map] at e
    obtain ⟨y, e1, e2⟩ := Option.map_eq_some_iff.mp e
    rw [List.getElem?_zip_eq_some] at e1
    exact ⟨y.1, y.2, e1.1, e1.2, e2.symm⟩
  have eachA : ∀ (P : Value → D × V → Prop), (∀ (j : Nat) (b : Addr) (k : Key) (i : Int), as[j]? = some b → ks[j]? = some k → ds[j]? = some (D.int i) → P (.ref b) (D.tup [keyOf k, D.int i], V.ref b)) → PySem.W.EachIs P (as.map Value.ref) ((EV.pairsOf ks ds).zip (as.map V.ref)) := by
    intro P hP
    refine .of_zip (by rw [List.length_zip, List.length_map, List.length_map, lp, Nat.min_self]) fun y hy => ?_
    obtain ⟨j, hj⟩ := List.mem_iff_getElem?.mp hy
    rw [List.getElem?_zip_eq_some, List.getElem?_zip_eq_some, List.getElem?_map, List.getElem?_map] at hj
    obtain ⟨j1, j2, j3⟩ := hj
    cases hb : as[j]? with
    | none => rw [hb] at j1; cases j1
    | some b =>
      rw [hb] at j1 j3
      obtain ⟨e, k, i, k1, k2, _⟩ := pr j b hb
      obtain ⟨k', x', k3, k4, k5⟩ := pat j _ j2
      rw [k1] at k3; cases k3
      rw [k2] at k4; cases k4
      obtain ⟨y1, y2, y3⟩ := y
      cases (show some (Value.ref b) = some y1 from j1)
      cases (show some (V.ref b) = some y3 from j3)
      cases (show y2 = _ from k5)
      exact hP j b k i hb k1 k2
  obtain ⟨k1, k2⟩ := can_sortable (vs := as.map V.ref) hcs
  refine PySem.W.list_sort_data (R := fun u y => RelV y.2 u) (bs := (EV.pairsOf ks ds).zip (as.map V.ref)) (enc := fun y => pd y.1) hob (eachA _ fun j b k i _ _ _ => rfl) (eachA _ fun j b k i hb hk1 hd1 => ?_) k1 k2 ?_ (fun y hy => ?_) fun out hlo eo => ?_
  · obtain ⟨e, k', i', k3, k4, k5, k6, k7⟩ := pr j b hb
    rw [hk1] at k3; cases k3
    rw [hd1] at k4; cases k4
    obtain ⟨t, et⟩ := k6
    refine ⟨[], .tuple (ka _ _ k7) rfl rfl ?_, by simp⟩
    refine .cons (as := []) (bs := []) (key_reads k5) (.cons (as := []) (bs := []) ?_ .nil)
    rw [et]; exact .int i t
  · rw [List.length_zip, List.length_map, lp, Nat.min_self, hla, les]; exact hz
  · have hm := (List.of_mem_zip hy).1
    obtain ⟨j, hj⟩ := List.mem_iff_getElem?.mp hm
    obtain ⟨k, x, _, hx1, e⟩ := pat j _ hj
    have hxi : ∃ i, x = .int i := by
      have := List.all_eq_true.mp hi.2 x (List.mem_of_getElem? hx1)
      cases x with
      | int i => exact ⟨i, rfl⟩
      | _ => exact absurd this Bool.false_ne_true
    obtain ⟨i, rfl⟩ := hxi
    have hdp : (pd y.1).depth ≤ 1 := by
      rw [e]
      cases k <;> simp [pd, pds, keyOf, PyData.depth, PyData.depthAll]
    show X.A.units + 1 + 1 + (pd y.1).depth < cLine
    omega
  · show EP X pins σ Q (.ref h'.objs.size) { s with heap := sortedHeap h2 h'.objs.size (as.map Value.ref) out.toArray, toks := tk }
    have kF : ∀ b o, b ≠ h'.objs.size → h2.get? b = some o → (sortedHeap h2 h'.objs.size (as.map Value.ref) out.toArray).get? b = some o := fun b o hb e => (PyProof.Rows.sortedHeap_old hb (Heap.lt_size e)).trans e
    have kH : ∀ b o, h'.get? b = some o → (sortedHeap h2 h'.objs.size (as.map Value.ref) out.toArray).get? b = some o := fun b o e => kF b o (ne0 b o e) (ka b o e)
    obtain ⟨eF, heF⟩ := PyProof.Rows.sortedHeap_at (vs := as.map Value.ref) (out := out.toArray) hob
    have I1 : Inv X pins σ H { s with heap := sortedHeap h2 h'.objs.size (as.map Value.ref) out.toArray, toks := tk } := I.kept (t' := tk) fun b o e => kH b o (hk b o e)
    have hn0 : H h'.objs.size = none := I.hok.fresh (Nat.le_of_lt hlt)
    generalize hzs : ((EV.pairsOf ks ds).zip (as.map V.ref)).mergeSort (PySem.W.dataLe false fun y => pd y.1) = zs at eo
    have lz : zs.length = ks.length := by
      rw [← hzs, List.length_mergeSort, List.length_zip, List.length_map, lp, Nat.min_self, hla, les]
    have I2 : Inv X pins σ (upd H h'.objs.size (.lst (zs.map (·.2)))) { s with heap := sortedHeap h2 h'.objs.size (as.map Value.ref) out.toArray, toks := tk } :=
      I1.take (h' := sortedHeap h2 h'.objs.size (as.map Value.ref) out.toArray) (t' := tk) (fun b ob _ e => e) (I.fpOk (Nat.le_of_lt hlt) hn0) ⟨by rw [List.length_map, lz]; exact hz, out, eF, vals_of_each eo, heF⟩
    obtain ⟨H2, I3, gr1, qt⟩ := takeF (P := fun b xs => ∃ (j : Nat) (k : Key) (i : Int), as[j]? = some b ∧ ks[j]? = some k ∧ ds[j]? = some (.int i) ∧ xs = [kV k, .int i]) I as _ I2 nd fun b hb => by
      obtain ⟨j, hj⟩ := List.mem_iff_getElem?.mp hb
      obtain ⟨e, k, i, k1, k2, k3, k4, k5⟩ := pr j b hj
      have hbl : s.heap.objs.size ≤ b := Nat.le_of_lt (hG.above b hb)
      refine ⟨hbl, ?_, [kV k, .int i], _, ⟨j, k, i, hj, k1, k2, rfl⟩, rfl, fun H3 => ⟨kH _ _ k5, small (by show 2 ≤ 1000; omega), [e.key, e.val], .cons (key_rel k3) (.cons k4 .nil), ⟨_, kH _ _ k5, rfl, 0, rfl⟩⟩⟩
      rw [upd_ne (ne0 _ _ k5)]
      exact I.hok.fresh hbl
    have gr : ∀ b o, H b = some o → H2 b = some o := fun b o e => gr1 b o (by rw [upd_ne (ne_of_none e hn0)]; exact e)
    have hL : H2 h'.objs.size = some (.lst (zs.map (·.2))) := gr1 _ _ upd_same
    obtain ⟨nx, gd⟩ := g.grow (p := h'.objs.size) gr hn0 (by rw [hL]; simp)
    refine ⟨.ref h'.objs.size, H2, I3, rfl, q h'.objs.size (zs.map (·.2)) H2 μ nx hn0 gd hL ?_⟩
    have e1 : srt (EV.pairsOf ks ds) = zs.map (·.1) := by
      rw [← hzs, srt_map, List.map_fst_zip (by rw [List.length_map, lp]; exact Nat.le_refl _)]
    rw [e1]
    refine Reps.ofPairs fun y hy => ?_
    have hy' : y ∈ (EV.pairsOf ks ds).zip (as.map V.ref) := by
      rw [← hzs] at hy
      exact (List.mergeSort_perm _ _).mem_iff.mp hy
    obtain ⟨j, hj⟩ := List.mem_iff_getElem?.mp hy'
    rw [List.getElem?_zip_eq_some, List.getElem?_map] at hj
    obtain ⟨j1, j2⟩ := hj
    obtain ⟨b, hb, eb⟩ := Option.map_eq_some_iff.mp j2
    obtain ⟨xs, ob, ⟨j', k', i', t1, t2, t3, t4⟩, hob2, hH⟩ := qt b (List.mem_of_getElem? hb)
    have ej : j = j' := (List.getElem?_inj (List.getElem?_eq_some_iff.mp hb).1 nd).mp (hb.trans t1.symm)
    subst ej
    obtain ⟨k2', x2, t5, t6, t7⟩ := pat j _ j1
    rw [t2] at t5; cases t5
    rw [t3] at t6; cases t6
    rw [t7, ← eb]
    subst t4
    refine ⟨b, [kV k', .int i'], rfl, TupS.of hH hob2, .cons ?_ (.cons rfl .nil)⟩
    have hks := List.all_eq_true.mp hi.1 k' (List.mem_of_getElem? t2)
    cases k' with
    | inl i => exact rfl
    | inr x => exact ⟨rfl, hks⟩
theorem ev_sortedItems {p pos ap cp : Pos} (hK : G.K = X.K) (hc : X.calm = true) (hu : X.A.units + 64 < cLine) (hg : Gl X "sorted") (hm : X.mg "sorted" = none) (ha : EvE X G W a fa) (hb : baseOk a = true) (hl : (ap.endLine == cp.line) = true) :
    EvF X G W (.Call (.Name "sorted" p) [.Call (.Attribute a "items" ap) [] [] cp] [] pos) (fun ρ m => (fa ρ m).bind fun d m1 => sortedItemsD [d] m1) := by
  have hi := pe_bm0 (X := X) (T := "dict") (id := "dict.items") (apos := ap) (cpos := cp) PySem.F.plainAttrs_dict PySem.F.slot_dict_items PySem.F.type_dict_items mt_itm ha (base_of hb) hl
  refine PE.imp (pe_callB (c_srtI (G := G) hK hc hu) hg hm PyProof.Rows.boot_sorted (pa_cons hi pa_nil rfl) (by decide) (by decide) rfl rfl) fun σ H Q ⟨ρ, m, μ, τ, g, s, h⟩ => ?_
  refine ⟨ρ, m, μ, τ, g, s, (PstF.bind (RP := RD G τ) g h).imp fun x H1 ⟨d, m1, μ1, n1, g1, r1, h1⟩ => ?_⟩
  unfold sortedItemsD at h1
  dsimp only at h1
  cases hd : dicOf m1 d with
  | none => rw [hd] at h1; exact False.elim h1
  | some pr =>
    rw [hd] at h1
    obtain ⟨ad, vs, rfl, ha', hl', rs⟩ := dic_inv g1 r1 hd
    refine ⟨.inr (.inr (.inl ⟨rfl, .inl ⟨_, ha'⟩⟩)), ad, _, rfl, rfl, ha', fun pv hpv => ?_⟩
    have nl : Nxt μ1 τ H1 μ1 (pv :: τ) (upd H1 pv (DX.itemsO pv ad)) := Nxt.laid hpv
    have nf := nl.free
    refine ⟨W, σ, pv, ad, pr.1, pr.2, vs, m1, μ1, τ, rfl, upd_same, by rw [upd_ne (ne_of_none ha' hpv)]; exact ha', hl', (g1.laid hpv).free, rs.next nf g1, ?_⟩
    -- the same wish, a little later
    have mv : ∀ (r : R D), PstF G W σ μ1 τ H1 r Q → PstF G W σ μ1 τ (upd H1 pv (DX.itemsO pv ad)) r Q := by
      intro r hr
      have fresh : ∀ p', upd H1 pv (DX.itemsO pv ad) p' = none → H1 p' = none := fun p' e => by
        by_cases hpp : p' = pv
        · subst hpp; exact hpv
        · rwa [upd_ne hpp] at e
      cases r with
      | bad => exact hr
      | ex x p' m2 => exact fun c dd H' μ' n' g' r' => hr c dd H' μ' (nf.trans n') g' r'
      | ok d m2 =>
        cases d with
        | lst ds => exact fun p' vs' H' μ' n' hp' g' e' r' => hr p' vs' H' μ' (nf.trans n') (fresh p' hp') g' e' r'
        | dic ks ds => exact fun p' vs' H' μ' n' hp' g' e' l' r' => hr p' vs' H' μ' (nf.trans n') (fresh p' hp') g' e' l' r'
        | _ => exact fun v H' μ' n' g' r' => hr v H' μ' (nf.trans n') g' r'
    exact mv _ h1
end
end EV

/-! x in NAME, where NAME is a tuple of texts that the top made and that stands nowhere in the written part. -/
namespace EV
open PySem PySem.Spec PyProof.Rows L2
/-- a tuple of texts in a heap, at the address that a name has -/
def LooH (mg : Str → Option Value) (base : Heap) (x : Str) (ds : List D) : Prop :=
  ∃ (a : Addr) (o : Obj) (its : Array Value) (n : Nat) (ys : List Str), mg x = some (.ref a) ∧ base.get? a = some o ∧ o.cls = .type "tuple" ∧ o.data = .seq its n ∧ ds = ys.map .str ∧ (∀ y ∈ ys, sOk y = true) ∧ Vals (ys.map V.str) its.toList
def GlB (mg : Str → Option Value) (base : Heap) (G : Gw) (x : Str) (d : D) : Prop := match isMk d with
  | some ds => LooH mg base x ds
  | none => ∃ u v, mg x = some u ∧ RelV v u ∧ ∀ μ τ H, Rep G μ τ H d v
abbrev GloOk (X : Cx) (G : Gw) (x : Str) (d : D) : Prop := GlB X.mg X.base G x d
section
variable {X : Cx} {G : Gw} {W : WX} {a : Expr} {fa : Rho → Mem → R D} {x : Str} {ds : List D}
def kIn (neg : Bool) (ds : List D) (d : D) (m : Mem) : R D := R.of (((inD m d (.tup ds)).map fun b => if neg then !b else b).map .bl) m
def rIn (G : Gw) (neg : Bool) (ad : Addr) (ds : List D) : R2 := fun x y H Q => y = .ref ad ∧ ∃ (W : WX) (σ : L2.St) (d : D) (m : Mem) (μ τ : List Addr), Good G μ τ m H ∧ Rep G μ τ H d x ∧ Pst G W σ μ τ H (RD G τ) (kIn neg ds d m) Q
theorem op_rIn {ad : Addr} {o : Obj} {its : Array Value} {n : Nat} {ys : List Str} (hK : G.K = X.K) (hu : X.A.units + 64 < cLine) (neg : Bool) (e1 : X.base.get? ad = some o) (e2 : o.cls = .type "tuple") (e3 : o.data = .seq its n) (hs : ∀ y ∈ ys, sOk y = true) (hv : Vals (ys.map V.str) its.toList) :
    OpR X (compareOp (if neg then .NotIn else .In)) (rIn G neg ad (ys.map .str)) := by
  intro pins s σ H x y v u Q I rx ry ⟨hy, W, σ', d, m, μ, τ, g, r1, q⟩
  subst hy
  cases ry
  obtain ⟨b, hb, q⟩ := cmp_inv q g
  obtain ⟨c, hc, hb⟩ := Option.map_eq_some_iff.mp hb
  subst hb
  have hc : (if plain 50 (res m d) && (ys.map D.str).all (plain 50) then some ((ys.map D.str).any fun y => PyData.eqv (pd y) (pd (res m d))) else none) = some c := hc
  split at hc
  · rename_i hp
    rw [Bool.and_eq_true] at hp
    have rs : Reps G μ τ H (ys.map D.str) (ys.map V.str) := Reps.strs ys hs
    obtain ⟨a1, a2, a3⟩ := res_dp hK g r1 hp.1
    cases hc
    have pl : s.heap.IsTuple ad its.toList.toArray := ⟨o, I.bk _ _ e1, e2, n, by rw [e3]⟩
    have f1 := any_isIt (p := pd (res m d)) hK I rs hv hp.2
    have f2 := each_isIt (d := d) hK hu I a1 rx a2 a3 rs hv hp.2
    cases neg with
    | false => exact SeqAt.in_tupleAt _ pl (fun y hy => f2 y (by simpa using hy)) ⟨.bl _, H, I, by rw [List.any_toArray, f1]; rfl, q⟩
    | true => exact SeqAt.notIn_tupleAt _ pl (fun y hy => f2 y (by simpa using hy)) ⟨.bl _, H, I, by rw [List.any_toArray, f1]; rfl, q⟩
  · cases hc
theorem in_two {neg : Bool} {ad : Addr} {σ : L2.St} {H : Hp} {Q : VK} (h : rdE G W (fun ρ m => (fa ρ m).bind fun d m1 => kIn neg ds d m1) σ H Q) : tOp (rIn G neg ad ds) (rdE G W fa) (tC (.ref ad)) σ H Q := by
  obtain ⟨ρ, m, μ, τ, g, s, h⟩ := h
  refine ⟨ρ, m, μ, τ, g, s, (Pst.bind (RP := RD G τ) h).imp fun x H1 h1 => ?_⟩
  obtain ⟨d, m1, μ1, n1, g1, r1, h1⟩ := h1
  exact ⟨rfl, W, σ, d, m1, μ1, τ, g1, r1, h1⟩
theorem ev_inl {neg : Bool} {p pos : Pos} (hK : G.K = X.K) (hu : X.A.units + 64 < cLine) (hg : Gl X x) (hd : (x == ("__debug__" : Str)) = false) (h : LooH X.mg X.base x ds) (ha : EvE X G W a fa) :
    EvE X G W (.Compare a [if neg then .NotIn else .In] [.Name x p] pos) (fun ρ m => (fa ρ m).bind fun d m1 => kIn neg ds d m1) := by
  obtain ⟨ad, o, its, n, ys, h1, h2, h3, h4, rfl, h5, h6⟩ := h
  refine PE.imp (pe_cmpR (op_rIn (G := G) hK hu neg h2 h3 h4 h5 h6) ha (pe_glob (v := .ref ad) hg h1 rfl hd) (by cases neg <;> rfl)) fun _ _ _ h => in_two h
theorem in_two_t {neg : Bool} {ad : Addr} {σ : L2.St} {H : Hp} {Q : Bool → Hp → Prop} (h : rdT G W (fun ρ m => tst ((fa ρ m).bind fun d m1 => kIn neg ds d m1)) σ H Q) : tTest (tOp (rIn G neg ad ds) (rdE G W fa) (tC (.ref ad))) σ H Q := by
  obtain ⟨ρ, m, μ, τ, g, s, h⟩ := h
  exact in_two ⟨ρ, m, μ, τ, g, s, tst_inv (RP := RD G τ) h⟩
theorem ev_inlT {neg : Bool} {p pos : Pos} (hK : G.K = X.K) (hu : X.A.units + 64 < cLine) (hg : Gl X x) (hd : (x == ("__debug__" : Str)) = false) (h : LooH X.mg X.base x ds) (ha : EvE X G W a fa) :
    EvT X G W (.Compare a [if neg then .NotIn else .In] [.Name x p] pos) (fun ρ m => (fa ρ m).bind fun d m1 => kIn neg ds d m1) := by
  obtain ⟨ad, o, its, n, ys, h1, h2, h3, h4, rfl, h5, h6⟩ := h
  refine PT.imp (pt_cmpR (op_rIn (G := G) hK hu neg h2 h3 h4 h5 h6) ha (pe_glob (v := .ref ad) hg h1 rfl hd) (by cases neg <;> rfl)) fun _ _ _ h => in_two_t h
end
end EV

/-! Own exception classes: their __init__, how they are made and raised. -/
namespace EV
open PySem PySem.Spec PyProof.Rows L2
/-- o.m(..): first the callee, then the arguments -/
theorem call_meth_eq {o : Expr} {name : Str} {apos pos : Pos} {es : List Expr} {env : Env} (hb : baseOk o = true) (hst : es.all noStar = true) (hl : es.length < 20) (hline : (apos.endLine == pos.line) = true) :
    eval (.Call (.Attribute o name apos) es [] pos) env = (do
      let ov ← eval o env
      standAt apos.atName
      let (f, first) ← holding [ov] (getMethod ov name (do return (← importBound o env).getD true))
      callWith pos f first (backTo pos (starEach es env)) (backToKw pos (keywordEach [] env))) := by
  have hform : methodCallForm (es.length + ([] : List Keyword).length) (backTo pos (starEach es env)) (backToKw pos (keywordEach [] env)) = true := by
    have h1 := few_args (env := env) (pos := pos) hst
    unfold methodCallForm
    rw [h1]
    show (true && true && decide (es.length + 0 + 0 < 30)) = true
    simp; omega
  have hpos : methodCallPos true o env apos pos = pure pos := by unfold methodCallPos; simp [hline]
  rw [arm_eval_Call, base_of hb]
  unfold methodCall
  rw [hform]
  simp only [hpos, calleeOf, if_true, pure_bind]
/-- what the written part says of the base class at CB -/
structure BaseTxt (K : PySem.W.Frag) (mg : Str → Option Value) (b : Str) (CB : Addr) (mc : Value) : Prop where
  gB : mg b = some (.ref CB)
  rd : PySem.W.readsIn K CB mc = true
  fd : PySem.W.findCls K (.ref CB) mc "__init__" = some (.val (.builtin "ValueError.__init__"))
  ga : PySem.W.specialIn K (.ref CB) "__getattribute__" = some (some (.builtin "type.__getattribute__"))
section
variable {X : Cx} {e : Expr} {es : List Expr} {ta : TA} {b : Str} {CB : Addr} {mc : Value} {p1 p2 pos : Pos}
/-- Base.__init__(self, ..) -/
theorem pe_binit {pl : Sem Bool} (T : BaseTxt X.K X.mg b CB mc) (hg : Gl X b) (ha : PA X (e :: es) ta) (hdb : (b == ("__debug__" : Str)) = false)
    (hc : eval (.Call (.Attribute (.Name b p1) "__init__" p2) (e :: es) [] pos) X.env = (do
      let ov ← eval (.Name b p1) X.env
      standAt p2.atName
      let (f, first) ← holding [ov] (getMethod ov "__init__" pl)
      callWith pos f first (backTo pos (starEach (e :: es) X.env)) (backToKw pos (keywordEach [] X.env))) := by rfl)
    (he : starEach (e :: es) X.env = (false, eval e X.env) :: starEach es X.env := by rfl) (hpl : (backTo pos (starEach es X.env)).any (·.1) = false := by rfl) :
    PE X (.Call (.Attribute (.Name b p1) "__init__" p2) (e :: es) [] pos) (tVeI X.K ta) := by
  refine ⟨fun pins s σ H Q I h => ?_⟩
  refine PySem.W.methodCall_KW (ld_glob I hg T.gB ?_ hdb) hc
  refine PySem.W.method_cls I.kIn T.ga (PySem.W.cls_value I.kIn T.rd T.fd (by rfl) ?_)
  show wpAny _ _ (callWith pos (Value.builtin "ValueError.__init__") [] (backTo pos (starEach (e :: es) X.env)) []) _ _ _
  refine PyProof.Rows.callWith_method1 (thn (ha.run pos pins _ σ H _ (I.tok _) h) fun us s1 ⟨vs, H1, I1, r1, a, C, ws, ev, hl, T, ea, q⟩ => ?_) he hpl
  subst ev
  cases r1 with
  | @cons _ u0 _ ur ra rw' =>
    obtain rfl : u0 = Value.ref a := ra
    have hlen : ur.length ≤ sizeLine := by
      rw [← Paired.length rw', sizeLine_eq]
      omega
    exact oinit_ok T I1 ea hlen fun s' J => ⟨.non, H1, J, rfl, q⟩
end
/-! ### an exception without a dict -/
section
variable {X : Cx}
theorem del_upd {H : Hp} {a : Addr} {o : HO} (h : H a = none) : del (upd H a o) a = H := by
  funext b
  by_cases hb : b = a
  · subst hb; rw [del_same, h]
  · rw [del_ne hb, upd_ne hb]
/-- the end of C(): the exception is let go -/
theorem mk_endN {pins : List (Addr × Obj)} {σ : L2.St} {H1 : Hp} {Q : XK} {hp hp2 h2 : Heap} {g1 g2 : Array GenState} {d1 d2 : Drawn} {t1 t2 : Nat} {os1 os2 : OsState} {a C : Addr} (T : Raises X (.ref C)) (I1 : Inv X pins σ H1 ⟨hp, g1, d1, t1, os1⟩)
    (ha : hp.objs.size ≤ a) (k : ∀ b o, hp.get? b = some o → hp2.get? b = some o) (un : Un (frs X.stack) [] (upd H1 a (exo a C none)) (upd H1 a (exo a C none)) hp2 h2) (hok : HOk X.prog X.w (upd H1 a (exo a C none)) h2) (ho : os2 = os1) (hb : AllBare g2)
    (q : Q (.ref C) none H1) : MkP X pins σ Q (.ref a) ⟨h2, g2, d2, t2, os2⟩ := by
  have hn : H1 a = none := I1.hok.fresh ha
  obtain ⟨t0, hoe⟩ := exo_at hok (upd_same (H := H1) (o := exo a C none))
  obtain ⟨G, g1', g2'⟩ := restrict h2 fun b => decide (b ≠ a)
  have gk : ∀ b, b ≠ a → G.get? b = h2.get? b := fun b hb => g1' b (decide_eq_true hb)
  have ge : G.get? a = none := g2' a (by simp)
  have nha : ∀ {b : Addr} {o : Obj}, hp.get? b = some o → b ≠ a := fun {b o} z => Nat.ne_of_lt (Nat.lt_of_lt_of_le (Heap.lt_size z) ha)
  have up : ∀ {b : Addr}, b ≠ a → H1 b = none → upd H1 a (exo a C none) b = none := fun {b} hb n => by rw [upd_ne hb]; exact n
  have U : Un (frs X.stack) [] H1 H1 hp G := {
    keep := fun b o z n hf hx => by
      rw [gk b (nha z)]
      exact un.keep b o (k b o z) (up (nha z) n) hf hx
    slot := fun b o z n hf hx => by
      rw [gk b (nha z)]
      exact un.slot b o (k b o z) (up (nha z) n) hf hx
    free := fun b o z n hx => n
    there := fun b o z hx => by
      rw [gk b (nha z)]
      exact un.there b o (k b o z) hx
    tups := fun b xs z => z
    frzs := fun b o v z => z
    tbls := fun b ps z => ⟨#[], by rw [z]; simp⟩ }
  have hok3 : HOk X.prog X.w H1 G := fun b o z => by
    have hba : b ≠ a := ne_of_none z hn
    have noa : ∀ {c : Addr}, H1 c = some (.own b) → c ≠ a := fun {c} hc => ne_of_none hc hn
    have z2 : upd H1 a (exo a C none) b = some o := by rw [upd_ne hba]; exact z
    exact (hok b o z2).stay (fun c v hc y => by
        have hca : c ≠ a := by
          rcases hc with hc | hc
          · rw [hc]; exact hba
          · intro e
            subst e
            rw [upd_same] at hc
            exact exo_own (Option.some.inj hc)
        rw [gk c hca]; exact y)
      (fun c hc => by
        have hca : c ≠ a := fun e => by subst e; rw [upd_same] at hc; exact exo_own (Option.some.inj hc)
        rw [upd_ne hca] at hc; exact hc)
      (fun c xs hc => by
        have hca : c ≠ a := fun e => by subst e; rw [upd_same] at hc; exact exo_tup (Option.some.inj hc)
        rw [upd_ne hca] at hc; exact hc)
  have J : Inv X pins σ H1 ⟨G, g2, d2, t2, os2⟩ := I1.call' (ch := []) ho U hok3 hb (fun b z => absurd z (by simp))
  refine ⟨a, _, _, ⟨G, g2, d2, t2, os2⟩, _, .ref C, none, rfl, J, fun b o z => ?_, ge, hoe, ⟨rfl, rfl⟩, rfl, rfl, hn, rfl, hb, T, q⟩
  by_cases hba : b = a
  · have z' : G.get? b = some o := z
    rw [hba, ge] at z'; cases z'
  · exact (gk b hba).symm.trans z
/-- C(), C's own __init__ keeping the heap -/
theorem pmk_oex0 {CX : CXT} {x : Str} {C fI : Addr} {k : Nat} {fd : FuncData} {ps : List Str} {sp : Sp} {p pos : Pos} (T : OexC X.K C) (iC : PySem.W.findIn X.K (.ref C) "__init__" = some (some (.ref fI))) (tI : PySem.W.typeIn X.K (.ref fI) = some (.type "function"))
    (F1 : FnOk X.prog X.w X.K X.mg X.base CX k fI fd ps sp) (hr : Room (k + 1) X.A) (hb : Binds X.K fd ps []) (hx : Passes CX X (fun _ _ _ => False)) (hg : Gl X x) (hm : X.mg x = some (.ref C))
    (hsp : ∀ (a : Addr) (H : Hp) (Q : VK), H a = some (exo a C none) → Q .non H → sp [.ref a] H Q fun _ _ _ => False) (hdb : (x == ("__debug__" : Str)) = false) :
    PMk X (.Call (.Name x p) [] [] pos) (fun _ H Q => Q (.ref C) none H) := by
  intro pins s σ H Q I1 h
  obtain ⟨nm, q, N, bs, bm, sn, sub, ab, col, dd, k0, k1, k2, k3, k5, hC, hbm⟩ := T.cls
  refine wpAny_Call_Name_kw (ld_glob I1 hg hm ?_ hdb)
  refine PySem.W.callWith_K0 I1.kIn T.kC ?_
  show wpAny _ _ (call (.ref C) []) _ _ _
  obtain ⟨hp, g, dr, tk, os⟩ := s
  have hsz : hp.objs.size ≤ hp.objs.size + 1 := Nat.le_succ _
  have hn : H (hp.objs.size + 1) = none := I1.hok.fresh hsz
  have kk : ∀ b o, hp.get? b = some o → ((hp.push (PySem.W.kdv_tup [])).push (PySem.HandSPX.excO C hp.objs.size)).get? b = some o := fun b o e => Heap.get?_push_of_some _ (Heap.get?_push_of_some _ e)
  have hget : ((hp.push (PySem.W.kdv_tup [])).push (PySem.HandSPX.excO C hp.objs.size)).get? (hp.objs.size + 1) = some (PySem.HandSPX.excO C hp.objs.size) := by heap_get
  have I2 : Inv X pins σ (upd H (hp.objs.size + 1) (exo (hp.objs.size + 1) C none)) ⟨(hp.push (PySem.W.kdv_tup [])).push (PySem.HandSPX.excO C hp.objs.size), g, dr, tk, os⟩ :=
    I1.laid (t' := tk) (a := hp.objs.size + 1) (o := exo (hp.objs.size + 1) C none) (h' := (hp.push (PySem.W.kdv_tup [])).push (PySem.HandSPX.excO C hp.objs.size)) kk hsz (exo_ok hget)
  have hq := hsp (hp.objs.size + 1) (upd H (hp.objs.size + 1) (exo (hp.objs.size + 1) C none)) (fun v H2 => v = .non ∧ H2 = upd H (hp.objs.size + 1) (exo (hp.objs.size + 1) C none)) upd_same ⟨rfl, rfl⟩
  have hl : ([Value.ref (hp.objs.size + 1)] : List Value).length = ps.length := by
    have e := F1.len _ _ _ _ hq
    exact e
  have bb := hb ⟨(hp.push (PySem.W.kdv_tup [])).push (PySem.HandSPX.excO C hp.objs.size), g, dr, tk, os⟩ [Value.ref (hp.objs.size + 1)] I2.kIn (by rw [List.append_nil]; exact hl)
  rw [List.append_nil] at bb
  refine wpAny_call (PySem.HandSPX.call_own F.excBase_ValueError (fun Y => PySem.HandSPX.refsVE_contains Y bm hbm) (I1.kIn _ _ hC) (PySem.W.looks_findIn I1.kIn iC) (fun self => PySem.W.bind_fn I1.kIn self tI) (Nat.zero_le _)
    (codeAny_mono (F1.run _ X.stack _ _ ⟨[Value.ref (hp.objs.size + 1)], []⟩ [Value.ref (hp.objs.size + 1)] _ _ (fun _ _ _ => False) (hr.make C [] []) (I2.env0.make C [] []) bb (show Vals [V.ref (hp.objs.size + 1)] [Value.ref (hp.objs.size + 1)] from .cons rfl .nil) hq) fun r s' hq' => ?_))
  cases r with
  | error er => exact hx pins σ _ _ er s' I2 hq'
  | ok fl =>
    cases fl with
    | ret u =>
      obtain ⟨v, H2, os2, bare2, un2, hok2, rv, ev, e2⟩ := hq'
      subst ev e2
      obtain ⟨h2, g2, d2, t2, os'⟩ := s'
      exact ⟨rv, mk_endN (raises_own T.exC T.tyC) I1 hsz kk un2 hok2 os2 bare2 h⟩
    | next => exact False.elim hq'
    | brk => exact False.elim hq'
    | cont => exact False.elim hq'
end
/-! ### the promises of the two kinds of __init__ -/
def spI0 (K : PySem.W.Frag) : Sp := fun vs H Q _ => ∃ a C, vs = [V.ref a] ∧ OexC K C ∧ H a = some (exo a C none) ∧ Q .non H
def spI1 (K : PySem.W.Frag) (f : Str) : Sp := fun vs H Q _ => ∃ a C v, vs = [V.ref a, v] ∧ OexC K C ∧ PySem.W.findIn K (.ref C) f = some none ∧ H a = some (exo a C none) ∧
  ∀ dx, H dx = none → dx ≠ a → Q .non (upd (upd H dx (exd dx [(f, v)])) a (exo a C (some dx)))
/-- the text: Base.__init__(self) -/
structure Init0 (b : Str) (st : Stmt) : Prop where
  body : ∃ p1 p2 p3 p4 p5, defBody st = [.Expr (.Call (.Attribute (.Name b p1) "__init__" p2) [.Name "self" p3] [] p4) p5] ∧ (p2.endLine == p4.line) = true
  sc : FnScope ["self"] ["self"] (defScope st)
  gl : (defScope st).names.lookup b = some .globalImplicit
  db : (b == ("__debug__" : Str)) = false
/-- the text: Base.__init__(self, f); self.f = f -/
structure Init1 (b f : Str) (st : Stmt) : Prop where
  body : ∃ p1 p2 p3 p4 p5 p6 q1 q2 q3 q4, defBody st = [.Expr (.Call (.Attribute (.Name b p1) "__init__" p2) [.Name "self" p3, .Name f p4] [] p5) p6, .Assign [.Attribute (.Name "self" q1) f q2] (.Name f q3) q4] ∧ (p2.endLine == p5.line) = true
  sc : FnScope ["self", f] ["self", f] (defScope st)
  gl : (defScope st).names.lookup b = some .globalImplicit
  db : (b == ("__debug__" : Str)) = false
  df : (f == ("__debug__" : Str)) = false
  dc : (f == ("__classdict__" : Str)) = false
section
variable {P : Program} {w : World} {K : PySem.W.Frag} {mg : Str → Option Value} {base : Heap} {b f qual : Str} {st : Stmt} {fI : Addr} {fd : FuncData} {CB : Addr} {mc : Value}
theorem init0_ok (F : Fun K "__init__" qual st fI fd) (T : BaseTxt K mg b CB mc) (I : Init0 b st) : FnOk P w K mg base CX0 1 fI fd ["self"] (spI0 K) := by
  refine F.ok I.sc (fun vs H Q E h => ?_) (fun cdv A outer s H vs Q E hr h => ?_)
  · obtain ⟨a, C, rfl, _⟩ := h
    rfl
  · obtain ⟨a, C, rfl, T', ha, q⟩ := h
    obtain ⟨p1, p2, p3, p4, p5, e, hln⟩ := I.body
    rw [e]
    refine ⟨_, pss_one (ps_expr (pe_binit (pl := _) (b := b) (CB := CB) (mc := mc) T I.gl (pa_cons (pe_var (i := 0) rfl (by
      have := I.sc.par "self" (by simp)
      rcases this with z | z
      · exact .inl z
      · exact .inr (.inl z))) pa_nil) I.db (call_meth_eq rfl rfl (by simp) hln))), ?_⟩
    exact ⟨_, rfl, a, C, [], rfl, by simp, T', ha, q⟩
theorem init1_ok (F : Fun K "__init__" qual st fI fd) (T : BaseTxt K mg b CB mc) (I : Init1 b f st) : FnOk P w K mg base CX0 1 fI fd ["self", f] (spI1 K f) := by
  refine F.ok I.sc (fun vs H Q E h => ?_) (fun cdv A outer s H vs Q E hr h => ?_)
  · obtain ⟨a, C, v, rfl, _⟩ := h
    rfl
  · obtain ⟨a, C, v, rfl, T', hno, ha, q⟩ := h
    obtain ⟨p1, p2, p3, p4, p5, p6, q1, q2, q3, q4, e, hln⟩ := I.body
    rw [e]
    have vis : ∀ n ∈ (["self", f] : List Str), Vis (defScope st) n := fun n hn => by
      rcases I.sc.par n hn with z | z
      · exact .inl z
      · exact .inr (.inl z)
    refine ⟨_, pss_cons (ps_expr (pe_binit (pl := _) (b := b) (CB := CB) (mc := mc) T I.gl (pa_cons (pe_var (i := 0) rfl (vis _ (by simp))) (pa_cons (pe_var (i := 1) rfl (vis _ (by simp)) I.df I.dc) pa_nil)) I.db (call_meth_eq rfl rfl (by simp) hln)))
      (pss_one (ps_ost (pe_var (i := 0) rfl (vis _ (by simp))) (pe_var (i := 1) rfl (vis _ (by simp)) I.df I.dc))), ?_⟩
    refine ⟨_, rfl, _, rfl, a, C, [v], rfl, by simp, T', ha, ?_⟩
    exact ⟨_, rfl, _, rfl, a, C, rfl, T', hno, .inl ⟨ha, fun dx h1 h2 => q dx h1 h2⟩⟩
end
/-! ### what is known of a class -/
structure ExcOk (P : Program) (w : World) (K : PySem.W.Frag) (mg : Str → Option Value) (base : Heap) (G : Gw) (i : Nat) (x : Xc) : Prop where
  gC : mg x.name = some (.ref (G.xc i))
  T : OexC K (G.xc i)
  init : ∃ fI fd, PySem.W.findIn K (.ref (G.xc i)) "__init__" = some (some (.ref fI)) ∧ PySem.W.typeIn K (.ref fI) = some (.type "function") ∧ match x.fld with
    | none => FnOk P w K mg base CX0 1 fI fd ["self"] (spI0 K) ∧ Binds K fd ["self"] []
    | some f => G.xf i = f ∧ PySem.W.findIn K (.ref (G.xc i)) f = some none ∧ FnOk P w K mg base CX0 1 fI fd ["self", f] (spI1 K f) ∧ Binds K fd ["self", f] []
section
variable {X : Cx} {G : Gw} {W : WX} {i : Nat} {x : Xc} {p pos pos2 : Pos} {e : Expr} {es : List Expr}
theorem st_rai0 (hc : X.calm = true) (tk : Takes X W) (h : ExcOk X.prog X.w X.K X.mg X.base G i x) (hf : x.fld = none) (hr : Room 2 X.A) (hg : Gl X x.name) (hdb : (x.name == ("__debug__" : Str)) = false) :
    EvSt X G W (.Raise (some (.Call (.Name x.name p) [] [] pos)) none pos2) (fun ρ m => .ex i none ρ m) := by
  obtain ⟨fI, fd, h1, h2, h3⟩ := h.init
  rw [hf] at h3
  refine PS.imp (ps_raise hc tk (pmk_oex0 h.T h1 h2 h3.1 hr h3.2 pass0 hg h.gC (fun a H Q ha q => ⟨a, G.xc i, rfl, h.T, ha, q⟩) hdb)) fun D σ H ⟨ρ, m, μ, τ, g, s, q⟩ => ?_
  exact q _ none σ H μ .refl g ⟨rfl, rfl⟩ s
theorem del_upd2 {H : Hp} {a d : Addr} {o u v : HO} (h : H a = none) (hd : d ≠ a) : upd (del (upd (upd (upd H a o) d u) a v) a) d w = upd H d w := by
  funext b
  by_cases hb : b = d
  · subst hb; rw [upd_same, upd_same]
  · rw [upd_ne hb, upd_ne hb]
    by_cases hba : b = a
    · subst hba; rw [del_same, h]
    · rw [del_ne hba, upd_ne hba, upd_ne hb, upd_ne hba]
theorem st_rai1 {f : Str} {fa : Rho → Mem → R EV.D} (hc : X.calm = true) (tk : Takes X W) (h : ExcOk X.prog X.w X.K X.mg X.base G i x) (hf : x.fld = some f) (hr : Room 2 X.A) (hg : Gl X x.name) (hdb : (x.name == ("__debug__" : Str)) = false) (ha : EvE X G W e fa) (hs : noStar e = true) :
    EvSt X G W (.Raise (some (.Call (.Name x.name p) [e] [] pos)) none pos2) (fun ρ m => (fa ρ m).go ρ fun d m1 => .ex i (some d) ρ m1) := by
  obtain ⟨fI, fd, h1, h2, h3⟩ := h.init
  rw [hf] at h3
  obtain ⟨h0, h3, h4, h5⟩ := h3
  refine PS.imp (ps_raise hc tk (pmk_oex h.T h1 h2 h4 hr h5 .nil pass0 hg h.gC (pa_cons ha pa_nil (star_cons hs)) hdb (star_cons hs) rfl)) fun D σ H ⟨ρ, m, μ, τ, g, s, q⟩ => ?_
  refine ⟨ρ, m, μ, τ, g, s, (go_inv (RP := RD G τ) g s q).imp fun v H1 ⟨d, m1, μ1, n1, g1, r1, q1⟩ => ?_⟩
  refine ⟨by show 1 ≤ 1000; omega, fun a hn => ?_⟩
  refine ⟨a, G.xc i, v, rfl, h.T, h3, upd_same, fun dx hd hne => ⟨rfl, dx, [(f, v)], upd_same, by rw [upd_ne hne, upd_same], ?_, ?_⟩⟩
  · rw [upd_ne hne] at hd; exact hd
  · rw [upd_ne hne] at hd
    rw [del_upd2 hn hne]
    have nl : Nxt μ1 τ H1 μ1 (dx :: τ) (upd H1 dx (.xd [(f, v)])) := Nxt.laid hd
    refine q1 _ (some dx) σ _ μ1 nl.free (g1.laid hd).free ⟨rfl, dx, v, rfl, by rw [h0, upd_same], r1.next nl.free g1⟩ ((s.nxt g n1).nxt g1 nl.free)
end
end EV

/-! A lambda without parameters, handed to a def that calls it once and tells how that ended. -/
namespace EV
open PySem PySem.Spec PyProof.Rows L2 LamX
/-- the table at P has grown by at most one code object -/
def Grown (P : Addr) (H H1 : Hp) : Prop := H1 = H ∨ ∃ (ps more : Array Value) (c0 : Addr) (q : Str), H P = some (.tbl ps) ∧ H c0 = none ∧ H1 = upd (upd H P (.tbl (ps ++ more))) c0 (CodeO c0 q)
section
variable {G : Gw} {μ τ : List Addr} {m : Mem} {P : Addr} {H H1 : Hp}
theorem Grown.at {b : Addr} {o : HO} (h : Grown P H H1) (e : H b = some o) (n : ∀ ps, o ≠ .tbl ps) : H1 b = some o := by
  rcases h with rfl | ⟨ps, more, c0, q, h1, h2, rfl⟩
  · exact e
  · rw [upd_ne (ne_of_none e h2), upd_ne (fun z => n ps (by rw [z, h1] at e; exact (Option.some.inj e).symm))]
    exact e
theorem Grown.nxt (h : Grown P H H1) : Nxt μ τ H μ τ H1 := by
  refine ⟨fun _ _ e => e, fun a o e _ n => h.at e n, fun a ps e => ?_, fun a e => .inl e, fun a e => .inl e⟩
  rcases h with rfl | ⟨ps', more, c0, q, h1, h2, rfl⟩
  · exact ⟨#[], by simpa using e⟩
  · rw [upd_ne (ne_of_none e h2)]
    by_cases ha : a = P
    · subst ha
      rw [h1] at e
      cases e
      exact ⟨more, upd_same⟩
    · rw [upd_ne ha]
      exact ⟨#[], by simpa using e⟩
theorem Grown.good (h : Grown P H H1) (g : Good G μ τ m H) (t : Tabs G.tabs H1) : Good G μ τ m H1 := by
  have nx : Nxt μ τ H μ τ H1 := h.nxt
  refine ⟨g.len, fun n c a e1 e2 => ?_, g.nodup, fun a ha => ⟨(g.dis a ha).1, fun z => ?_⟩, t⟩
  · obtain ⟨o, e, mo⟩ := g.mut (List.mem_of_getElem? e2)
    have e' := h.at e (fun ps z => by subst z; exact mo)
    exact (g.cell n c a e1 e2).nxt nx (fun _ => g.mut) (by rw [e, e'])
  · rcases nx.none_of z with z | z
    · exact (g.dis a ha).1 z
    · exact (g.dis a ha).2 z
end
section
variable {X : Cx} {pins : List (Addr × Obj)} {σ : L2.St} {H : Hp} {s : Shared}
/-- the lambda is made, its code object new or found; what became of the table is told -/
theorem lam_make3 {T : List (Addr × Str)} {c P : Addr} {params : Arguments} {body : Expr} {scope : Scope} {pos : Pos} {E Q : Value → Shared → Prop} (I : Inv X pins σ H s) (TB : TabB X.base X.mg c P) (hcode : X.env.code = .ref c)
    (hm : (P, X.env.qual ++ "<lambda>") ∈ T) (hu : ∀ p ∈ T, p.1 = P → p.2 = X.env.qual ++ "<lambda>") (hT : Tabs T H) (hdef : defaultsOf params X.env = ([], [])) (hfree : ∀ y ∈ scope.names, y.2 = .free → ∃ c, X.env.cells.lookup y.1 = some c)
    (h : ∀ (f c' : Addr) (pm ctv : Value) (H1 : Hp) (s' : Shared), Inv X pins σ H1 s' → Grown P H H1 → Tabs T H1 →
      s'.heap.get? f = some (PySem.W.kla_obj "<lambda>" (X.env.qual ++ "<lambda>") params body scope (cloFrom X.env.cells scope.names []) pm c' ctv) → H1 f = none → f ∉ frs X.stack → H1 c' = some (CodeO c' (X.env.qual ++ "<lambda>")) → Q (.ref f) s') :
    wpAny (model X.prog X.w) X.A (eval (.Lambda params body scope pos) X.env) Q E s := by
  obtain ⟨ps, hP, ht, ha⟩ := hT _ hm
  refine PySem.W.kla_eval hdef ?_
  have bP : s.heap.BuiltinsAt X.mg P := TB.bm.keeps I.bk
  have hP' : s.heap.get? P = some { cls := .none, data := .fields ps } := I.hok P _ hP
  have nofr : ∀ f, s.heap.objs.size ≤ f → f ∉ frs X.stack := fun f hf z => (List.mem_cons.mp (I.stkSub _ z)).elim (fun e => Nat.lt_irrefl _ (Nat.lt_of_lt_of_le (e ▸ I.lt) hf)) (I.nofs hf)
  cases hc : codeAmong pos ps.toList with
  | some cv =>
    obtain ⟨c', rfl, hco⟩ := ha pos cv hc
    refine PySem.W.kla_makeFunctionHit (mg := X.mg) (c := c) (P := P) (ps := ps) (closure_ok hfree) I.ok.glob (I.mod.glob.keeps I.bk) hcode (TB.code.keeps I.bk) hP' ht hc bP fun ctv h' tk hx hsz => ?_
    exact h h'.objs.size c' ((X.mg "__name__").getD .none) ctv H _ (I.kept fun b o e => Heap.get?_push_of_some _ (hx b o e)) (.inl rfl) hT (Heap.get?_push_size _ rfl) (I.hok.fresh hsz) (nofr _ hsz) hco
  | none =>
    refine PySem.W.kla_makeFunction (mg := X.mg) (c := c) (P := P) (ps := ps) (closure_ok hfree) I.ok.glob (I.mod.glob.keeps I.bk) hcode (TB.code.keeps I.bk) hP' ht hc TB.gP bP fun c' ctv h' tk hx hge hlt hrec htb => ?_
    obtain ⟨c2, oc, vs, t, e2, hoc, hd, hv⟩ := hrec
    cases e2
    have hsz : s.heap.objs.size ≤ h'.objs.size := Nat.le_trans hge (Nat.le_of_lt hlt)
    have nC : H c' = none := I.hok.fresh hge
    have hgr : Grown P H (upd (upd H P (.tbl (ps ++ #[rawInt pos.line, rawInt pos.col, .ref c']))) c' (CodeO c' (X.env.qual ++ "<lambda>"))) := .inr ⟨ps, _, c', _, hP, nC, rfl⟩
    have J := inv_table (t' := tk) (more := #[rawInt pos.line, rawInt pos.col, .ref c']) (h' := h'.push (PySem.W.kla_obj "<lambda>" (X.env.qual ++ "<lambda>") params body scope (cloFrom X.env.cells scope.names []) ((X.mg "__name__").getD .none) c' ctv)) I hP
      (fun b o hb e => Heap.get?_push_of_some _ (hx b o hb e)) (Heap.get?_push_of_some _ htb) hge ⟨oc, vs, t, Heap.get?_push_of_some _ hoc, hd, hv⟩
    have atP : upd (upd H P (.tbl (ps ++ #[rawInt pos.line, rawInt pos.col, .ref c']))) c' (CodeO c' (X.env.qual ++ "<lambda>")) P = some (.tbl (ps ++ #[rawInt pos.line, rawInt pos.col, .ref c'])) := by rw [upd_ne (ne_of_none hP nC), upd_same]
    have tl : (ps ++ #[rawInt pos.line, rawInt pos.col, Value.ref c']).toList = ps.toList ++ [rawInt pos.line, rawInt pos.col, .ref c'] := by simp
    refine h h'.objs.size c' ((X.mg "__name__").getD .none) ctv _ _ J hgr (fun p hp => ?_) (Heap.get?_push_size _ rfl) ?_ (nofr _ hsz) upd_same
    · by_cases hb : p.1 = P
      · rw [hu p hp hb, hb]
        refine ⟨_, atP, by rw [tl]; exact PySem.TriplesOk_snoc _ _ _ _ ht, fun p' cv hcv => ?_⟩
        rw [tl] at hcv
        rcases among_app _ ht hcv with z | z
        · obtain ⟨c0, e1, e2⟩ := ha p' cv z
          exact ⟨c0, e1, hgr.at e2 codeO_ne⟩
        · exact ⟨c', z, upd_same⟩
      · obtain ⟨ps', a1, a2, a3⟩ := hT p hp
        refine ⟨ps', by rw [upd_ne (ne_of_none a1 nC), upd_ne hb]; exact a1, a2, fun p' cv hcv => ?_⟩
        obtain ⟨c0, e1, e2⟩ := a3 p' cv hcv
        exact ⟨c0, e1, hgr.at e2 codeO_ne⟩
    · have n1 : h'.objs.size ≠ c' := Nat.ne_of_gt hlt
      have n2 : h'.objs.size ≠ P := Nat.ne_of_gt (Nat.lt_of_lt_of_le (Heap.lt_size hP') hsz)
      rw [upd_ne n1, upd_ne n2]
      exact I.hok.fresh hsz
/-- what a call with a lambda asks -/
def tLamG (T : List (Addr × Str)) (P : Addr) (TT : (XK → Hp → VK → Prop) → Hp → VK → Prop) (t : XK → TE) : TE := fun σ H Q => Tabs T H ∧ ∀ H1, Grown P H H1 → Tabs T H1 → TT (fun E H' Q' => t E σ H' Q') H1 Q
/-- x(lambda: body) -/
theorem pe_lamG {T : List (Addr × Str)} {TT : (XK → Hp → VK → Prop) → Hp → VK → Prop} {x a : Str} {g c P : Addr} {k : Nat} {pg : Arguments} {bg : List Stmt} {sg : Scope} {dV kV doc pm cdv ct oc : Value} {an od : Option Addr} {osl : Array (Option Value)} {Ng : List Str}
    {params : Arguments} {body : Expr} {scope : Scope} {t : XK → TE} {p lpos pos : Pos} (hg : Gl X x) (hm : X.mg x = some (.ref g)) (hk : PySem.W.keepIn X.K (.ref g) = true)
    (lk : X.K.lookup g = some ⟨oc, od, .func (PySem.W.fnOf x x pg bg sg dV kV doc pm an cdv ct), osl⟩) (hcg : PySem.W.codeIn X.K cdv x = true) (hb : L2.Binds X.K (PySem.W.fnOf x x pg bg sg dV kV doc pm an cdv ct) [a] []) (Sg : FnScope Ng [a] sg) (hNg : Ng[0]? = some a) (hva : Vis sg a)
    (hG : GivesTo X Ng x sg g cdv bg a (X.env.qual ++ "<lambda>") TT)
    (TB : TabB X.base X.mg c P) (hcode : X.env.code = .ref c) (hmT : (P, X.env.qual ++ "<lambda>") ∈ T) (hu : ∀ p ∈ T, p.1 = P → p.2 = X.env.qual ++ "<lambda>") (hr : Room (k + 2) X.A) (L : LamS X.env.scope scope) (hdef : defaultsOf params X.env = ([], []))
    (hbind : ∀ (q : Str) (cl : List (Str × Addr)) (pm cv ctv : Value), bindArgs (PySem.W.kla_fn "<lambda>" q params body scope cl pm cv ctv) ⟨[], []⟩ = pure [])
    (hbody : ∀ (A : Around) (outer : List Env) (s : Shared) (H : Hp) (E : XK) (f c' : Addr), Room k (A.deeper (lamEnv X scope s.heap.objs.size f c')) → PE (lamCx X A outer s H E scope f c') body (t E))
    (hdb : (x == ("__debug__" : Str)) = false) (hd : (a == ("__debug__" : Str)) = false) (hcd : (a == ("__classdict__" : Str)) = false) :
    PE X (.Call (.Name x p) [.Lambda params body scope lpos] [] pos) (tLamG T P TT t) := by
  refine ⟨fun pins s σ H Q I h => ?_⟩
  obtain ⟨hT, h⟩ := h
  refine wpAny_Call_Name_kw (ld_glob I hg hm ?_ hdb)
  refine PySem.W.callWith_K (h₀ := X.base) I.ok.mod.kin hk ?_ (by rfl) (by rfl)
  show wpAny _ _ (spliced ((false, eval (.Lambda params body scope lpos) X.env) :: backTo pos (starEach [] X.env))) _ _ s
  refine Calls.spliced_cons (lam_make3 I TB hcode hmT hu hT hdef (L.has I.ok) fun f c' pm' ctv H1 s' I1 gr T1 hf hfn hfr hco => ?_)
  refine Calls.spliced_nil ⟨I1.kIn, ?_⟩
  have rc : codeAny (model X.prog X.w) X.A (.call (.ref g) ⟨[.ref f], []⟩) (CR C8.CX0 X.stack X.prog X.w H1 s' Q C8.E0) s' := by
    refine run_ofS (N := Ng) (ps := [a]) (us := [.ref f]) (vs := [.ref f]) lk hcg Sg hr I1.env0 (hb s' [.ref f] I1.kIn rfl) (.cons rfl .nil) rfl fun hr' => ?_
    obtain ⟨t', ht', hq'⟩ := hG f c' s' H1 Q (fun E H' Q' => t E σ H' Q') (fun W pn xe E p1 p2 tk hW => pe_act (i := 0) I1 L hf hfn hfr (hbind _ _ _ _ _) tk hW hr' (fun A outer s H hr2 => hbody A outer s H E f c' hr2) hNg hva hd hcd) hco (h H1 gr T1)
    exact ⟨t', ht'.nox, hq'⟩
  refine wpAny_call (codeAny_mono rc fun r s2 hq => ?_)
  cases r with
  | error e => exact (show False from hq).elim
  | ok fl =>
    cases fl with
    | ret u => exact I1.after hq
    | next => exact False.elim hq
    | brk => exact False.elim hq
    | cont => exact False.elim hq
end
end EV

/-! Defs that call what they get, and tell how that ended. -/
namespace EV
open PySem PySem.Spec PyProof.Rows L2 LamX
/-- a name's value, the slots being as many as the names -/
theorem pe_varL {X : Cx} {i : Nat} {x : Str} {p : Pos} (hN : X.N[i]? = some x) (hv : Vis X.env.scope x) (hd : (x == ("__debug__" : Str)) = false) (hcd : (x == ("__classdict__" : Str)) = false) :
    PE X (.Name x p) (fun σ H Q => ∃ v, (σ.length = X.N.length → σ[i]? = some (some v)) ∧ Q v H) := by
  refine ⟨fun pins s σ H Q I h => ?_⟩
  obtain ⟨v, h1, h2⟩ := h
  exact (pe_var hN hv hd hcd).run pins s σ H Q I ⟨v, h1 I.len, h2⟩
/-- an except clause that stores a text -/
def asHd : ExceptHandler → Option (Str × Pos × Str × Pos × Str × Nat × Pos × Pos × Pos)
  | .ExceptHandler (some (.Name e np)) none [.Assign [.Name v pv] (.Constant (.str s) j pc) ps] ph => some (e, np, v, pv, s, j, pc, ps, ph)
  | _ => none
theorem asHd_eq {h : ExceptHandler} {e : Str} {np : Pos} {v : Str} {pv : Pos} {s : Str} {j : Nat} {pc ps ph : Pos} (q : asHd h = some (e, np, v, pv, s, j, pc, ps, ph)) : h = .ExceptHandler (some (.Name e np)) none [.Assign [.Name v pv] (.Constant (.str s) j pc) ps] ph := by
  unfold asHd at q
  split at q
  · cases q; rfl
  · cases q
/-- clauses as told: class by number, text -/
def mHsA (xs : List Str) (sc : Scope) (v : Str) : List ExceptHandler → List (Nat × Str) → Bool
  | [], [] => true
  | h :: hs, (i, s) :: r => (match asHd h with
    | some (e, _, v', _, s', _, _, _, _) => decide (v' = v) && decide (s' = s) && decide (xs[i]? = some e) && decide (sc.names.lookup e = some .globalImplicit) && !(e == ("__debug__" : Str))
    | none => false) && mHsA xs sc v hs r
  | _, _ => false
def wA (K : PySem.W.Frag) (G : Gw) (cls : Value) (q : Str → Prop) : List (Nat × Str) → Prop
  | [] => False
  | (i, s) :: r => ∃ b, PySem.W.exmOne K cls (.ref (G.xc i)) = some b ∧ (b = true → q s) ∧ (b = false → wA K G cls q r)
/-- try: call() / except C: v = text .. / return v -/
def TToldA (K : PySem.W.Frag) (G : Gw) (pre : Str) (hs : List (Nat × Str)) : (XK → Hp → VK → Prop) → Hp → VK → Prop := fun tl H Q =>
  ∀ Q2 : VK, (∀ v H', Q (.str pre) H' → Q2 v H') → tl (fun cls _ H' => wA K G cls (fun s => Q (.str s) H') hs) H Q2
section
variable {X : Cx} {G : Gw}
theorem hds_ok {xs : List Str} {v : Str} {hds : List ExceptHandler} {hs : List (Nat × Str)} (hN : X.N.Nodup) (hi : X.N[1]? = some v) (hl : L2.Loc X.env.scope v) (hf : X.fn v = true ∨ X.env.scope.names.lookup v = some .local)
    (hx : ∀ (i : Nat) (e : Str), xs[i]? = some e → X.mg e = some (.ref (G.xc i))) (h : mHsA xs X.env.scope v hds hs = true) :
    HdsOk X hds (hs.map fun p => ((Value.ref (G.xc p.1), fun _ _ _ => tAsg (tC (.str p.2)) (gName 1)) : Value × (Addr → Value → Option Addr → TS))) := by
  induction hds generalizing hs with
  | nil =>
    cases hs with
    | nil => exact .nil
    | cons p r => unfold mHsA at h; cases h
  | cons hd hds ih =>
    cases hs with
    | nil => unfold mHsA at h; cases h
    | cons p r =>
      obtain ⟨i, s⟩ := p
      unfold mHsA at h
      rw [Bool.and_eq_true] at h
      obtain ⟨h1, h2⟩ := h
      split at h1
      · rename_i e np v' pv s' j pc ps ph hq
        simp only [Bool.and_eq_true, decide_eq_true_eq, Bool.not_eq_true'] at h1
        obtain ⟨⟨⟨⟨rfl, rfl⟩, h3⟩, h4⟩, h5⟩ := h1
        cases asHd_eq hq
        refine .cons ⟨h4, h5, .inl (hx i e h3)⟩ (fun a oe cls d pn _ _ => pss_one ?_) (ih h2)
        exact ps_set (X := X.suite a ((a, oe) :: pn)) (i := 1) hN hi hl pe_str (by rfl) hf
      · cases h1
theorem told_a {xs : List Str} {x a v e q pre : Str} {sg : Scope} {g : Addr} {cdg : Value} {bg : List Stmt} {hds : List ExceptHandler} {hs : List (Nat × Str)} {j : Nat} {p1 p2 p3 p4 p5 p6 p7 p8 p9 : Pos} (hbg : bg = [.Assign [.Name v p1] (.Constant (.str pre) j p2) p3, .Try [.Expr (.Call (.Name a p4) [] [] p5) p6] hds [] [] p7, .Return (some (.Name v p8)) p9])
    (hne : hds ≠ []) (hav : a ≠ v) (hl : sg.names.lookup v = some .local) (hdv : (v == ("__debug__" : Str)) = false) (hcv : (v == ("__classdict__" : Str)) = false)
    (hx : ∀ (i : Nat) (e : Str), xs[i]? = some e → X.mg e = some (.ref (G.xc i))) (h : mHsA xs sg v hds hs = true) :
    GivesTo X [a, v] x sg g cdg bg a q (TToldA X.K G pre hs) := by
  subst hbg
  intro f c' s H Q tl act hc h0
  have hN : ([a, v] : List Str).Nodup := by simp [hav]
  obtain ⟨h1, hds', rfl⟩ : ∃ h1 hds', hds = h1 :: hds' := by
    cases hds with
    | nil => exact absurd rfl hne
    | cons h1 r => exact ⟨h1, r, rfl⟩
  have hk := hds_ok (X := (cxOf C8.CX0 X.prog X.w X.K X.mg X.base [a, v] x sg g cdg X.A X.stack s H C8.E0).nox) (G := G) (hs := hs) hN rfl (.inl hl) (.inr hl) hx h
  refine ⟨_, pss_cons (ps_set (i := 1) hN rfl (.inl hl) pe_str (by rfl) (.inr hl)) (pss_cons (ps_try_many (X := (cxOf C8.CX0 X.prog X.w X.K X.mg X.base [a, v] x sg g cdg X.A X.stack s H C8.E0).nox)
      (tb := fun W D σ H => ∃ Ech : XK, (∀ cls d σ' H', Ech cls d H' → W cls d σ' H') ∧ σ[0]? = some (some (.ref f)) ∧ H c' = some (CodeO c' q) ∧ tl Ech H fun _ H' => D.nx σ H')
      rfl rfl LamX.takes0 (fun W pn xe tk _ => ?_) hk) (pss_one (ps_ret (pe_varL (i := 1) rfl (.inl hl) hdv hcv)))), ?_⟩
  · refine ⟨fun pins s' σ H' D I h' => ?_⟩
    obtain ⟨Ech, hW, e1, e2, e3⟩ := h'
    have hp := act W pn xe Ech p4 p5 tk hW
    have hq := pss_one (ps_expr (pos := p6) hp)
    exact hq.run pins s' σ H' D I ⟨e1, e2, e3⟩
  · refine ⟨fun cls _ H' => wA X.K G cls (fun s => Q (.str s) H') hs, fun cls d σ' H' w => ?_, rfl, hc, ?_⟩
    · clear h hk h0
      induction hs with
      | nil => exact w
      | cons p r ih =>
        obtain ⟨i, t⟩ := p
        obtain ⟨b, w1, w2, w3⟩ := w
        refine ⟨b, w1, fun hb aa _ => ?_, fun hb => ih (w3 hb)⟩
        refine ⟨.str t, fun hlen => ?_, w2 hb⟩
        have hlen' : σ'.length = 2 := (List.length_set ..).symm.trans hlen
        rw [List.getElem?_set_self (by omega)]
    · exact h0 _ fun _ H' z => ⟨.str pre, fun _ => rfl, z⟩
/-! ### try: return call() / except C: return [text] -/
def asHdC : ExceptHandler → Option (Str × Str)
  | .ExceptHandler (some (.Name e _)) none [.Return (some (.List [.Constant (.str s) _ _] _)) _] _ => some (e, s)
  | _ => none
theorem asHdC_eq {h : ExceptHandler} {e s : Str} (q : asHdC h = some (e, s)) : ∃ (np pc pl pr ph : Pos) (j : Nat), h = .ExceptHandler (some (.Name e np)) none [.Return (some (.List [.Constant (.str s) j pc] pl)) pr] ph := by
  unfold asHdC at q
  split at q
  · cases q; exact ⟨_, _, _, _, _, _, rfl⟩
  · cases q
def mHsC (xs : List Str) (sc : Scope) : List ExceptHandler → List (Nat × Str) → Bool
  | [], [] => true
  | h :: hs, (i, s) :: r => (match asHdC h with
    | some (e, s') => decide (s' = s) && decide (xs[i]? = some e) && decide (sc.names.lookup e = some .globalImplicit) && !(e == ("__debug__" : Str))
    | none => false) && mHsC xs sc hs r
  | _, _ => false
theorem mHsC_len {xs : List Str} {sc : Scope} : ∀ {hds : List ExceptHandler} {hs : List (Nat × Str)}, mHsC xs sc hds hs = true → hs.all (fun p => decide (p.1 < xs.length)) = true
  | [], [], _ => rfl
  | [], _ :: _, h => by unfold mHsC at h; cases h
  | _ :: _, [], _ => rfl
  | hd :: hds, (i, s) :: r, h => by
    unfold mHsC at h
    rw [Bool.and_eq_true] at h
    rw [List.all_cons, mHsC_len h.2, Bool.and_true]
    have h1 := h.1
    split at h1
    · simp only [Bool.and_eq_true, decide_eq_true_eq] at h1
      exact decide_eq_true (List.getElem?_eq_some_iff.mp h1.1.1.2).1
    · cases h1
theorem hds_okC {xs : List Str} {hds : List ExceptHandler} {hs : List (Nat × Str)} (hx : ∀ (i : Nat) (e : Str), xs[i]? = some e → X.mg e = some (.ref (G.xc i))) (h : mHsC xs X.env.scope hds hs = true) :
    HdsOk X hds (hs.map fun p => ((Value.ref (G.xc p.1), fun _ _ _ => tRet (tLst (tCons (tC (.str p.2)) tNil))) : Value × (Addr → Value → Option Addr → TS))) := by
  induction hds generalizing hs with
  | nil =>
    cases hs with
    | nil => exact .nil
    | cons p r => unfold mHsC at h; cases h
  | cons hd hds ih =>
    cases hs with
    | nil => unfold mHsC at h; cases h
    | cons p r =>
      obtain ⟨i, s⟩ := p
      unfold mHsC at h
      rw [Bool.and_eq_true] at h
      obtain ⟨h1, h2⟩ := h
      split at h1
      · rename_i e s' hq
        simp only [Bool.and_eq_true, decide_eq_true_eq, Bool.not_eq_true'] at h1
        obtain ⟨⟨⟨rfl, h3⟩, h4⟩, h5⟩ := h1
        obtain ⟨np, pc, pl, pr, ph, j, rfl⟩ := asHdC_eq hq
        refine .cons ⟨h4, h5, .inl (hx i e h3)⟩ (fun a oe cls d pn _ _ => pss_one ?_) (ih h2)
        exact ps_ret (pe_lst (pa_cons pe_str pa_nil))
      · cases h1
/-- what C makes of the call -/
def TToldC (K : PySem.W.Frag) (G : Gw) (hs : List (Nat × Str)) : (XK → Hp → VK → Prop) → Hp → VK → Prop := fun tl H Q =>
  tl (fun cls _ H' => wA K G cls (fun s => ∀ l, H' l = none → Q (.ref l) (upd H' l (.lst [.str s]))) hs) H Q
theorem told_c {xs : List Str} {x a q : Str} {sg : Scope} {g : Addr} {cdg : Value} {bg : List Stmt} {hds : List ExceptHandler} {hs : List (Nat × Str)} {p4 p5 p6 p7 : Pos} (hbg : bg = [.Try [.Return (some (.Call (.Name a p4) [] [] p5)) p6] hds [] [] p7])
    (hne : hds ≠ []) (hx : ∀ (i : Nat) (e : Str), xs[i]? = some e → X.mg e = some (.ref (G.xc i))) (h : mHsC xs sg hds hs = true) :
    GivesTo X [a] x sg g cdg bg a q (TToldC X.K G hs) := by
  subst hbg
  intro f c' s H Q tl act hc h0
  obtain ⟨h1, hds', rfl⟩ : ∃ h1 hds', hds = h1 :: hds' := by
    cases hds with
    | nil => exact absurd rfl hne
    | cons h1 r => exact ⟨h1, r, rfl⟩
  have hk := hds_okC (X := (cxOf C8.CX0 X.prog X.w X.K X.mg X.base [a] x sg g cdg X.A X.stack s H C8.E0).nox) (G := G) (hs := hs) hx h
  refine ⟨_, pss_one (ps_try_many (X := (cxOf C8.CX0 X.prog X.w X.K X.mg X.base [a] x sg g cdg X.A X.stack s H C8.E0).nox)
      (tb := fun W D σ H => ∃ Ech : XK, (∀ cls d σ' H', Ech cls d H' → W cls d σ' H') ∧ σ[0]? = some (some (.ref f)) ∧ H c' = some (CodeO c' q) ∧ tl Ech H D.rt)
      rfl rfl LamX.takes0 (fun W pn xe tk _ => ?_) hk), ?_⟩
  · refine ⟨fun pins s' σ H' D I h' => ?_⟩
    obtain ⟨Ech, hW, e1, e2, e3⟩ := h'
    have hp := act W pn xe Ech p4 p5 tk hW
    have hq := pss_one (ps_ret (pos := p6) hp)
    exact hq.run pins s' σ H' D I ⟨e1, e2, e3⟩
  · refine ⟨fun cls _ H' => wA X.K G cls (fun s => ∀ l, H' l = none → Q (.ref l) (upd H' l (.lst [.str s]))) hs, fun cls d σ' H' w => ?_, rfl, hc, h0⟩
    clear h hk h0
    induction hs with
    | nil => exact w
    | cons p r ih =>
      obtain ⟨i, t⟩ := p
      obtain ⟨b, w1, w2, w3⟩ := w
      exact ⟨b, w1, fun hb aa _ => ⟨by rw [sizeLine_eq]; show 1 ≤ 16777216; decide, fun l hl => w2 hb l hl⟩, fun hb => ih (w3 hb)⟩
end
end EV

/-! try with several except clauses, some of them 'as name'. -/
namespace EV
open PySem PySem.Spec PyProof.Rows L2
abbrev HTs := Addr → Value → Option Addr → TS
/-- the ends of a suite behind which a name goes -/
def goneE (i : Nat) (D : Ends) : Ends := { nx := fun σ' H' => D.nx (σ'.set i none) H', rt := D.rt, bk := fun σ' H' => D.bk (σ'.set i none) H', ct := fun σ' H' => D.ct (σ'.set i none) H' }
def wNm (K : PySem.W.Frag) (Wout : WX) (D : Ends) : List (Value × Option Nat × HTs) → WX
  | [] => Wout
  | (c, o, ts) :: r => fun cls d σ H => ∃ b, PySem.W.exmOne K cls c = some b ∧ (b = true → ∀ a, H a = none → (match o with
    | none => ts a cls d D σ H
    | some i => ts a cls d (goneE i D) (σ.set i (some (.ref a))) H)) ∧ (b = false → wNm K Wout D r cls d σ H)
inductive HdN (X : Cx) : List ExceptHandler → List (Value × Option Nat × HTs) → Prop
  | nil : HdN X [] []
  | plain {x : Str} {c : Value} {ts : HTs} {b0 : Stmt} {suite : List Stmt} {np p : Pos} {hds : List ExceptHandler} {l : List (Value × Option Nat × HTs)} (hc : Names X x c)
      (hsu : ∀ (a : Addr) (oe : Obj) (cls : Value) (d : Option Addr) (pn : List (Addr × Obj)), Zc cls d oe → (∃ vs, oe.data = .fields vs) → PSs (X.suite a ((a, oe) :: pn)) (b0 :: suite) (ts a cls d)) (r : HdN X hds l) :
      HdN X (.ExceptHandler (some (.Name x np)) none (b0 :: suite) p :: hds) ((c, none, ts) :: l)
  | named {x n : Str} {i : Nat} {c : Value} {ts : HTs} {b0 : Stmt} {suite : List Stmt} {np p : Pos} {hds : List ExceptHandler} {l : List (Value × Option Nat × HTs)} (hc : Names X x c) (hi : X.N[i]? = some n) (hln : X.env.kindOf n = some .local)
      (hsu : ∀ (a : Addr) (oe : Obj) (cls : Value) (d : Option Addr) (pn : List (Addr × Obj)), Zc cls d oe → (∃ vs, oe.data = .fields vs) → PSs (X.suite a ((a, oe) :: pn)) (b0 :: suite) (ts a cls d)) (r : HdN X hds l) :
      HdN X (.ExceptHandler (some (.Name x np)) (some n) (b0 :: suite) p :: hds) ((c, some i, ts) :: l)
section
variable {X : Cx} {body : List Stmt} {h0 : ExceptHandler} {hds : List ExceptHandler} {l : List (Value × Option Nat × HTs)} {pos : Pos} {tb : WX → TS} {Wout : WX}
theorem ps_tryN (hs : X.stack = X.env :: X.outer) (hf : X.env.frame = some X.env.locals) (hN : X.N.Nodup) (tk : Takes X Wout)
    (hb : ∀ (W : WX) (pn : List (Addr × Obj)) (xe : Value → Shared → Prop), Takes (X.tr pn xe) W → PassesOwn (model X.prog X.w) X.A X.env xe → PSs (X.tr pn xe) body (tb W)) (hh : HdN X (h0 :: hds) l) : PS X (.Try body (h0 :: hds) [] [] pos) (fun D σ H => tb (wNm X.K Wout D l) D σ H) := by
  refine ⟨fun pins s σ H D I h => ?_⟩
  have ok := I.ok
  have hfr : X.A.frames = some (X.env :: X.outer) := by rw [ok.frames, hs]
  have run := (hb (wNm X.K Wout D l) (X.pn ++ pins) (fun e t1 => wpAny (model X.prog X.w) X.A (noteFrame e X.env) (fun _ t2 => wpAny (model X.prog X.w) X.A (setFlight e none) (fun _ t3 => wpAny (model X.prog X.w) X.A (handleBy e X.env (h0 :: hds)) (SP X pins D) X.xe t3) X.xe t2) X.xe t1)
    (fun u s' xx => ?kk) PassesOwn.looking).run [] s σ H D (I.toTry _) h
  · refine wpAny_Try_except (wpAny_mono run (fun f t1 hsp => ?_) fun e t1 he => he)
    cases f with
    | next => obtain ⟨σ1, H1, J1, q⟩ := hsp; exact wpAny_execs_nil ⟨σ1, H1, J1.ofTry ok, q⟩
    | brk => obtain ⟨σ1, H1, J1, q⟩ := hsp; exact ⟨σ1, H1, J1.ofTry ok, q⟩
    | cont => obtain ⟨σ1, H1, J1, q⟩ := hsp; exact ⟨σ1, H1, J1.ofTry ok, q⟩
    | ret u => obtain ⟨v, σ1, H1, J1, r, q⟩ := hsp; exact ⟨v, σ1, H1, J1.ofTry ok, r, q⟩
  · obtain ⟨a, B, sI, pins1, σ1, H1, cls, d, rfl, J1, nb, up, sky, na, os, ag, w⟩ := xx
    have J : Inv X pins σ1 H1 sI := J1.ofTry ok
    have sky1 : Sky B (X.env :: X.outer) a (Zc cls d) X.env.locals s'.heap := by rw [← hs]; exact sky
    show wpAny (model X.prog X.w) X.A (noteFrame (.ref a) X.env) _ _ _
    refine Sky.land Zc.steady hfr hf sky1 fun g3 fl3 up3 => ?_
    have J3 : Inv X pins σ1 H1 { s' with heap := g3 } := J.landed nb fl3.1 (up.trans up3) os ag
    obtain ⟨oe3, vs3, he3, hz3, hd3⟩ := fl3.there
    have nfr : a ∉ frs (X.env :: X.outer) := fun hm => by obtain ⟨_, o1, e1, hnf⟩ := fl3.2.2.1.mem hm; rw [he3] at e1; cases e1; exact hnf _ hd3
    have nL : a ≠ X.env.locals := fun z => nfr (List.mem_filterMap.mpr ⟨X.env, List.mem_cons_self, by rw [hf, z]⟩)
    have nF : a ∉ X.fs := fun hm => by obtain ⟨e, he, q⟩ := List.mem_filterMap.mp hm; exact nfr (List.mem_filterMap.mpr ⟨e, List.mem_cons_of_mem _ he, q⟩)
    have S3 := J3.suite he3 hd3 na nL nF
    have look : ∀ {x : Str} {c : Value} {np : Pos} {Q : Value → Shared → Prop} {E : Value → Shared → Prop}, Names X x c → Q c { s' with heap := g3 } → wpAny (model X.prog X.w) (X.A.mark (some (.ref a))) (eval (.Name x np) X.env) Q E { s' with heap := g3 } := fun {x c np Q E} hc q => by
      obtain ⟨hg, hdbg, hm | ⟨hm, hv, hnn⟩⟩ := hc
      · exact ld_glob (X := X.suite a ((a, oe3) :: (X.pn ++ pins))) S3 hg hm q hdbg
      · exact ld_blt (X := X.suite a ((a, oe3) :: (X.pn ++ pins))) S3 hg hm hv q hnn hdbg
    have LT : PySem.W.Looks (model X.prog X.w) g3 (typeOf (.ref a)) cls := fun A Q E s k q => wpAny_typeOf_ref (k _ _ he3) (by rw [hz3.1]; exact q)
    have go : ∀ {hds1 : List ExceptHandler} {l1 : List (Value × Option Nat × HTs)}, HdN X hds1 l1 → wNm X.K Wout D l1 cls d σ1 H1 → wpAny (model X.prog X.w) X.A (handleBy (.ref a) X.env hds1) (SP X pins D) X.xe { s' with heap := g3 } := by
      intro hds1 l1 hk
      induction hk with
      | nil =>
        intro w
        refine wpAny_handleBy_nil ?_
        obtain ⟨k1, k2, k3, oe, vs, T, oT, ts1, he, hz, hd, h1, hr⟩ := id fl3
        unfold PySem.passOn
        refine wpAny_bind (wpAny_field he hd h1 ?_)
        rw [if_neg (show ¬ ((Value.ref T == Value.none) = true) from Bool.false_ne_true)]
        have fin : wpAny (model X.prog X.w) X.A (setFlight (.ref a) X.env.frame) (fun _ t4 => wpAny (model X.prog X.w) X.A (throw (.ref a) : Sem Flow) (SP X pins D) X.xe t4) X.xe { s' with heap := g3 } := by
          rw [hf]
          exact HandSPX.setFlight_upZ fl3 fun g4 hh4 up4 => wpAny_throw (tk _ _ ⟨a, B, sI, pins, σ1, H1, cls, d, rfl, J, nb, (up.trans up3).trans up4, .inr (.inr (by rw [hs]; exact hh4)), na, os, ag, w⟩)
        first
          | exact wpAny_bind (wpAny_pure (wpAny_bind fin))
          | exact wpAny_bind fin
      | @plain x c ts b0 suite np p hds2 l2 hc hsu r ih =>
        intro w
        obtain ⟨b, hb1, hyes, hno⟩ := w
        refine wpAny_handleBy_cons (codeAny_handlers_test (look hc ((PySem.W.exm_one (M := model X.prog X.w) J3.kIn LT hb1).here ?_))) (by intro q; cases q)
        cases b with
        | true =>
          refine codeAny_handlers_suite (HandSPX.lands_againZ fl3 fun g4 fl4 up4 => ?_)
          have J4 : Inv X pins σ1 H1 { s' with heap := g4 } := J.landed nb fl4.1 ((up.trans up3).trans up4) os ag
          obtain ⟨oe4, vs4, he4, hz4, hd4⟩ := fl4.there
          refine wpAny_mono ((hsu a oe4 cls d (X.pn ++ pins) hz4 ⟨_, hd4⟩).run [] _ _ H1 _ (J4.suite he4 hd4 na nL nF) (hyes rfl a na)) (fun f t6 hsp => ?_) fun _ _ z => False.elim z
          cases f with
          | next => obtain ⟨σ6, H6, S6, q6⟩ := hsp; exact ⟨_, _, S6.unsuite ok, q6⟩
          | brk => obtain ⟨σ6, H6, S6, q6⟩ := hsp; exact ⟨_, _, S6.unsuite ok, q6⟩
          | cont => obtain ⟨σ6, H6, S6, q6⟩ := hsp; exact ⟨_, _, S6.unsuite ok, q6⟩
          | ret u => obtain ⟨v6, σ6, H6, S6, r6, q6⟩ := hsp; exact ⟨_, _, _, S6.unsuite ok, r6, q6⟩
        | false => exact ih (hno rfl)
      | @named x n i c ts b0 suite np p hds2 l2 hc hi hln hsu r ih =>
        intro w
        obtain ⟨b, hb1, hyes, hno⟩ := w
        refine wpAny_handleBy_cons (codeAny_handlers_test (look hc ((PySem.W.exm_one (M := model X.prog X.w) J3.kIn LT hb1).here ?_))) (by intro q; cases q)
        cases b with
        | true =>
          refine codeAny_handlers_suite_as (HandSPX.lands_againZ fl3 fun g4 fl4 up4 => ?_)
          have J4 : Inv X pins σ1 H1 { s' with heap := g4 } := J.landed nb fl4.1 ((up.trans up3).trans up4) os ag
          obtain ⟨oe4, vs4, he4, hz4, hd4⟩ := fl4.there
          refine store_ok (X := X.suite a ((a, oe4) :: (X.pn ++ pins))) (v := .ref a) (J4.suite he4 hd4 na nL nF) hN hi (.inl hln) rfl (fun t5 S5 => ?_) (.inr hln)
          refine wpAny_mono ((hsu a oe4 cls d (X.pn ++ pins) hz4 ⟨_, hd4⟩).run [] t5 _ H1 _ S5 (hyes rfl a na)) (fun f t6 hsp => ?_) fun _ _ z => False.elim z
          have ends : ∀ {σ6 : L2.St} {H6 : Hp} {Q : Shared → Prop}, Inv (X.suite a ((a, oe4) :: (X.pn ++ pins))) [] σ6 H6 t6 → (∀ t7, Inv X pins (σ6.set i none) H6 t7 → Q t7) → wpAny (model X.prog X.w) X.A (do bindName X.env n .none; unbindBehindTheSuite X.env n p) (fun _ t7 => Q t7) X.xe t6 :=
            fun {σ6 H6 Q} S6 hq => gone_ok (S6.unsuite ok) hN hi hln hq
          cases f with
          | next => obtain ⟨σ6, H6, S6, q6⟩ := hsp; exact ends S6 fun t7 J7 => ⟨_, _, J7, q6⟩
          | brk => obtain ⟨σ6, H6, S6, q6⟩ := hsp; exact ends S6 fun t7 J7 => ⟨_, _, J7, q6⟩
          | cont => obtain ⟨σ6, H6, S6, q6⟩ := hsp; exact ends S6 fun t7 J7 => ⟨_, _, J7, q6⟩
          | ret u => obtain ⟨v6, σ6, H6, S6, r6, q6⟩ := hsp; exact ends S6 fun t7 J7 => ⟨_, _, _, J7, r6, q6⟩
        | false => exact ih (hno rfl)
    exact go hh w
end
end EV

/-! Defs that call what they get, the general form: except C [as e]: return V .. -/
namespace EV
open PySem PySem.Spec PyProof.Rows L2 LamX
def asHdD : ExceptHandler → Option (Str × Option Str × Expr)
  | .ExceptHandler (some (.Name e _)) nm [.Return (some v) _] _ => some (e, nm, v)
  | _ => none
theorem asHdD_eq {h : ExceptHandler} {e : Str} {nm : Option Str} {v : Expr} (q : asHdD h = some (e, nm, v)) : ∃ np pr ph, h = .ExceptHandler (some (.Name e np)) nm [.Return (some v) pr] ph := by
  unfold asHdD at q
  split at q
  · cases q; exact ⟨_, _, _, rfl⟩
  · cases q
/-- e.f, e the clause's name -/
def isFld (nm : Option Str) (f : Option Str) : Expr → Bool
  | .Attribute (.Name n _) g _ => decide (nm = some n) && decide (f = some g) && !(n == ("__debug__" : Str)) && !(n == ("__classdict__" : Str))
  | _ => false
def isTxt (s : Str) : Expr → Bool
  | .Constant (.str s') _ _ => decide (s' = s)
  | _ => false
def isNeg (k : Int) : Expr → Bool
  | .UnaryOp .USub (.Constant (.int j) _ _) _ => decide (k = -j)
  | _ => false
/-- what a clause returns -/
def mHv (nm f : Option Str) : Hv → Expr → Bool
  | .t s, v => isTxt s v
  | .i k, v => isNeg k v
  | .f, v => isFld nm f v
  | .l s, .List [x] _ => isTxt s x
  | .tf s, .Tuple [x, y] _ _ => isTxt s x && isFld nm f y
  | .lf s, .List [x, y] _ => isTxt s x && isFld nm f y
  | _, _ => false
def mHsD (xs : List Xc) (Ng : List Str) (sc : Scope) : List ExceptHandler → List (Nat × Hv) → Bool
  | [], [] => true
  | h :: hs, (i, q) :: r => (match asHdD h, xs[i]? with
    | some (e, nm, v), some x => decide (x.name = e) && decide (sc.names.lookup e = some .globalImplicit) && !(e == ("__debug__" : Str)) && (match nm with
      | none => true
      | some n => decide (Ng[1]? = some n) && decide (Ng.length = 2) && decide (sc.names.lookup n = some .local)) && mHv nm x.fld q v
    | _, _ => false) && mHsD xs Ng sc hs r
  | _, _ => false
def nmI : Option Str → Option Nat
  | none => none
  | some _ => some 1
def nmOf (h : ExceptHandler) : Option Nat := match asHdD h with
  | some (_, nm, _) => nmI nm
  | none => none
/-- the caught exception's slot -/
def tSl (n : Nat) : TE := fun σ H Q => ∃ v, (σ.length = n → σ[1]? = some (some v)) ∧ Q v H
def hvT (n : Nat) (C : Addr) (f : Str) : Hv → HTs
  | .t s => fun _ _ _ => tRet (tC (.str s))
  | .i k => fun _ _ _ => tRet (tUn (rU fun i => .int (-i)) (tC (.int (-k))))
  | .l s => fun _ _ _ => tRet (tLst (tCons (tC (.str s)) tNil))
  | .f => fun a cls d => tRet (tXf a cls d C f (tSl n))
  | .tf s => fun a cls d => tRet (tTupF (tCons (tC (.str s)) (tCons (tXf a cls d C f (tSl n)) tNil)))
  | .lf s => fun a cls d => tRet (tLst (tCons (tC (.str s)) (tCons (tXf a cls d C f (tSl n)) tNil)))
def lHd (n : Nat) (G : Gw) : List ExceptHandler → List (Nat × Hv) → List (Value × Option Nat × HTs)
  | h :: hs, (i, q) :: r => (Value.ref (G.xc i), nmOf h, hvT n (G.xc i) (G.xf i) q) :: lHd n G hs r
  | _, _ => []
section
variable {X : Cx} {G : Gw}
theorem star_txt {s : Str} {x : Expr} {ys : List Expr} {env : Env} (h : isTxt s x = true) : starEach (x :: ys) env = (false, eval x env) :: starEach ys env := by
  unfold isTxt at h
  split at h
  · rfl
  · cases h
theorem star_fld {nm f : Option Str} {x : Expr} {ys : List Expr} {env : Env} (h : isFld nm f x = true) : starEach (x :: ys) env = (false, eval x env) :: starEach ys env := by
  unfold isFld at h
  split at h
  · rfl
  · cases h
theorem txt_pe {X : Cx} {s : Str} {e : Expr} (h : isTxt s e = true) : PE X e (tC (.str s)) := by
  unfold isTxt at h
  split at h
  · rw [of_decide_eq_true h] at *; exact pe_str
  · cases h
theorem hds_okD {xs : List Xc} {Ng : List Str} {hds : List ExceptHandler} {hs : List (Nat × Hv)} (hNg : X.N = Ng) (hx : ∀ (i : Nat) (x : Xc), xs[i]? = some x → X.mg x.name = some (.ref (G.xc i)))
    (hf : ∀ (i : Nat) (x : Xc) (f : Str), xs[i]? = some x → x.fld = some f → G.xf i = f ∧ XfC X.K (G.xc i) ∧ PySem.W.findIn X.K (.ref (G.xc i)) f = some none) (h : mHsD xs Ng X.env.scope hds hs = true) : HdN X hds (lHd Ng.length G hds hs) := by
  induction hds generalizing hs with
  | nil =>
    cases hs with
    | nil => exact .nil
    | cons p r => unfold mHsD at h; cases h
  | cons hd hds ih =>
    cases hs with
    | nil => unfold mHsD at h; cases h
    | cons p r =>
      obtain ⟨i, q⟩ := p
      unfold mHsD at h
      rw [Bool.and_eq_true] at h
      obtain ⟨h1, h2⟩ := h
      split at h1
      case h_2 => cases h1
      rename_i e nm v x he hxi
      simp only [Bool.and_eq_true, decide_eq_true_eq, Bool.not_eq_true'] at h1
      obtain ⟨⟨⟨⟨rfl, h3⟩, h4⟩, h5⟩, h6⟩ := h1
      have hnm : nmOf hd = nmI nm := by
        unfold nmOf
        rw [he]
      obtain ⟨np, pr, ph, rfl⟩ := asHdD_eq he
      have hc : Names X x.name (.ref (G.xc i)) := ⟨h3, h4, .inl (hx i x hxi)⟩
      have fld : ∀ {y : Expr} {a : Addr} {oe : Obj} {cls : Value} {d : Option Addr} {pn : List (Addr × Obj)}, Zc cls d oe → (∃ vs, oe.data = .fields vs) → isFld nm x.fld y = true → PE (X.suite a ((a, oe) :: pn)) y (tXf a cls d (G.xc i) (G.xf i) (tSl Ng.length)) := by
        intro y a oe cls d pn hz hd2 hy
        unfold isFld at hy
        split at hy
        case h_2 => cases hy
        rename_i n p1 g p2
        simp only [Bool.and_eq_true, decide_eq_true_eq, Bool.not_eq_true'] at hy
        obtain ⟨⟨⟨rfl, y2⟩, y3⟩, y4⟩ := hy
        obtain ⟨f1, f2, f3⟩ := hf i x g hxi y2
        dsimp only at h5
        simp only [Bool.and_eq_true, decide_eq_true_eq] at h5
        rw [f1]
        have hv : PE (X.suite a ((a, oe) :: pn)) (.Name n p1) (tSl Ng.length) := by
          rw [← hNg]
          exact pe_varL (X := X.suite a ((a, oe) :: pn)) (i := 1) (by show X.N[1]? = some n; rw [hNg]; exact h5.1.1) (.inl h5.2) y3 y4
        exact pe_xf f2 f3 hz hd2 hv rfl
      have val : ∀ (a : Addr) (oe : Obj) (cls : Value) (d : Option Addr) (pn : List (Addr × Obj)), Zc cls d oe → (∃ vs, oe.data = .fields vs) → PSs (X.suite a ((a, oe) :: pn)) [.Return (some v) pr] (hvT Ng.length (G.xc i) (G.xf i) q a cls d) := by
        intro a oe cls d pn hz hd2
        refine pss_one ?_
        unfold mHv at h6
        split at h6
        · exact ps_ret (txt_pe h6)
        · rename_i k0
          unfold isNeg at h6
          split at h6
          · rename_i j _ _ _
            have hk : k0 = -j := of_decide_eq_true h6
            subst hk
            refine ps_ret ?_
            rw [Int.neg_neg]
            exact pe_un un_neg pe_int
          · cases h6
        · exact ps_ret (fld hz hd2 h6)
        · exact ps_ret (pe_lst (pa_cons (txt_pe h6) pa_nil (by unfold isTxt at h6; split at h6 <;> first | rfl | cases h6)))
        · rw [Bool.and_eq_true] at h6
          exact ps_ret (pe_tupF (pa_cons (txt_pe h6.1) (pa_cons (fld hz hd2 h6.2) pa_nil (star_fld h6.2)) (star_txt h6.1)))
        · rw [Bool.and_eq_true] at h6
          exact ps_ret (pe_lst (pa_cons (txt_pe h6.1) (pa_cons (fld hz hd2 h6.2) pa_nil (star_fld h6.2)) (star_txt h6.1)))
        · cases h6
      show HdN X _ ((Value.ref (G.xc i), nmOf _, hvT Ng.length (G.xc i) (G.xf i) q) :: lHd Ng.length G hds r)
      rw [hnm]
      cases nm with
      | none => exact .plain hc val (ih h2)
      | some n =>
        dsimp only at h5
        simp only [Bool.and_eq_true, decide_eq_true_eq] at h5
        exact .named hc (by rw [hNg]; exact h5.1.1) h5.2 val (ih h2)
end
end EV
namespace EV
open PySem PySem.Spec PyProof.Rows L2 LamX
/-- whether a clause's value reads the exception -/
def hvF : Hv → Bool
  | .f => true
  | .tf _ => true
  | .lf _ => true
  | _ => false
def gHv (G : Gw) (i : Nat) (dd : Option Addr) (h : Hv) (H : Hp) (Q : VK) : Prop := match h with
  | .t s => Q (.str s) H
  | .i k => Q (.int k) H
  | .l s => ∀ l, H l = none → Q (.ref l) (upd H l (.lst [.str s]))
  | .f => ∃ da v, dd = some da ∧ H da = some (.xd [(G.xf i, v)]) ∧ Q v H
  | .tf s => ∃ da v, dd = some da ∧ H da = some (.xd [(G.xf i, v)]) ∧ ∀ p o, H p = none → o.dict = none → Q (.ref p) (upd H p (.frz o (.tup [.str s, v])))
  | .lf s => ∃ da v, dd = some da ∧ H da = some (.xd [(G.xf i, v)]) ∧ ∀ p, H p = none → Q (.ref p) (upd H p (.lst [.str s, v]))
def wD (K : PySem.W.Frag) (G : Gw) (cls : Value) (q : Nat → Hv → Prop) : List (Nat × Hv) → Prop
  | [] => False
  | (i, h) :: r => ∃ b, PySem.W.exmOne K cls (.ref (G.xc i)) = some b ∧ (b = true → q i h) ∧ (b = false → wD K G cls q r)
abbrev qD (G : Gw) (cls : Value) (dd : Option Addr) (H : Hp) (Q : VK) : Nat → Hv → Prop := fun i h => (hvF h = true → cls = .ref (G.xc i)) ∧ gHv G i dd h H Q
def TToldD (K : PySem.W.Frag) (G : Gw) (fin : Option Hv) (hs : List (Nat × Hv)) : (XK → Hp → VK → Prop) → Hp → VK → Prop := fun tl H Q => match fin with
  | none => tl (fun cls dd H' => wD K G cls (qD G cls dd H' Q) hs) H Q
  | some w => ∀ Q2 : VK, (∀ v H', gHv G 0 none w H' Q → Q2 v H') → tl (fun cls dd H' => wD K G cls (qD G cls dd H' Q) hs) H Q2
theorem one_fit {n : Nat} (h : n ≤ 10) : n ≤ sizeLine := by rw [sizeLine_eq]; omega
theorem hv_run {n : Nat} {G : Gw} {i : Nat} {q : Hv} {a : Addr} {cls : Value} {dd : Option Addr} {D : Ends} {σ : L2.St} {H : Hp} (hq : qD G cls dd H D.rt i q) (hs : hvF q = true → n = 2 ∧ ∃ σ0 : L2.St, σ = σ0.set 1 (some (.ref a))) : hvT n (G.xc i) (G.xf i) q a cls dd D σ H := by
  obtain ⟨hc, hg⟩ := hq
  have slot : hvF q = true → σ.length = n → σ[1]? = some (some (V.ref a)) := fun z hl => by
    obtain ⟨rfl, σ0, rfl⟩ := hs z
    rw [List.length_set] at hl
    rw [List.getElem?_set_self (by omega)]
  have look : ∀ v : V, ([(G.xf i, v)] : List (Str × V)).lookup (G.xf i) = some v := fun v => by simp [List.lookup]
  cases q with
  | t s => exact hg
  | i k => exact ⟨-k, rfl, by show D.rt (.int (- -k)) H; rw [Int.neg_neg]; exact hg⟩
  | l s => exact ⟨one_fit (Nat.le_of_ble_eq_true rfl), fun l hl => hg l hl⟩
  | f =>
    obtain ⟨da, v, h1, h2, h3⟩ := hg
    exact ⟨.ref a, slot rfl, rfl, hc rfl, da, _, v, h1, h2, look v, h3⟩
  | tf s =>
    obtain ⟨da, v, h1, h2, h3⟩ := hg
    exact ⟨.ref a, slot rfl, rfl, hc rfl, da, _, v, h1, h2, look v, one_fit (Nat.le_of_ble_eq_true rfl), fun p o hp ho => h3 p o hp ho⟩
  | lf s =>
    obtain ⟨da, v, h1, h2, h3⟩ := hg
    exact ⟨.ref a, slot rfl, rfl, hc rfl, da, _, v, h1, h2, look v, one_fit (Nat.le_of_ble_eq_true rfl), fun p hp => h3 p hp⟩
theorem hv_named {nm f : Option Str} {q : Hv} {v : Expr} (h : mHv nm f q v = true) (z : hvF q = true) : ∃ n, nm = some n := by
  have key : ∀ {y : Expr}, isFld nm f y = true → ∃ n, nm = some n := fun {y} hy => by
    unfold isFld at hy
    split at hy
    · simp only [Bool.and_eq_true, decide_eq_true_eq] at hy
      exact ⟨_, hy.1.1.1⟩
    · cases hy
  unfold mHv at h
  split at h
  · cases z
  · cases z
  · exact key h
  · cases z
  · rw [Bool.and_eq_true] at h; exact key h.2
  · rw [Bool.and_eq_true] at h; exact key h.2
  · cases h
theorem wD_run {K : PySem.W.Frag} {G : Gw} {xs : List Xc} {Ng : List Str} {sc : Scope} {Wout : WX} {D : Ends} {cls : Value} {dd : Option Addr} {σ : L2.St} {H : Hp} : ∀ {hds : List ExceptHandler} {hs : List (Nat × Hv)}, mHsD xs Ng sc hds hs = true → wD K G cls (qD G cls dd H D.rt) hs → wNm K Wout D (lHd Ng.length G hds hs) cls dd σ H
  | [], [], _, w => w.elim
  | [], _ :: _, h, _ => by unfold mHsD at h; cases h
  | _ :: _, [], _, w => w.elim
  | hd :: hds, (i, q) :: r, h, w => by
    unfold mHsD at h
    rw [Bool.and_eq_true] at h
    obtain ⟨b, w1, w2, w3⟩ := w
    refine ⟨b, w1, fun hb a _ => ?_, fun hb => wD_run h.2 (w3 hb)⟩
    have h1 := h.1
    split at h1
    case h_2 => cases h1
    rename_i e nm v x he hxi
    simp only [Bool.and_eq_true] at h1
    obtain ⟨⟨_, h5⟩, h6⟩ := h1
    have hnm : nmOf hd = nmI nm := by
      unfold nmOf
      rw [he]
    rw [hnm]
    cases nm with
    | none =>
      refine hv_run (D := D) (w2 hb) fun z => ?_
      obtain ⟨n, e⟩ := hv_named h6 z
      cases e
    | some n =>
      dsimp only at h5
      simp only [Bool.and_eq_true, decide_eq_true_eq] at h5
      exact hv_run (D := goneE 1 D) (w2 hb) fun _ => ⟨h5.1.2, σ, rfl⟩
section
variable {X : Cx} {G : Gw}
theorem told_dr {xs : List Xc} {Ng : List Str} {x a q : Str} {sg : Scope} {g : Addr} {cdg : Value} {bg : List Stmt} {hds : List ExceptHandler} {hs : List (Nat × Hv)} {p4 p5 p6 p7 : Pos} (hbg : bg = [.Try [.Return (some (.Call (.Name a p4) [] [] p5)) p6] hds [] [] p7]) (hN : Ng.Nodup)
    (hne : hds ≠ []) (hx : ∀ (i : Nat) (x : Xc), xs[i]? = some x → X.mg x.name = some (.ref (G.xc i))) (hf : ∀ (i : Nat) (x : Xc) (f : Str), xs[i]? = some x → x.fld = some f → G.xf i = f ∧ XfC X.K (G.xc i) ∧ PySem.W.findIn X.K (.ref (G.xc i)) f = some none) (h : mHsD xs Ng sg hds hs = true) :
    GivesTo X Ng x sg g cdg bg a q (TToldD X.K G none hs) := by
  subst hbg
  intro f c' s H Q tl act hc h0
  obtain ⟨h1, hds', rfl⟩ : ∃ h1 hds', hds = h1 :: hds' := by
    cases hds with
    | nil => exact absurd rfl hne
    | cons h1 r => exact ⟨h1, r, rfl⟩
  have hk := hds_okD (X := (cxOf C8.CX0 X.prog X.w X.K X.mg X.base Ng x sg g cdg X.A X.stack s H C8.E0).nox) (G := G) (hs := hs) rfl hx hf h
  refine ⟨_, pss_one (ps_tryN (X := (cxOf C8.CX0 X.prog X.w X.K X.mg X.base Ng x sg g cdg X.A X.stack s H C8.E0).nox)
      (tb := fun W D σ H => ∃ Ech : XK, (∀ cls d σ' H', Ech cls d H' → W cls d σ' H') ∧ σ[0]? = some (some (.ref f)) ∧ H c' = some (CodeO c' q) ∧ tl Ech H D.rt) rfl rfl hN LamX.takes0 (fun W pn xe tk _ => ?_) hk), ?_⟩
  · refine ⟨fun pins s' σ H' D I h' => ?_⟩
    obtain ⟨Ech, hW, e1, e2, e3⟩ := h'
    exact (pss_one (ps_ret (pos := p6) (act W pn xe Ech p4 p5 tk hW))).run pins s' σ H' D I ⟨e1, e2, e3⟩
  · exact ⟨_, fun cls d σ' H' w => wD_run (xs := xs) (Ng := Ng) (sc := sg) h w, rfl, hc, h0⟩
theorem told_df {xs : List Xc} {Ng : List Str} {x a q : Str} {sg : Scope} {g : Addr} {cdg : Value} {bg : List Stmt} {hds : List ExceptHandler} {hs : List (Nat × Hv)} {fin : Hv} {v : Expr} {p4 p5 p6 p7 p9 : Pos} (hbg : bg = [.Try [.Expr (.Call (.Name a p4) [] [] p5) p6] hds [] [] p7, .Return (some v) p9]) (hN : Ng.Nodup)
    (hne : hds ≠ []) (hx : ∀ (i : Nat) (x : Xc), xs[i]? = some x → X.mg x.name = some (.ref (G.xc i))) (hf : ∀ (i : Nat) (x : Xc) (f : Str), xs[i]? = some x → x.fld = some f → G.xf i = f ∧ XfC X.K (G.xc i) ∧ PySem.W.findIn X.K (.ref (G.xc i)) f = some none) (h : mHsD xs Ng sg hds hs = true) (hv : mHv none none fin v = true) :
    GivesTo X Ng x sg g cdg bg a q (TToldD X.K G (some fin) hs) := by
  subst hbg
  intro f c' s H Q tl act hc h0
  obtain ⟨h1, hds', rfl⟩ : ∃ h1 hds', hds = h1 :: hds' := by
    cases hds with
    | nil => exact absurd rfl hne
    | cons h1 r => exact ⟨h1, r, rfl⟩
  have hk := hds_okD (X := (cxOf C8.CX0 X.prog X.w X.K X.mg X.base Ng x sg g cdg X.A X.stack s H C8.E0).nox) (G := G) (hs := hs) rfl hx hf h
  have nof : hvF fin = true → False := fun z => by
    obtain ⟨n, e⟩ := hv_named hv z
    cases e
  have last : PSs (cxOf C8.CX0 X.prog X.w X.K X.mg X.base Ng x sg g cdg X.A X.stack s H C8.E0).nox [.Return (some v) p9] (fun D σ H => gHv G 0 none fin H D.rt) := by
    refine pss_one ?_
    unfold mHv at hv
    split at hv
    · exact ps_ret (txt_pe hv)
    · rename_i k0
      unfold isNeg at hv
      split at hv
      · rename_i j _ _ _
        have hk : k0 = -j := of_decide_eq_true hv
        subst hk
        exact PS.imp (ps_ret (pe_un un_neg pe_int)) fun D σ H z => ⟨j, rfl, z⟩
      · cases hv
    · exact (nof rfl).elim
    · refine PS.imp (ps_ret (pe_lst (pa_cons (txt_pe hv) pa_nil (star_txt hv)))) fun D σ H z => ⟨one_fit (Nat.le_of_ble_eq_true rfl), fun l hl => z l hl⟩
    · exact (nof rfl).elim
    · exact (nof rfl).elim
    · cases hv
  refine ⟨_, pss_cons (ps_tryN (X := (cxOf C8.CX0 X.prog X.w X.K X.mg X.base Ng x sg g cdg X.A X.stack s H C8.E0).nox)
      (tb := fun W D σ H => ∃ Ech : XK, (∀ cls d σ' H', Ech cls d H' → W cls d σ' H') ∧ σ[0]? = some (some (.ref f)) ∧ H c' = some (CodeO c' q) ∧ tl Ech H fun _ H' => D.nx σ H') rfl rfl hN LamX.takes0 (fun W pn xe tk _ => ?_) hk) last, ?_⟩
  · refine ⟨fun pins s' σ H' D I h' => ?_⟩
    obtain ⟨Ech, hW, e1, e2, e3⟩ := h'
    exact (pss_one (ps_expr (pos := p6) (act W pn xe Ech p4 p5 tk hW))).run pins s' σ H' D I ⟨e1, e2, e3⟩
  · exact ⟨_, fun cls d σ' H' w => wD_run (xs := xs) (Ng := Ng) (sc := sg) h w, rfl, hc, h0 _ fun _ H' z => z⟩
end
end EV

/-! sorted(xs, key=lambda one: (len(one[2]), one)): the items sorted by the length of their third part, then by themselves. -/
namespace EV
open PySem PySem.Spec PyProof.Rows L2 LamX
mutual
theorem reads0 : ∀ (d : D) {h : Heap} {v : Value} {as : List Addr}, noL d = true → Reads h v (pd d) as → as = []
  | .non, _, _, _, _, r => by cases (show Reads _ _ .none _ from r); rfl
  | .bl b, _, _, _, _, r => by cases (show Reads _ _ (.bool b) _ from r); rfl
  | .int i, _, _, _, _, r => by cases (show Reads _ _ (.int i) _ from r); rfl
  | .str x, _, _, _, _, r => by cases (show Reads _ _ (.str x) _ from r); rfl
  | .tup ds, _, _, _, q, r => by
    cases (show Reads _ _ (.tuple (pds ds)) _ from r) with
    | tuple e1 e2 e3 rs => exact reads0s ds q rs
  | .lst _, _, _, _, q, _ => by cases (show false = true from q)
  | .dic _ _, _, _, _, _, r => by cases (show Reads _ _ .none _ from r); rfl
  | .ref _, _, _, _, _, r => by cases (show Reads _ _ .none _ from r); rfl
  | .fn, _, _, _, _, r => by cases (show Reads _ _ .none _ from r); rfl
  | .scr _, _, _, _, _, r => by cases (show Reads _ _ .none _ from r); rfl
  | .pr _ _, _, _, _, _, r => by cases (show Reads _ _ .none _ from r); rfl
theorem reads0s : ∀ (ds : List D) {h : Heap} {vs : List Value} {as : List Addr}, noLs ds = true → ReadsAll h vs (pds ds) as → as = []
  | [], _, _, _, _, r => by cases (show ReadsAll _ _ [] _ from r); rfl
  | d :: ds, _, _, _, q, r => by
    have q : (noL d && noLs ds) = true := q
    rw [Bool.and_eq_true] at q
    cases (show ReadsAll _ _ (pd d :: pds ds) _ from r) with
    | cons r1 r2 =>
      rw [reads0 d q.1 r1, reads0s ds q.2 r2]; rfl
end
theorem readsAll_len : ∀ {h : Heap} {vs : List Value} {ds : List PyData} {as : List Addr}, ReadsAll h vs ds as → vs.length = ds.length
  | _, [], _, _, r => by cases r; rfl
  | _, _ :: vs, _, _, r => by
    cases r with
    | cons r1 r2 => rw [List.length_cons, List.length_cons, readsAll_len r2]
theorem readsAll_cons {h : Heap} {vs : List Value} {d : PyData} {ds : List PyData} {as : List Addr} (r : ReadsAll h vs (d :: ds) as) : ∃ v vs' a b, vs = v :: vs' ∧ Reads h v d a ∧ ReadsAll h vs' ds b := by
  cases r with
  | cons r1 r2 => exact ⟨_, _, _, _, rfl, r1, r2⟩
theorem pds_len : ∀ ds : List D, (pds ds).length = ds.length
  | [] => rfl
  | d :: ds => by show (pds ds).length + 1 = _; rw [pds_len ds]; rfl
theorem hasK_inv {d : D} (h : hasK d = true) : ∃ x y zs r, d = .tup (x :: y :: .tup zs :: r) ∧ zs.length ≤ lim := by
  unfold hasK at h
  split at h
  · exact ⟨_, _, _, _, rfl, of_decide_eq_true h⟩
  · cases h
/-- the lambda's text -/
abbrev oneN : Str := Str.ofString "one"
def keyArgs (pa : Pos) : Arguments := ⟨[], [⟨oneN, none, pa⟩], none, [], [], none, []⟩
def keyBody (q0 q1 q2 q3 q4 q5 q6 : Pos) (j j2 : Nat) : Expr := .Tuple [.Call (.Name (Str.ofString "len") q0) [.Subscript (.Name oneN q1) (.Constant (.int 2) j q2) q3] [] q4, .Name oneN q5] j2 q6
theorem bind_key (q : Str) (pa : Pos) (body : Expr) (scope : Scope) (cl : List (Str × Addr)) (pm cv ctv u : Value) : bindArgs (PySem.W.kla_fn "<lambda>" q (keyArgs pa) body scope cl pm cv ctv) ⟨[u], []⟩ = pure [(oneN, u)] := by rfl
section
variable {P : Program} {w : World} {A : Around} {s : Shared} {mg : Str → Option Value}
/-- the key of one item -/
theorem key_body {q0 q1 q2 q3 q4 q5 q6 : Pos} {j j2 : Nat} {env : Env} {v : Value} {d : D} {m : Str → Option Value} {Q : Value → Shared → Prop} {E : Value → Shared → Prop} (hn : s.heap.Ns env.locals m) (hv : m oneN = some v) (r : Reads s.heap v (pd d) []) (hk : hasK d = true)
    (k1 : env.scope.kind = .function) (k2 : env.kindOf oneN = some .local) (k3 : env.kindOf (Str.ofString "len") = some .globalImplicit)
    (hg : s.heap.Ns env.globals mg) (hm : mg (Str.ofString "len") = none) {mb : Str → Option Value} (hb : s.heap.Ns env.builtins mb) (hb2 : ∀ x : Str, x ≠ "__name__" → mb x = bootBuiltins x)
    (h : ∀ h' tk u, (∀ b o, s.heap.get? b = some o → h'.get? b = some o) → Reads h' u (pd (keyd d)) [] → Q u { s with heap := h', toks := tk }) :
    wpAny (model P w) A (eval (keyBody q0 q1 q2 q3 q4 q5 q6 j j2) env) Q E s := by
  obtain ⟨x, y, zs, rr, rfl, hz⟩ := hasK_inv hk
  obtain ⟨as, r'⟩ : ∃ as, Reads s.heap v (.tuple (pd x :: pd y :: .tuple (pds zs) :: pds rr)) as := ⟨_, r⟩
  cases r' with
  | @tuple a o vs n _ _ e1 e2 e3 rs =>
    obtain ⟨l⟩ := vs
    obtain ⟨v1, l1, _, _, rfl, f1, rs⟩ := readsAll_cons rs
    obtain ⟨v2, l2, _, _, rfl, f2, rs⟩ := readsAll_cons rs
    obtain ⟨v3, l3, a3, _, rfl, f3, rs⟩ := readsAll_cons rs
    cases f3 with
    | @tuple a' o' vs' n' _ _ g1 g2 g3 gs =>
    have it : IsTup s.heap a ⟨v1 :: v2 :: .ref a' :: l3⟩ := ⟨o, e1, e2, n, e3⟩
    have it' : ∀ tk : Nat, IsTup ({ s with toks := tk } : Shared).heap a' vs' := fun _ => ⟨o', g1, g2, n', g3⟩
    have hsz : vs'.size = zs.length := by rw [← Array.length_toList, readsAll_len gs, pds_len]
    unfold keyBody
    refine wpAny_Tuple_spliced ?_
    refine Calls.spliced_cons ?_
    refine wpAny_Call_Name_kw (Calls.Name_function_global k1 k3 (Calls.loadGlobal_builtin hg hm hb ((hb2 _ (by decide)).trans boot_len) ?_))
    refine PyProof.Rows.callWith_builtin1 (Calls.spliced_cons ?_)
    refine Subscript_ (wpAny_Name (wpAny_loadName_local k1 k2 hn hv (wpAny_Constant_int ?_)))
    refine subscriptTail_builtinR (x := .ref a') (T := "tuple") (id := "tuple.__getitem__") ⟨o, e1, e2⟩ RT.get_tuple (PyProof.Rows.getItem_tuple (s := { s with toks := s.toks + 1 }) (j := 2) (x := .ref a') it (by decide) (by decide) ?_ (by rfl) ⟨rfl, ?_⟩)
    · show seqIndex? 2 (v1 :: v2 :: Value.ref a' :: l3).length = some 2
      have : (v1 :: v2 :: Value.ref a' :: l3).length = l3.length + 3 := rfl
      rw [this]
      unfold seqIndex?
      simp
      omega
    · refine Calls.spliced_nil ?_
      refine PyProof.Rows.len_tuple (it' _) (by rw [hsz]; have : zs.length ≤ 16777216 := hz; omega) ?_
      refine Calls.spliced_cons ?_
      refine wpAny_Name (wpAny_loadName_local k1 k2 hn hv ?_)
      refine Calls.spliced_nil ⟨by rw [sizeLine_eq]; show 2 ≤ 16777216; decide, ?_⟩
      refine h _ _ _ (fun _ _ e => Heap.get?_push_of_some _ e) ?_
      have kp : ∀ b o, s.heap.get? b = some o → (s.heap.push { cls := .type "tuple", data := .seq (List.toArray [Value.int vs'.size (s.toks + 1 + 1), Value.ref a]) }).get? b = some o := fun _ _ e => Heap.get?_push_of_some _ e
      show Reads _ _ (.tuple [.int zs.length, pd (.tup (x :: y :: .tup zs :: rr))]) ([] ++ ([] ++ []))
      refine .tuple (Heap.get?_push_size _ rfl) rfl rfl (.cons ?_ (.cons (PyProof.Rows.Reads.keeps kp r) .nil))
      rw [← hsz]
      exact .int _ _
/-- what a call of the lambda gives -/
theorem key_turn {A : Around} {f c' : Addr} {q : Str} {pa q0 q1 q2 q3 q4 q5 q6 : Pos} {j j2 : Nat} {scope : Scope} {cl : List (Str × Addr)} {pm ctv : Value} {s0 : Shared} {v : Value} {d : D} {h : Heap} {tk : Nat}
    (hf : s0.heap.get? f = some (PySem.W.kla_obj "<lambda>" q (keyArgs pa) (keyBody q0 q1 q2 q3 q4 q5 q6 j j2) scope cl pm c' ctv)) (hc : s0.heap.CodeRec (.ref c') q) (hA : A.depth < recursionLimit) (hnl : s0.heap.NoLimit)
    (s1 : scope.kind = .function) (s2 : scope.isCoroutine = false) (s3 : scope.isGenerator = false) (s4 : ∀ y ∈ scope.names, y.2 ≠ .cell) (s5 : scope.names.lookup oneN = some .local) (s6 : scope.names.lookup (Str.ofString "len") = some .globalImplicit)
    (hg : s0.heap.Ns mainGlobals mg) (hm : mg (Str.ofString "len") = none) {mb : Str → Option Value} (hb : s0.heap.Ns builtinsNs mb) (hb2 : ∀ x : Str, x ≠ "__name__" → mb x = bootBuiltins x)
    (r : Reads s0.heap v (pd d) []) (hk : hasK d = true) (kp : ∀ b o, s0.heap.get? b = some o → h.get? b = some o) {E : Value → Shared → Prop} :
    wpAny (model P w) A (call (.ref f) [v]) (PySem.W.KeyPure (pd (keyd d)) { s0 with heap := h, toks := tk }) E { s0 with heap := h, toks := tk } := by
  refine wpAny_call (PySem.W.kla_callFunE hA (kp _ _ hf) rfl s2 s3 rfl (hc.keeps kp) ?_)
  rw [bind_key]
  refine wpAny_pure (wpAny_newFunctionEnv s4 (fun y hy => ?_) (fun h₁ hns hsb => ⟨(hnl.keeps kp).fresh _ hsb, ?_⟩) s1)
  · cases List.mem_singleton.mp hy
    exact s5
  have k1 : ∀ b o, h.get? b = some o → h₁.get? b = some o := fun b o e => hsb.extBut b o (Nat.ne_of_lt (Heap.lt_size e)) (Heap.get?_push_of_some _ e)
  have k2 : ∀ b o, s0.heap.get? b = some o → h₁.get? b = some o := fun b o e => k1 b o (kp b o e)
  refine PySem.W.kla_codeExpr (key_body hns (v := v) rfl (PyProof.Rows.Reads.keeps k2 r) hk s1 s5 s6 (hg.keeps k2) hm (hb.keeps k2) hb2 fun h' tk' u k3 r3 => ?_)
  exact ⟨h', tk', rfl, fun b o e => k3 b o (k1 b o e), r3⟩
end
/-- what the matcher sees of the lambda's scope -/
def keyScB (sc : Scope) : Bool := decide (sc.kind = .function) && !sc.isCoroutine && !sc.isGenerator && sc.names.all (fun y => !decide (y.2 = .cell) && !decide (y.2 = .free)) && decide (sc.names.lookup oneN = some .local) && decide (sc.names.lookup (Str.ofString "len") = some .globalImplicit)
theorem canK {xs : List D} {ws : List V} (h : canSort (xs.map keyd) = true) : PySem.W.AllAlike ((xs.zip ws).map fun p => pd (keyd p.1)) ∧ PySem.W.Sortable ((xs.zip ws).map fun p => pd (keyd p.1)) := by
  have e : ((xs.zip ws).map fun p => pd (keyd p.1)) = (((xs.map keyd).zip ws).map fun p => pd p.1) := by
    rw [List.zip_map_left, List.map_map]; rfl
  rw [e]
  exact can_sortable h
theorem keyd_depth {d : D} (h : hasK d = true) : (pd (keyd d)).depth = (pd d).depth + 1 := by
  obtain ⟨x, y, zs, r, rfl, _⟩ := hasK_inv h
  show (PyData.tuple [.int zs.length, pd (.tup (x :: y :: .tup zs :: r))]).depth = _
  simp [PyData.depth, PyData.depthAll]
theorem keyMap (zs : List (D × V)) : (zs.mergeSort (PySem.W.dataLe false fun p => pd (keyd p.1))).map (·.1) = isrt (PySem.W.dataLe false fun x => pd (keyd x)) (zs.map (·.1)) := by
  rw [isrt_eq (dataLe_total fun x => pd (keyd x))]
  exact List.map_mergeSort fun a _ b _ => rfl
theorem Grown.none {P : Addr} {H H1 : Hp} (h : Grown P H H1) {a : Addr} (e : H1 a = none) : H a = none := by
  rcases h with rfl | ⟨ps, more, c0, q, h1, h2, rfl⟩
  · exact e
  · by_cases hc : a = c0
    · subst hc; rw [upd_same] at e; cases e
    · rw [upd_ne hc] at e
      by_cases hp : a = P
      · subst hp; rw [upd_same] at e; cases e
      · rw [upd_ne hp] at e; exact e
section
variable {X : Cx} {G : Gw} {W : WX}
theorem ev_srk {a : Expr} {fa : Rho → Mem → R D} {c Pt : Addr} {k : Nat} {scope : Scope} {p pa q0 q1 q2 q3 q4 q5 q6 lp kpos pos : Pos} {j j2 : Nat} (hK : G.K = X.K) (hr : Room k X.A) (hg : Gl X "sorted") (hm : X.mg "sorted" = none) (hml : X.mg (Str.ofString "len") = none)
    (TB : TabB X.base X.mg c Pt) (hcode : X.env.code = .ref c) (hmT : (Pt, X.env.qual ++ "<lambda>") ∈ G.tabs) (hu : ∀ p ∈ G.tabs, p.1 = Pt → p.2 = X.env.qual ++ "<lambda>") (hdef : defaultsOf (keyArgs pa) X.env = ([], [])) (hs : keyScB scope = true)
    (ha : EvE X G W a fa) (hst : starEach [a] X.env = (false, eval a X.env) :: starEach [] X.env) :
    EvF X G W (.Call (.Name "sorted" p) [a] [⟨some (Str.ofString "key"), .Lambda (keyArgs pa) (keyBody q0 q1 q2 q3 q4 q5 q6 j j2) scope lp, kpos⟩] pos) (fun ρ m => (fa ρ m).bind fun d m1 => srkD d m1) := by
  unfold keyScB at hs
  simp only [Bool.and_eq_true, decide_eq_true_eq, Bool.not_eq_true', List.all_eq_true, decide_eq_false_iff_not] at hs
  obtain ⟨⟨⟨⟨⟨s1, s2⟩, s3⟩, s4⟩, s5⟩, s6⟩ := hs
  refine ⟨fun pins s σ H Q I h => ?_⟩
  obtain ⟨ρ, m, μ, τ, g, sl, q⟩ := h
  refine wpAny_Call_Name_kw (ld_blt I hg hm (show bootBuiltins "sorted" = some (.builtin "sorted") by decide +kernel) ?_)
  have hA := ha.run pins s σ H (fun v H1 => ∃ d m1 μ1, Good G μ1 τ m1 H1 ∧ Rep G μ1 τ H1 d v ∧ PstF G W σ μ1 τ H1 (srkD d m1) Q) I ⟨ρ, m, μ, τ, g, sl, (PstF.bind (RP := RD G τ) g q).imp fun v H1 ⟨d, m1, μ1, n1, g1, r1, q1⟩ => ⟨d, m1, μ1, g1, r1, q1⟩⟩
  refine PyProof.Rows.callWith_kw ?_ (by rw [hst]; rfl) (by rw [hst]; rfl) rfl rfl
  rw [hst]
  show wpAny _ _ (spliced ((false, eval a X.env) :: backTo pos (starEach [] X.env))) _ _ s
  refine Calls.spliced_cons (thn hA fun v s' hv => Calls.spliced_nil ?_)
  obtain ⟨x, H1, I1, rv, d, m1, μ1, g1, r1, q1⟩ := hv
  refine PyProof.Rows.kws_cons (lam_make3 I1 TB hcode hmT hu g1.tabs hdef (fun y hy z => absurd z (s4 y hy).2) fun f c' pm ctv H2 s2' I2 gr T2 hf hfn hfr hco => PyProof.Rows.kws_nil ?_)
  show wpAny _ _ (call (.builtin "sorted") [v] [(Str.ofString "key", .ref f)]) _ _ s2'
  have g2 := gr.good g1 T2
  have nx : Nxt μ1 τ H1 μ1 τ H2 := gr.nxt
  unfold srkD at q1
  split at q1
  case h_2 => exact q1.elim
  rename_i xs hx
  split at q1
  case isFalse => exact q1.elim
  rename_i hb
  rw [Bool.and_eq_true, List.all_eq_true] at hb
  obtain ⟨hb1, hb2⟩ := hb
  obtain ⟨ad, ws, rfl, hl, rw1⟩ := lst_inv g1 r1 hx
  have hl2 := gr.at hl (fun ps => by simp)
  obtain ⟨its, ri, il, hz⟩ := I2.list (.inl (.inl hl2))
  cases rv
  obtain ⟨k1, k2⟩ := canK (ws := ws) hb2
  have lz : (xs.zip ws).length = ws.length := by rw [List.length_zip, ← rw1.length, Nat.min_self]
  have rw2 : Reps G μ1 τ H2 xs ws := rw1.nxt nx (fun _ => g1.mut)
  obtain ⟨mb, m2, m3⟩ := I2.mod.blt
  refine PySem.W.sorted_key_data (b := false) (R := fun u p => RelV p.2 u ∧ Reads s2'.heap u (pd p.1) []) (bs := xs.zip ws) (fun p : D × V => pd (keyd p.1)) il.isList (each_zip ri rw1.length fun p u hp hr => ⟨hr, ?_⟩) k1 k2 (by rw [lz]; exact hz) (fun b hb => ?_) (PyProof.Rows.ksk_s1 _ _) (fun _ => PyProof.Rows.ksk_l1 _ _) (fun _ => PyProof.Rows.ksk_t1 _ _)
    (fun v p hR hp h tk kp => ?_) fun out cc h' tk kp hn hD hlo eo => ?_
  · have hp1 := hb1 _ (List.of_mem_zip hp).1
    simp only [Bool.and_eq_true] at hp1
    obtain ⟨as, rr⟩ := Dp.reads I2 _ _ _ (Rep.dp hK _ 48 _ hp1.1.1 (rw2.mem hp)) hr
    have := reads0 _ hp1.1.2 rr
    rw [this] at rr
    exact rr
  · have hp1 := hb1 _ (List.of_mem_zip hb).1
    simp only [Bool.and_eq_true] at hp1
    have := (Rep.shaped _ 48 _ hp1.1.1 (rw2.mem hb)).2
    have hun := hr.un
    rw [keyd_depth hp1.2]
    omega
  · have hp1 := hb1 _ (List.of_mem_zip hp).1
    simp only [Bool.and_eq_true] at hp1
    obtain ⟨⟨oc, vs, t, hoc, hdc, hvc⟩, _, _⟩ := I2.hok c' _ hco
    exact key_turn (A := X.A.in1.in1) hf ⟨c', oc, vs, t, rfl, hoc, hdc, hvc⟩ (show X.A.depth < _ from hr.depth) I2.nolimit s1 s2 s3 (fun y hy => (s4 y hy).1) s5 s6 (I2.mod.glob.keeps I2.bk) hml (m2.keeps I2.bk) m3 hR.2 hp1.2 kp
  · have vo := vals_of_each (eo.mono fun _ _ z => z.1)
    have rr : Reps G μ1 τ H2 (isrt (PySem.W.dataLe false fun x => pd (keyd x)) xs) (((xs.zip ws).mergeSort (PySem.W.dataLe false fun p => pd (keyd p.1))).map (·.2)) := by
      have := Reps.ofPairs (G := G) (μ := μ1) (τ := τ) (H := H2) (zs := (xs.zip ws).mergeSort (PySem.W.dataLe false fun p => pd (keyd p.1))) fun p hp => rw2.mem ((List.mergeSort_perm _ _).mem_iff.mp hp)
      rw [keyMap, List.map_fst_zip (by rw [rw1.length]; exact Nat.le_refl _)] at this
      exact this
    have hsz : (((xs.zip ws).mergeSort (PySem.W.dataLe false fun p => pd (keyd p.1))).map (·.2)).length ≤ sizeLine := by
      rw [List.length_map, List.length_mergeSort, lz]; exact hz
    have q2 : PstF G W σ μ1 τ H2 (.ok (.lst (isrt (PySem.W.dataLe false fun x => pd (keyd x)) xs)) m1) Q := by
      intro p vs H' μ' n hp g' e r
      exact q1 p vs H' μ' (nx.trans n) (gr.none hp) g' e r
    exact ⟨.ref _, upd H2 (s2'.heap.objs.size + 1) (.lst (((xs.zip ws).mergeSort (PySem.W.dataLe false fun p => pd (keyd p.1))).map (·.2))), I2.laid (t' := tk) kp (Nat.le_succ _) ⟨hsz, out, cc, vo, hD⟩, rfl, newL q2 g2 rr (I2.hok.fresh (Nat.le_succ _))⟩
end
end EV

/-! Instances: made, their attributes read and written, their methods called. -/
namespace EV
open PySem PySem.Spec PyProof.Rows L2
section
variable {X : Cx} {G : Gw} {W : WX} {σ : L2.St} {μ τ : List Addr} {H : Hp} {m : Mem} {a e : Expr} {fa fc : Rho → Mem → R D} {f : Str} {cs : List Nat} {pos : Pos}
/-- what is known of the classes whose instances have the attribute -/
def FldOk (X : Cx) (G : Gw) (f : Str) (cs : List Nat) : Prop := ∀ c ∈ cs, Cls X.K (G.cl c) ∧ NoAttr X.K (G.cl c) f
theorem fget_get : ∀ {ns : List Str} {xs : List D} {vs : List V} {d : D}, fget ns xs f = some d → Reps G μ τ H xs vs → ns.length = vs.length → ∃ v, (ns.zip vs).lookup f = some v ∧ Rep G μ τ H d v
  | [], _, _, _, h, _, _ => by unfold fget at h; cases h
  | _ :: _, [], _, _, h, _, _ => by unfold fget at h; cases h
  | k :: ks, x :: xs, vs, d, h, r, l => by
    obtain ⟨v, vs', rfl, r1, rs⟩ := r
    unfold fget at h
    rw [List.zip_cons_cons, List.lookup_cons]
    split at h
    · rename_i e
      cases h
      rw [show (f == k) = true from by rw [e]; exact beq_self_eq_true _]
      exact ⟨v, rfl, r1⟩
    · rename_i e
      rw [show (f == k) = false from by rw [beq_eq_false_iff_ne]; exact fun z => e z.symm]
      exact fget_get h rs (by simpa using l)
theorem fput_zip : ∀ {ns : List Str} {vs : List V} (v : V), ns.length = vs.length → ∃ ws, putF f v (ns.zip vs) = (fput ns f).zip ws ∧ (fput ns f).length = ws.length ∧ ∀ (xs : List D) (y : D), Reps G μ τ H xs vs → Rep G μ τ H y v → Reps G μ τ H (fputX ns xs f y) ws
  | [], [], v, _ => ⟨[v], rfl, rfl, fun xs y r ry => by
      cases xs with
      | nil => exact .cons ry .nil
      | cons _ _ => obtain ⟨_, _, z, _⟩ := r; cases z⟩
  | [], _ :: _, _, h => by simp at h
  | _ :: _, [], _, h => by simp at h
  | k :: ks, u :: vs, v, h => by
    by_cases e : k = f
    · refine ⟨v :: vs, ?_, ?_, fun xs y r ry => ?_⟩
      · rw [List.zip_cons_cons]
        unfold putF fput
        rw [if_pos e, if_pos e]; rfl
      · unfold fput
        rw [if_pos e]; simpa using h
      · cases xs with
        | nil => cases (show _ = [] from r)
        | cons x xs =>
          obtain ⟨u', vs', z, r1, rs⟩ := r
          cases z
          unfold fputX
          rw [if_pos e]
          exact .cons ry rs
    · obtain ⟨ws, h1, h2, h3⟩ := fput_zip (ns := ks) (vs := vs) v (by simpa using h)
      refine ⟨u :: ws, ?_, ?_, fun xs y r ry => ?_⟩
      · rw [List.zip_cons_cons]
        unfold putF fput
        rw [if_neg e, if_neg e, h1]; rfl
      · unfold fput
        rw [if_neg e]; simpa using h2
      · cases xs with
        | nil => cases (show _ = [] from r)
        | cons x xs =>
          obtain ⟨u', vs', z, r1, rs⟩ := r
          cases z
          unfold fputX
          rw [if_neg e]
          exact .cons r1 (h3 xs y rs ry)
theorem ins_inv {d : D} {x : V} {y : D} (g : Good G μ τ m H) (r : Rep G μ τ H d x) (h : fldD cs d f m = some y) : ∃ (n : Nat) (a : Addr) (c : Nat) (ns : List Str) (xs : List D) (dx : Addr) (vs : List V) (v : V), d = .ref n ∧ x = .ref a ∧ μ[n]? = some a ∧ m[n]? = some (.ins c ns xs) ∧ c ∈ cs ∧ H a = some (.ins (G.cl c) dx (ns.zip vs)) ∧ ns.length = vs.length ∧ Reps G μ τ H xs vs ∧ (ns.zip vs).lookup f = some v ∧ Rep G μ τ H y v := by
  unfold fldD at h
  split at h
  case h_2 => cases h
  rename_i n
  split at h
  case h_2 => cases h
  rename_i c ns xs hm
  split at h
  case isFalse => cases h
  rename_i hc
  obtain ⟨ad, rfl, hn⟩ := r
  obtain ⟨dx, vs, h1, h2, h3⟩ := g.cell n _ ad hm hn
  obtain ⟨v, h4, h5⟩ := fget_get h h3 h2
  exact ⟨n, ad, c, ns, xs, dx, vs, v, rfl, rfl, hn, hm, by simpa using hc, h1, h2, h3, h4, h5⟩
theorem ev_fld (hf : FldOk X G f cs) (ha : EvE X G W a fa) (hb : baseOk a = true) : EvE X G W (.Attribute a f pos) (fun ρ m => (fa ρ m).bind fun d m1 => R.of (fldD cs d f m1) m1) := by
  refine PE.imp (pe_fld ha (base_of hb)) fun σ H Q ⟨ρ, m, μ, τ, g, s, h⟩ => ?_
  refine ⟨ρ, m, μ, τ, g, s, (Pst.bind (RP := RD G τ) h).imp fun x H1 ⟨d, m1, μ1, n1, g1, r1, h1⟩ => ?_⟩
  cases hd : fldD cs d f m1 with
  | none => rw [hd] at h1; exact h1.elim
  | some y =>
    rw [hd] at h1
    obtain ⟨n, ad, c, ns, xs, dx, vs, v, rfl, rfl, e1, e2, e3, e4, e5, e6, e7, e8⟩ := ins_inv g1 r1 hd
    exact ⟨ad, _, dx, _, v, rfl, e4, (hf c e3).1, (hf c e3).2, e7, Pst.here h1 g1 e8⟩
theorem fset_inv {d : D} {x : V} {y : D} {v : V} {m' : Mem} (g : Good G μ τ m H) (r : Rep G μ τ H d x) (ry : Rep G μ τ H y v) (h : fsetD cs d f y m = some m') : ∃ (a : Addr) (c : Nat) (ns : List Str) (dx : Addr) (vs : List V), x = .ref a ∧ c ∈ cs ∧ H a = some (.ins (G.cl c) dx (ns.zip vs)) ∧ (ns.zip vs).length < 1000 ∧
    Nxt μ τ H μ τ (upd H a (.ins (G.cl c) dx (putF f v (ns.zip vs)))) ∧ Good G μ τ m' (upd H a (.ins (G.cl c) dx (putF f v (ns.zip vs)))) := by
  unfold fsetD at h
  split at h
  case h_2 => cases h
  rename_i n
  split at h
  case h_2 => cases h
  rename_i c ns xs hm
  split at h
  case isFalse => cases h
  rename_i hc
  cases h
  obtain ⟨ad, rfl, hn⟩ := r
  obtain ⟨dx, vs, h1, h2, h3⟩ := g.cell n _ ad hm hn
  have nx := Nxt.write (o := .ins (G.cl c) dx (putF f v (ns.zip vs))) g hn
  refine ⟨ad, c, ns, dx, vs, rfl, by simpa using hc.1, h1, ?_, nx, g.write hn ?_⟩
  · rw [List.length_zip, ← h2, Nat.min_self]; omega
  · obtain ⟨ws, k1, k2, k3⟩ := fput_zip (G := G) (μ := μ) (τ := τ) (H := upd H ad (.ins (G.cl c) dx (putF f v (ns.zip vs)))) (f := f) (ns := ns) (vs := vs) v h2
    refine ⟨dx, ws, ?_, k2, k3 xs y (h3.nxt nx fun _ => g.mut) (ry.nxt nx fun _ => g.mut)⟩
    rw [upd_same, k1]
theorem st_setf {p : Pos} (hf : FldOk X G f cs) (he : EvE X G W e fc) (ha : EvE X G W a fa) :
    EvSt X G W (.Assign [.Attribute a f p] e pos) (fun ρ m => (fc ρ m).go ρ fun y m1 => (fa ρ m1).go ρ fun d m2 => O.ofM (fsetD cs d f y m2) fun m3 => .nx ρ m3) := by
  have hsw : swapsWith e (some (.Attribute a f p)) pos.line X.env = pure false := by cases e <;> rfl
  refine PS.imp (ps_fld ha he hsw) fun D σ H h => ?_
  obtain ⟨ρ, m, μ, τ, g, s, h⟩ := h
  refine ⟨ρ, m, μ, τ, g, s, (go_inv (RP := RD G τ) g s h).imp fun y H1 ⟨d1, m1, μ1, n1, g1, r1, h1⟩ => ?_⟩
  have s1 := s.nxt g n1
  refine ⟨ρ, m1, μ1, τ, g1, s1, (go_inv (RP := RD G τ) g1 s1 h1).imp fun x H2 ⟨d2, m2, μ2, n2, g2, r2, h2⟩ => ?_⟩
  have s2 := s1.nxt g1 n2
  obtain ⟨m3, e3, h3⟩ := ofM_inv h2
  obtain ⟨ad, c, ns, dx, vs, rfl, k1, k2, k3, k4, k5⟩ := fset_inv g2 r2 (r1.next n2 g1) e3
  exact ⟨ad, _, dx, _, rfl, k2, (hf c k1).1, (hf c k1).2, k3, h3 σ _ μ2 k4 k5 (s2.nxt g2 k4)⟩
theorem st_augf {p : Pos} {c0 : Nat} (hcs : cs = [c0]) (hf : FldOk X G f cs) (ha : EvE X G W a fa) (he : EvE X G W e fc) :
    EvSt X G W (.AugAssign (.Attribute a f p) .Add e pos) (fun ρ m => (fa ρ m).go ρ fun d m1 => match fldD cs d f m1 with
    | some (.int x) => (fc ρ m1).go ρ fun y m2 => match y with
      | .int b => O.ofM (fsetD cs d f (.int (x + b)) m2) fun m3 => .nx ρ m3
      | _ => .bad
    | _ => .bad) := by
  refine PS.imp (ps_fldaug ha he in_add) fun D σ H h => ?_
  obtain ⟨ρ, m, μ, τ, g, s, h⟩ := h
  refine ⟨ρ, m, μ, τ, g, s, (go_inv (RP := RD G τ) g s h).imp fun o H1 ⟨d1, m1, μ1, n1, g1, r1, h1⟩ => ?_⟩
  have s1 := s.nxt g n1
  split at h1
  case h_2 => exact h1.elim
  rename_i x hd
  obtain ⟨n, ad, c, ns, xs, dx, vs, v, rfl, rfl, e1, e2, e3, e4, e5, e6, e7, e8⟩ := ins_inv g1 r1 hd
  refine ⟨ad, _, dx, _, v, rfl, e4, (hf c e3).1, (hf c e3).2, e7, ρ, m1, μ1, τ, g1, s1, (go_inv (RP := RD G τ) g1 s1 h1).imp fun y H2 ⟨d2, m2, μ2, n2, g2, r2, h2⟩ => ?_⟩
  have s2 := s1.nxt g1 n2
  cases d2 with
  | int b =>
    cases (show v = _ from e8)
    cases (show y = _ from r2)
    refine ⟨x, b, rfl, rfl, ?_⟩
    obtain ⟨m3, q3, h3⟩ := ofM_inv h2
    have r1' : Rep G μ2 τ H2 (.ref n) (.ref ad) := ⟨ad, rfl, n2.pre n ad e1⟩
    obtain ⟨ad', c', ns', dx', vs', z, k1, k2, k3, k4, k5⟩ := fset_inv (v := .int (x + b)) g2 r1' (show Rep G μ2 τ H2 (.int (x + b)) (.int (x + b)) from rfl) q3
    cases z
    have q1 : c = c0 := by rw [hcs] at e3; simpa using e3
    have q2 : c' = c0 := by rw [hcs] at k1; simpa using k1
    obtain rfl : c' = c := q2.trans q1.symm
    exact ⟨dx', _, k2, k3, h3 σ _ μ2 k4 k5 (s2.nxt g2 k4)⟩
  | _ => exact h2.elim
/-! ### methods and instances -/
section
variable {C : Nat → List D → Mem → R D} {es : List Expr} {fs : Rho → Mem → R (List D)} {x : Str} {p apos : Pos} {c j : Nat} {g : Addr} {fd : FuncData} {ps : List Str} {k : List D → Mem → R D}
theorem ins_is {d : D} {v : V} (gd : Good G μ τ m H) (r : Rep G μ τ H d v) (h : isIns c x d m = true) : ∃ a dx ns vs, v = .ref a ∧ H a = some (.ins (G.cl c) dx (ns.zip vs)) ∧ (List.zip ns vs).lookup x = none := by
  unfold isIns at h
  split at h
  case h_2 => cases h
  rename_i n
  split at h
  case h_2 => cases h
  rename_i c' ns xs hm
  simp only [Bool.and_eq_true, decide_eq_true_eq, Bool.not_eq_true'] at h
  obtain ⟨rfl, h2⟩ := h
  obtain ⟨ad, rfl, hn⟩ := r
  obtain ⟨dx, vs, h3, h4, h5⟩ := gd.cell n _ ad hm hn
  refine ⟨ad, dx, ns, vs, rfl, h3, ?_⟩
  clear h3 h5 hm
  induction ns generalizing vs with
  | nil => rfl
  | cons y ns ih =>
    cases vs with
    | nil => rfl
    | cons v vs =>
      rw [List.contains_cons] at h2
      rw [List.zip_cons_cons, List.lookup_cons]
      rw [Bool.or_eq_false_iff] at h2
      rw [show (x == y) = false from h2.1]
      exact ih h2.2 vs (by simpa using h4)
/-- a method's call, exceptions going on by the slots -/
theorem pe_mthS {CX : CXT} {E : L2.St → XK} {o : Expr} {ta : TE} {t : TA} {sp : Sp} {Ca : Addr} {pl : Sem Bool} (he : PE X o ta) (cl : Cls X.K Ca) (hm : Meth X.K Ca x g) (F : FnOk X.prog X.w X.K X.mg X.base CX j g fd ps sp) (hr : Room j X.A) (hb : Binds X.K fd ps [])
    (hx : ∀ σ, PassesAt CX X σ (E σ)) (ha : PA X (e :: es) t) (hst : (e :: es).all noStar = true)
    (ht : eval (.Call (.Attribute o x apos) (e :: es) [] pos) X.env = (do
      let ov ← eval o X.env
      standAt apos.atName
      let (f, first) ← holding [ov] (getMethod ov x pl)
      callWith pos f first (backTo pos (starEach (e :: es) X.env)) (backToKw pos (keywordEach [] X.env)))) :
    PE X (.Call (.Attribute o x apos) (e :: es) [] pos) (fun σ H Q => ta σ H fun v H1 => ∃ a dx fs, v = .ref a ∧ H1 a = some (.ins Ca dx fs) ∧ fs.lookup x = none ∧ t σ H1 fun vs H2 => sp (v :: vs) H2 Q (E σ)) := by
  refine ⟨fun pins s σ H Q I h => ?_⟩
  refine PySem.W.methodCall_KW (pl := pl) (thn (he.run pins s σ H _ I h) fun u s1 ⟨v, H1, I1, rx, a, dx, fs, ex, ea, l, q⟩ => ?_) ht
  subst ex
  obtain rfl : u = Value.ref a := rx
  refine getmeth_ok I1 ea cl hm l ?_
  rw [List.all_cons, Bool.and_eq_true] at hst
  refine PySem.W.callWith_K (first := [.ref a]) (h₀ := X.base) I1.ok.mod.kin hm.kp (thn (ha.run pos pins s1 σ H1 _ I1 q) fun us s2 ⟨vs, H2, I2, r, q2⟩ => ⟨I2.kIn, ?_⟩) (star_cons hst.1) (plain_args hst.2)
  exact run_fnS (us := .ref a :: us) (vs := .ref a :: vs) F hr hb (hx σ) I2 (.cons rfl r) q2
theorem pe_mthS0 {CX : CXT} {E : L2.St → XK} {o : Expr} {ta : TE} {sp : Sp} {Ca : Addr} {pl : Sem Bool} (he : PE X o ta) (cl : Cls X.K Ca) (hm : Meth X.K Ca x g) (F : FnOk X.prog X.w X.K X.mg X.base CX j g fd ps sp) (hr : Room j X.A) (hb : Binds X.K fd ps [])
    (hx : ∀ σ, PassesAt CX X σ (E σ))
    (ht : eval (.Call (.Attribute o x apos) [] [] pos) X.env = (do
      let ov ← eval o X.env
      standAt apos.atName
      let (f, first) ← holding [ov] (getMethod ov x pl)
      callWith pos f first (backTo pos (starEach [] X.env)) (backToKw pos (keywordEach [] X.env)))) :
    PE X (.Call (.Attribute o x apos) [] [] pos) (fun σ H Q => ta σ H fun v H1 => ∃ a dx fs, v = .ref a ∧ H1 a = some (.ins Ca dx fs) ∧ fs.lookup x = none ∧ sp [v] H1 Q (E σ)) := by
  refine ⟨fun pins s σ H Q I h => ?_⟩
  refine PySem.W.methodCall_KW (pl := pl) (thn (he.run pins s σ H _ I h) fun u s1 ⟨v, H1, I1, rx, a, dx, fs, ex, ea, l, q⟩ => ?_) ht
  subst ex
  obtain rfl : u = Value.ref a := rx
  refine getmeth_ok I1 ea cl hm l ?_
  exact PySem.W.callWith_K0 (first := [.ref a]) I1.kIn hm.kp (run_fnS (us := [.ref a]) (vs := [.ref a]) F hr hb (hx σ) I1 (.cons rfl .nil) q)
/-- what is behind a call by a promise -/
theorem sp_of {μ' : List Addr} {m' : Mem} {H' : Hp} {ds : List D} {vs : List V} {Q : VK} (gd : Good G μ' τ m' H') (rs : Reps G μ' τ H' ds vs) (h : Pst G W σ μ' τ H' (RD G τ) (k ds m') Q) : spD G k vs H' Q (WE W σ) := by
  refine ⟨ds, m', μ', τ, gd, rs, ?_⟩
  cases hk : k ds m' with
  | bad => rw [hk] at h; exact h
  | ok d m2 => rw [hk] at h; exact h
  | ex x p m2 => rw [hk] at h; exact h
theorem ev_mth (F : FnOk X.prog X.w X.K X.mg X.base (CX X.prog X.w) j g fd ps (spD G k)) (cl : Cls X.K (G.cl c)) (hm : Meth X.K (G.cl c) x g) (hr : Room j X.A) (hb : Binds X.K fd ps []) (tk : Takes X W) (ho : EvE X G W a fa) (ha : EvA X G W (e :: es) fs)
    (hbs : baseOk a = true) (hst : (e :: es).all noStar = true) (hl : (e :: es).length < 20) (hln : (apos.endLine == pos.line) = true) :
    EvE X G W (.Call (.Attribute a x apos) (e :: es) [] pos) (fun ρ m => (fa ρ m).bind fun d m1 => if isIns c x d m1 then (fs ρ m1).bind fun ds m2 => k (d :: ds) m2 else .bad) := by
  refine PE.imp (pe_mthS (pl := _) ho cl hm F hr hb (fun σ => passAt tk σ) ha hst (call_meth_eq hbs hst hl hln)) fun σ H Q ⟨ρ, m, μ, τ, gd, sl, h⟩ => ?_
  refine ⟨ρ, m, μ, τ, gd, sl, (Pst.bind (RP := RD G τ) h).imp fun v H1 ⟨d, m1, μ1, n1, g1, r1, h1⟩ => ?_⟩
  split at h1
  case isFalse => exact h1.elim
  rename_i hi
  obtain ⟨ad, dx, ns, vs, rfl, z1, z2⟩ := ins_is g1 r1 hi
  refine ⟨ad, dx, _, rfl, z1, z2, ρ, m1, μ1, τ, g1, sl.nxt gd n1, (Pst.bind (RP := RL G τ) h1).imp fun us H2 ⟨ds, m2, μ2, n2, g2, r2, h2⟩ => ?_⟩
  exact sp_of g2 (.cons (r1.next n2 g1) r2) h2
theorem ev_mth0 (F : FnOk X.prog X.w X.K X.mg X.base (CX X.prog X.w) j g fd ps (spD G k)) (cl : Cls X.K (G.cl c)) (hm : Meth X.K (G.cl c) x g) (hr : Room j X.A) (hb : Binds X.K fd ps []) (tk : Takes X W) (ho : EvE X G W a fa)
    (hbs : baseOk a = true) (hln : (apos.endLine == pos.line) = true) :
    EvE X G W (.Call (.Attribute a x apos) [] [] pos) (fun ρ m => (fa ρ m).bind fun d m1 => if isIns c x d m1 then k [d] m1 else .bad) := by
  refine PE.imp (pe_mthS0 (pl := _) ho cl hm F hr hb (fun σ => passAt tk σ) (call_meth_eq hbs rfl (by decide) hln)) fun σ H Q ⟨ρ, m, μ, τ, gd, sl, h⟩ => ?_
  refine ⟨ρ, m, μ, τ, gd, sl, (Pst.bind (RP := RD G τ) h).imp fun v H1 ⟨d, m1, μ1, n1, g1, r1, h1⟩ => ?_⟩
  split at h1
  case isFalse => exact h1.elim
  rename_i hi
  obtain ⟨ad, dx, ns, vs, rfl, z1, z2⟩ := ins_is g1 r1 hi
  exact ⟨ad, dx, _, rfl, z1, z2, sp_of g1 (.cons r1 .nil) h1⟩
theorem no_pass : Passes (CX X.prog X.w) X (fun _ _ _ => False) := fun pins σ H s e s' I h => by
  obtain ⟨_, _, _, _, _, _, _, _, _, _, _, _, z⟩ := h
  exact z.elim
/-- a new instance as a cell -/
theorem made {μ1 : List Addr} {m1 : Mem} {H1 : Hp} {ax dx : Addr} (g1 : Good G μ1 τ m1 H1) (hx : H1 ax = none) (hd : H1 dx = none) (ne : dx ≠ ax) :
    Nxt μ1 τ H1 (μ1 ++ [ax]) τ (upd (upd H1 dx (.own ax)) ax (.ins (G.cl c) dx [])) ∧ Good G (μ1 ++ [ax]) τ (m1 ++ [.ins c [] []]) (upd (upd H1 dx (.own ax)) ax (.ins (G.cl c) dx [])) := by
  have n1 : Nxt μ1 τ H1 μ1 τ (upd H1 dx (.own ax)) := (Nxt.laid hd).free
  have gd1 : Good G μ1 τ m1 (upd H1 dx (.own ax)) := (g1.laid hd).free
  have hx1 : upd H1 dx (.own ax) ax = none := by rw [upd_ne (fun z => ne z.symm)]; exact hx
  have n2 : Nxt μ1 τ (upd H1 dx (.own ax)) μ1 (ax :: τ) (upd (upd H1 dx (.own ax)) ax (.ins (G.cl c) dx [])) := Nxt.laid hx1
  have gd2 : Good G μ1 (ax :: τ) m1 (upd (upd H1 dx (.own ax)) ax (.ins (G.cl c) dx [])) := gd1.laid hx1
  exact ⟨(n1.trans n2).track hx, gd2.track ⟨dx, [], upd_same, rfl, rfl⟩ fun z => (g1.dis ax z).2 hx⟩
theorem ev_mk {k : List D → Mem → R D} (M : Mk X.K (G.cl c) g) (F : FnOk X.prog X.w X.K X.mg X.base (CX X.prog X.w) j g fd ps (spD G k)) (hr : Room (j + 1) X.A) (hg : Gl X x) (hm : X.mg x = some (.ref (G.cl c))) (hb : Binds X.K fd ps []) (tk : Takes X W) (ha : EvA X G W (e :: es) fs)
    (hdb : (x == ("__debug__" : Str)) = false) (hst : (e :: es).all noStar = true) :
    EvE X G W (.Call (.Name x p) (e :: es) [] pos) (fun ρ m => (fs ρ m).bind fun ds m1 => (calmR (k (.ref m1.length :: ds) (m1 ++ [.ins c [] []]))).bind fun d m2 => match d with
      | .non => .ok (.ref m1.length) m2
      | _ => .bad) := by
  rw [List.all_cons, Bool.and_eq_true] at hst
  refine PE.imp (pe_make (dvs := []) (ds := []) (E := fun _ _ _ => False) M F hr hg hm hb .nil no_pass ha hdb (star_cons hst.1) (plain_args hst.2)) fun σ H Q ⟨ρ, m, μ, τ, gd, sl, h⟩ => ?_
  refine ⟨ρ, m, μ, τ, gd, sl, (Pst.bind (RP := RL G τ) h).imp fun vs H1 ⟨ds, m1, μ1, n1, g1, r1, h1⟩ => ?_⟩
  intro ax dx hx hd ne
  obtain ⟨nx, gd2⟩ := made (c := c) g1 hx hd ne
  rw [List.append_nil]
  refine ⟨.ref m1.length :: ds, m1 ++ [.ins c [] []], μ1 ++ [ax], τ, gd2, .cons ⟨ax, rfl, ?_⟩ (r1.nxt nx fun _ => g1.mut), ?_⟩
  · rw [← g1.len]; simp
  cases hk : k (.ref m1.length :: ds) (m1 ++ [.ins c [] []]) with
  | bad => rw [hk] at h1; exact h1.elim
  | ex y py m2 =>
    rw [hk] at h1
    exact h1.elim
  | ok d m2 =>
    rw [hk] at h1
    intro v H2 μ2 n2 g2 r2
    cases d with
    | non =>
      refine ⟨r2, h1 (.ref ax) H2 μ2 (nx.trans n2) g2 ⟨ax, rfl, ?_⟩⟩
      refine n2.pre _ _ ?_
      rw [← g1.len]; simp
    | _ => exact h1.elim
end
end
end EV

/-! a.pop(), d.get(k, x), d.pop(k). -/
namespace EV
open PySem PySem.Spec PyProof.Rows L2
section
variable {X : Cx} {G : Gw} {W : WX} {σ : L2.St} {μ τ : List Addr} {H : Hp} {m : Mem} {a e f : Expr} {fa fc fx : Rho → Mem → R D} {apos pos : Pos}
theorem Reps.dropLast : ∀ {ds : List D} {vs : List V}, Reps G μ τ H ds vs → Reps G μ τ H ds.dropLast vs.dropLast
  | [], _, r => by cases (show _ = [] from r); rfl
  | [d], _, r => by
    obtain ⟨v, r', rfl, _, rs⟩ := r
    cases (show r' = [] from rs); rfl
  | d :: e :: ds, _, r => by
    obtain ⟨v, r', rfl, r1, rs⟩ := r
    have h := Reps.dropLast rs
    obtain ⟨v', r'', e', r1', rs'⟩ := rs
    subst e'
    exact .cons r1 h
theorem ev_pop (ha : EvE X G W a fa) (hb : baseOk a = true) (hln : (apos.endLine == pos.line) = true) : EvE X G W (.Call (.Attribute a "pop" apos) [] [] pos) (fun ρ m => (fa ρ m).bind popD) := by
  refine PE.imp (pe_bm0 PySem.F.plainAttrs_list PySem.F.slot_list_pop PySem.F.type_list_pop mt_pop ha (base_of hb) hln) fun σ H Q ⟨ρ, m, μ, τ, g, s, h⟩ => ?_
  refine ⟨ρ, m, μ, τ, g, s, (Pst.bind (RP := RD G τ) h).imp fun x H1 ⟨d, m1, μ1, n1, g1, r1, h1⟩ => ?_⟩
  unfold popD at h1
  split at h1
  case h_2 => exact h1.elim
  rename_i n
  split at h1
  case h_2 => exact h1.elim
  rename_i xs hm
  split at h1
  case h_2 => exact h1.elim
  rename_i y hy
  obtain ⟨ad, rfl, hn⟩ := r1
  obtain ⟨vs, e1, e2⟩ := g1.cell n _ ad hm hn
  obtain ⟨v, hv, rv⟩ := e2.get hy
  have nx := Nxt.write (o := .lst vs.dropLast) g1 hn
  refine ⟨.inl ⟨rfl, vs, .inl (.inl e1)⟩, ad, vs, v, rfl, rfl, e1, by rw [e2.length]; exact hv, ?_⟩
  exact h1 v _ μ1 nx (g1.write hn ⟨_, upd_same, (e2.nxt nx fun _ => g1.mut).dropLast⟩) (rv.nxt nx fun _ => g1.mut)
theorem isD_of {d : D} {x : V} (g : Good G μ τ m H) (r : Rep G μ τ H d x) (h : isDic d m = true) : ∃ ad, x = .ref ad ∧ IsD H ad := by
  obtain ⟨p, hp⟩ := Option.isSome_iff_exists.mp h
  obtain ⟨ad, vs, rfl, e, _, _⟩ := dic_inv g r hp
  exact ⟨ad, rfl, .inl ⟨_, .inl e⟩⟩
theorem few1 {cpos : Pos} (h : noStar e = true) : ((backTo cpos (starEach [e] X.env)).all (fun x => !x.1) && (backToKw cpos (keywordEach [] X.env)).all (fun x => x.1.isSome)
    && decide (([e] : List Expr).length + ([] : List Keyword).length + (if ([] : List Keyword).isEmpty then 0 else 1) < 30)) = true := by
  rw [star_cons h]; rfl
theorem m1_mk {x : Str} (hb : baseOk a = true) (h : noStar e = true) (hln : (apos.endLine == pos.line) = true) : M1 X a x apos e pos := ⟨base_of hb, few1 h, hln, by rw [star_cons h]; rfl⟩
theorem m2_mk {x : Str} (hb : baseOk a = true) (h : noStar e = true) (h2 : noStar f = true) (hln : (apos.endLine == pos.line) = true) : M2 X a x apos e f pos := by
  refine ⟨base_of hb, ?_, hln, ?_⟩
  · rw [star_cons h, star_cons h2]; rfl
  · rw [star_cons h, star_cons h2]; rfl
theorem ev_dget (hu : X.A.units + 64 < cLine) (ha : EvE X G W a fa) (he : EvE X G W e fc) (hf : EvE X G W f fx) (hb : baseOk a = true) (h1 : noStar e = true) (h2 : noStar f = true) (hln : (apos.endLine == pos.line) = true) :
    EvE X G W (.Call (.Attribute a "get" apos) [e, f] [] pos) (fun ρ m => (fa ρ m).bind fun d m1 => if isDic d m1 then (fc ρ m1).bind fun q m2 => (fx ρ m2).bind fun y m3 => dgetD d q y m3 else .bad) := by
  refine PE.imp (pe_dget2 (by omega) ha he hf (m2_mk hb h1 h2 hln)) fun σ H Q ⟨ρ, m, μ, τ, g, s, h⟩ => ?_
  refine ⟨ρ, m, μ, τ, g, s, (Pst.bind (RP := RD G τ) h).imp fun x H1 ⟨d, m1, μ1, n1, g1, r1, z1⟩ => ?_⟩
  split at z1
  case isFalse => exact z1.elim
  rename_i hd
  obtain ⟨ad, rfl, i1⟩ := isD_of g1 r1 hd
  have s1 := s.nxt g n1
  refine ⟨ad, rfl, i1, ρ, m1, μ1, τ, g1, s1, (Pst.bind (RP := RD G τ) z1).imp fun y H2 ⟨q, m2, μ2, n2, g2, r2, z2⟩ => ?_⟩
  refine ⟨ρ, m2, μ2, τ, g2, s1.nxt g1 n2, (Pst.bind (RP := RD G τ) z2).imp fun z H3 ⟨w, m3, μ3, n3, g3, r3, z3⟩ => ?_⟩
  unfold dgetD at z3
  split at z3
  case h_2 => exact z3.elim
  rename_i ks xs hk
  split at z3
  case h_2 => exact z3.elim
  rename_i qk hq
  have r1' := (r1.next n2 g1).next n3 g2
  obtain ⟨ad', vs, e0, e1, e2, e3⟩ := dic_inv g3 r1' hk
  cases e0
  cases key_V (r2.next n3 g2) hq
  refine ⟨_, DGet.k e1, ?_⟩
  cases hg : dget ks xs qk with
  | none =>
    rw [hg] at z3
    rw [get_none qk ks xs vs e2 e3 hg]
    exact Pst.here z3 g3 r3
  | some y' =>
    rw [hg] at z3
    obtain ⟨v, hv, rv⟩ := get_key qk ks xs vs e3 hg
    rw [hv]
    exact Pst.here z3 g3 rv
theorem del_zip (q : Key) : ∀ {ks : List Key} {vs : List V}, ks.length = vs.length → dropK (ks.zip vs) q = (delK ks q).zip (delX ks vs q) ∧ (delK ks q).length = (delX ks vs q).length ∧ ∀ xs, Reps G μ τ H xs vs → Reps G μ τ H (delX ks xs q) (delX ks vs q)
  | [], [], _ => ⟨rfl, rfl, fun xs r => by cases xs <;> exact rfl⟩
  | [], _ :: _, h => by simp at h
  | _ :: _, [], h => by simp at h
  | k :: ks, v :: vs, h => by
    obtain ⟨h1, h2, h3⟩ := del_zip q (ks := ks) (vs := vs) (by simpa using h)
    by_cases e : k = q
    · refine ⟨?_, ?_, fun xs r => ?_⟩
      · unfold delK delX
        rw [if_pos e, if_pos e, ← h1]
        unfold dropK
        rw [List.zip_cons_cons, List.filter_cons, if_neg (by simp [e])]
      · unfold delK delX
        rw [if_pos e, if_pos e]; exact h2
      · cases xs with
        | nil => cases (show _ = [] from r)
        | cons x xs =>
          obtain ⟨v', r', z, r1, rs⟩ := r
          cases z
          unfold delX
          rw [if_pos e, if_pos e]
          exact h3 xs rs
    · refine ⟨?_, ?_, fun xs r => ?_⟩
      · unfold delK delX
        rw [if_neg e, if_neg e, List.zip_cons_cons, List.zip_cons_cons, ← h1]
        unfold dropK
        rw [List.filter_cons, if_pos (by simp [e])]
      · unfold delK delX
        rw [if_neg e, if_neg e, List.length_cons, List.length_cons, h2]
      · cases xs with
        | nil => cases (show _ = [] from r)
        | cons x xs =>
          obtain ⟨v', r', z, r1, rs⟩ := r
          cases z
          unfold delX
          rw [if_neg e, if_neg e]
          exact .cons r1 (h3 xs rs)
theorem ev_dpop (ha : EvE X G W a fa) (he : EvE X G W e fc) (hb : baseOk a = true) (h1 : noStar e = true) (hln : (apos.endLine == pos.line) = true) :
    EvE X G W (.Call (.Attribute a "pop" apos) [e] [] pos) (fun ρ m => (fa ρ m).bind fun d m1 => if isDic d m1 then (fc ρ m1).bind fun q m2 => dpopD d q m2 else .bad) := by
  refine PE.imp (pe_dpop1 ha he (m1_mk hb h1 hln)) fun σ H Q ⟨ρ, m, μ, τ, g, s, h⟩ => ?_
  refine ⟨ρ, m, μ, τ, g, s, (Pst.bind (RP := RD G τ) h).imp fun x H1 ⟨d, m1, μ1, n1, g1, r1, z1⟩ => ?_⟩
  split at z1
  case isFalse => exact z1.elim
  rename_i hd
  obtain ⟨ad, rfl, i1⟩ := isD_of g1 r1 hd
  have s1 := s.nxt g n1
  refine ⟨ad, rfl, i1, ρ, m1, μ1, τ, g1, s1, (Pst.bind (RP := RD G τ) z1).imp fun y H2 ⟨q, m2, μ2, n2, g2, r2, z2⟩ => ?_⟩
  have r1' := r1.next n2 g1
  unfold dpopD at z2
  split at z2
  case h_2 => exact z2.elim
  rename_i n _
  split at z2
  case h_2 => exact z2.elim
  rename_i ks xs hm
  split at z2
  case h_2 => exact z2.elim
  rename_i qk hq
  split at z2
  case h_2 => exact z2.elim
  rename_i y' hy
  obtain ⟨ad', e0, hn⟩ := r1'
  cases e0
  obtain ⟨vs, e1, e2, e3⟩ := g2.cell n _ ad hm hn
  cases key_V r2 hq
  obtain ⟨v, hv, rv⟩ := get_key qk ks xs vs e3 hy
  have nx := Nxt.write (o := .dK (dropK (ks.zip vs) qk)) g2 hn
  obtain ⟨k1, k2, k3⟩ := del_zip (G := G) (μ := μ2) (τ := τ) (H := upd H2 ad (.dK (dropK (ks.zip vs) qk))) qk e2
  refine ⟨_, qk, v, e1, rfl, hv, ?_⟩
  refine z2 v _ μ2 nx (g2.write hn ⟨_, ?_, k2, k3 xs (e3.nxt nx fun _ => g2.mut)⟩) (rv.nxt nx fun _ => g2.mut)
  rw [upd_same, k1]
end
end EV

/-! Dict comprehensions. -/
namespace EV
open PySem PySem.Spec PyProof.Rows L2
section
variable {X : Cx} {G : Gw} {W : WX}
theorem dc_in {fi : Rho → Mem → R (List D × Option (Nat × List D))} {cd : Rho → Mem → R Bool} {ek ev : Rho → Mem → R D} {t : Tg} {vs : List Nat} (hv : ∀ i ∈ tgI t, i ∈ vs) {σ : L2.St} {H : Hp} {Q : VK}
    (h : rdF G W (fun ρ m => (fi ρ m).bind fun xs m1 => if lim < xs.1.length then .bad else dcpL xs.2 (tgD t) (fun ρ' m => calmR (cd ρ' m)) (fun ρ' m => calmR (ek ρ' m)) (fun ρ' m => calmR (ev ρ' m)) (wipeR ρ vs) xs.1 [] [] m1) σ H Q) :
    tDc (rdI G W fi) (rdG G t) (rdT G W0 cd) (rdE G W0 ek) (rdE G W0 ev) vs σ H Q := by
  obtain ⟨ρ, m, μ, τ, g, s, h⟩ := h
  refine ⟨ρ, m, μ, τ, g, s, (PstF.bind (RP := fun μ H p J => Walk G μ τ H p J) g h).imp fun J H1 ⟨xs, m1, μ1, n1, g1, wk, h1⟩ => fun Dd hD => ?_⟩
  obtain ⟨xs, qq⟩ := xs
  dsimp only at h1
  by_cases hlim : lim < xs.length
  · rw [if_pos hlim] at h1; exact False.elim h1
  rw [if_neg hlim] at h1
  refine ⟨fun i k H2 => k = xs.length - i ∧ i ≤ xs.length ∧ ∃ ks acc m2 μ2 ws, List.length ks ≤ i ∧ List.length ks = List.length ws ∧ Nxt μ1 τ H1 μ2 (Dd :: τ) H2 ∧ H2 Dd = some (.dK (List.zip ks ws)) ∧ Good G μ2 (Dd :: τ) m2 H2 ∧ Reps G μ2 (Dd :: τ) H2 acc ws ∧
    PstF G W σ μ1 τ H1 (dcpL qq (tgD t) (fun ρ' m => calmR (cd ρ' m)) (fun ρ' m => calmR (ek ρ' m)) (fun ρ' m => calmR (ev ρ' m)) (wipeR ρ vs) (xs.drop i) ks acc m2) Q, ⟨xs.length, by simp, Nat.zero_le _, [], [], m1, μ1, [], Nat.le_refl _, rfl, Nxt.laid hD, upd_same, g1.laid hD, rfl, by rw [List.drop_zero]; exact h1⟩, ?_⟩
  rintro i k H2 ⟨rfl, hi, ks, acc, m2, μ2, ws, hacc, hkl, n2, hw, g2, r2, h2⟩
  by_cases hlt : i < xs.length
  · rw [List.drop_eq_getElem_cons hlt] at h2
    unfold dcpL at h2
    by_cases ck : ckD qq m2 = true
    case neg => rw [if_neg ck] at h2; exact False.elim h2
    rw [if_pos ck] at h2
    cases htg : tgD t xs[i] (wipeR ρ vs) with
    | none => rw [htg] at h2; exact False.elim h2
    | some ρ' =>
      rw [htg] at h2
      dsimp only at h2
      have wk2 := (wk μ2 (Dd :: τ) H2 m2 n2 g2 ck).1 i xs[i] (by simp [hlt])
      refine .inr ⟨wk2.1, fun H3 => ∃ ks acc m3 μ3 ws, List.length ks ≤ i + 1 ∧ List.length ks = List.length ws ∧ Nxt μ1 τ H1 μ3 (Dd :: τ) H3 ∧ H3 Dd = some (.dK (List.zip ks ws)) ∧ Good G μ3 (Dd :: τ) m3 H3 ∧ Reps G μ3 (Dd :: τ) H3 acc ws ∧
        PstF G W σ μ1 τ H1 (dcpL qq (tgD t) (fun ρ' m => calmR (cd ρ' m)) (fun ρ' m => calmR (ek ρ' m)) (fun ρ' m => calmR (ev ρ' m)) (wipeR ρ vs) (xs.drop (i + 1)) ks acc m3) Q, fun H' q' => ⟨xs.length - (i + 1), by omega, rfl, hlt, q'⟩, fun x H3 y => ?_⟩
      obtain ⟨n3, g3, r3⟩ := wk2.2 x H3 y
      have n13 := n2.trans n3
      have s3 : Slots G μ2 (Dd :: τ) H3 ρ σ := (s.nxt g n1).nxt g1 n13
      refine ⟨xs[i], wipeR ρ vs, ρ', m2, μ2, Dd :: τ, g3, s3.wipe vs, r3, htg, fun σ2 s4 k2 => ⟨wipe_eq ?_ fun j hj => k2 j fun z => hj (hv j z), ?_⟩⟩
      · have l1 := s4.len
        have l2 := s3.len
        have l3 : ρ'.length = (wipeR ρ vs).length := by
          have := s4.1
          exact tgD_len htg
        rw [l1, l3, wipeR_len, l2]
      · have nD : Dd ∉ μ2 := (g2.dis Dd List.mem_cons_self).1
        refine ⟨ρ', m2, μ2, Dd :: τ, g3, s4, ?_⟩
        cases hc : cd ρ' m2 with
        | bad => rw [hc] at h2; exact False.elim h2
        | ex x p m3 => rw [hc] at h2; exact False.elim h2
        | ok b m3 =>
          rw [hc] at h2
          have h2 : PstF G W σ μ1 τ H1 (if b then (calmR (ek ρ' m3)).bind fun y m2 => (calmR (ev ρ' m2)).bind fun z m3 => (match keyD y with
              | some k => dcpL qq (tgD t) (fun ρ' m => calmR (cd ρ' m)) (fun ρ' m => calmR (ek ρ' m)) (fun ρ' m => calmR (ev ρ' m)) (wipeR ρ vs) (xs.drop (i + 1)) (dputK ks k) (dputX ks acc k z) m3
              | none => .bad) else dcpL qq (tgD t) (fun ρ' m => calmR (cd ρ' m)) (fun ρ' m => calmR (ek ρ' m)) (fun ρ' m => calmR (ev ρ' m)) (wipeR ρ vs) (xs.drop (i + 1)) ks acc m3) Q := h2
          intro b' H4 μ4 n4 g4 eb
          subst eb
          have w4 : H4 Dd = some (.dK (ks.zip ws)) := (n3.trans n4).keep Dd _ hw nD (fun ps z => by cases z)
          cases b with
          | false =>
            rw [if_neg Bool.false_ne_true] at h2 ⊢
            exact ⟨ks, acc, m3, μ4, ws, Nat.le_succ_of_le hacc, hkl, n13.trans n4, w4, g4, (r2.next n3 g2).next n4 g3, h2⟩
          | true =>
            rw [if_pos rfl] at h2 ⊢
            have s5 := s4.nxt g3 n4
            refine ⟨ρ', m3, μ4, Dd :: τ, g4, s5, ?_⟩
            cases he : ek ρ' m3 with
            | bad => rw [he] at h2; exact False.elim h2
            | ex x p m4 => rw [he] at h2; exact False.elim h2
            | ok y m4 =>
              rw [he] at h2
              have h2 : PstF G W σ μ1 τ H1 ((calmR (ev ρ' m4)).bind fun z m3 => (match keyD y with
                | some k => dcpL qq (tgD t) (fun ρ' m => calmR (cd ρ' m)) (fun ρ' m => calmR (ek ρ' m)) (fun ρ' m => calmR (ev ρ' m)) (wipeR ρ vs) (xs.drop (i + 1)) (dputK ks k) (dputX ks acc k z) m3
                | none => .bad)) Q := h2
              intro v H5 μ5 n5 g5 r5
              refine ⟨ρ', m4, μ5, Dd :: τ, g5, s5.nxt g4 n5, ?_⟩
              have nD4 : Dd ∉ μ4 := (g4.dis Dd List.mem_cons_self).1
              have w5 : H5 Dd = some (.dK (ks.zip ws)) := n5.keep Dd _ w4 nD4 (fun ps z => by cases z)
              have rs5 : Reps G μ5 (Dd :: τ) H5 acc ws := ((r2.next n3 g2).next n4 g3).next n5 g4
              cases he2 : ev ρ' m4 with
              | bad => rw [he2] at h2; exact False.elim h2
              | ex x p m5 => rw [he2] at h2; exact False.elim h2
              | ok z m5 =>
                rw [he2] at h2
                have h2 : PstF G W σ μ1 τ H1 (match keyD y with
                  | some k => dcpL qq (tgD t) (fun ρ' m => calmR (cd ρ' m)) (fun ρ' m => calmR (ek ρ' m)) (fun ρ' m => calmR (ev ρ' m)) (wipeR ρ vs) (xs.drop (i + 1)) (dputK ks k) (dputX ks acc k z) m5
                  | none => .bad) Q := h2
                intro u H6 μ6 n6 g6 r6
                have nD5 : Dd ∉ μ5 := (g5.dis Dd List.mem_cons_self).1
                have w6 : H6 Dd = some (.dK (ks.zip ws)) := n6.keep Dd _ w5 nD5 (fun ps z => by cases z)
                have rs6 : Reps G μ6 (Dd :: τ) H6 acc ws := rs5.next n6 g5
                cases hk : keyD y with
                | none => rw [hk] at h2; exact False.elim h2
                | some kk =>
                  rw [hk] at h2
                  cases key_V r5 hk
                  have res : EV.Res H6 (Dd :: τ) Dd := ⟨List.mem_cons_self, .inr ⟨_, w6⟩⟩
                  have lz : (ks.zip ws).length = ks.length := by rw [List.length_zip, hkl, Nat.min_self]
                  have hl2 : (dputK ks kk).length = (dputX ks ws kk u).length := dputX_len kk u hkl
                  refine ⟨ks.zip ws, kk, rfl, w6, ?_, dputK ks kk, dputX ks acc kk z, m5, μ6, dputX ks ws kk u, ?_, hl2, Nxt.rewrite List.mem_cons_self w6 (fun ps z => by cases z) (((n13.trans n4).trans n5).trans n6) hD, ?_, g6.rewr res, (Reps.dput r6 rs6).rewr res, h2⟩
                  · rw [lz, ← lim_eq]; omega
                  · have h3 := length_putK (ks.zip ws) kk u
                    rw [putK_zip (α := V) kk u ks ws hkl, List.length_zip, ← hl2, Nat.min_self, lz] at h3
                    omega
                  · rw [upd_same, putK_zip (α := V) kk u ks ws hkl]
  · have e : i = xs.length := by omega
    subst e
    rw [List.drop_length] at h2
    unfold dcpL at h2
    by_cases ck : ckD qq m2 = true
    case neg => rw [if_neg ck] at h2; exact False.elim h2
    rw [if_pos ck] at h2
    exact .inl ⟨(wk μ2 (Dd :: τ) H2 m2 n2 g2 ck).2 _ (Nat.le_refl _), h2 Dd ws H2 μ2 n2 hD g2 hw hkl r2⟩
theorem ev_dc {kx vx tg iter : Expr} {ifs : List Expr} {scope : Scope} {own : List (Str × Nat)} {pos : Pos} {fi : Rho → Mem → R (List D × Option (Nat × List D))} {cd : Rho → Mem → R Bool} {ek ev : Rho → Mem → R D} {t : Tg} (hc : X.calm = true) (hN : X.N.Nodup) (hi : EvI X G W tg iter fi) (ok : BlkOk X.N X.env.scope scope own) (hv : ∀ i ∈ tgI t, i ∈ own.map (·.2))
    (hg : ∀ (s : Shared) (H : Hp) (C : Addr) (cl : List (Str × Addr)) (fp : List Addr), EvG (X.blk s H scope (compEnvC scope cl C X.env) fp) G tg t) (ht : ∀ (s : Shared) (H : Hp) (C : Addr) (cl : List (Str × Addr)) (fp : List Addr), PTs (X.blk s H scope (compEnvC scope cl C X.env) fp) ifs (rdT G W0 cd))
    (hk : ∀ (s : Shared) (H : Hp) (C : Addr) (cl : List (Str × Addr)) (fp : List Addr), EvE (X.blk s H scope (compEnvC scope cl C X.env) fp) G W0 kx ek)
    (he : ∀ (s : Shared) (H : Hp) (C : Addr) (cl : List (Str × Addr)) (fp : List Addr), EvE (X.blk s H scope (compEnvC scope cl C X.env) fp) G W0 vx ev) (hs : ∀ x, foldedSetIterable iter X.env x = pure x) :
    EvF X G W (.DictComp kx vx [⟨tg, iter, ifs, 0⟩] scope pos) (fun ρ m => (fi ρ m).bind fun xs m1 => if lim < xs.1.length then .bad else dcpL xs.2 (tgD t) (fun ρ' m => calmR (cd ρ' m)) (fun ρ' m => calmR (ek ρ' m)) (fun ρ' m => calmR (ev ρ' m)) (wipeR ρ (own.map (·.2))) xs.1 [] [] m1) :=
  PE.imp (pe_dc hc hN hi ok hg ht hk he hs) fun σ H Q h => dc_in hv h
/-- NAME = {k: v for ..} on one line: the name takes the dict at once -/
theorem set_dc {n : Nat} {nm : Str} {np : Pos} {kx vx tgt src : Expr} {cnd : List Expr} {sc : Scope} {own : List (Str × Nat)} {dp ap : Pos} {wi : TI} {gt : TG} {tt : TT} {tk tv : TE} (cm : X.calm = true) (nd : X.N.Nodup) (at_ : X.N[n]? = some nm)
    (lo : X.env.scope.names.lookup nm = some .local) (sw : swapsWith (.DictComp kx vx [⟨tgt, src, cnd, 0⟩] sc dp) (some (.Name nm np)) ap.line X.env = pure true) (wk : PI X tgt src wi) (bo : BlkOk X.N X.env.scope sc own)
    (tg : ∀ (s : Shared) (H : Hp) (Ca : Addr) (cl : List (Str × Addr)) (fp : List Addr), PG (X.blk s H sc (compEnvC sc cl Ca X.env) fp) tgt gt)
    (tst : ∀ (s : Shared) (H : Hp) (Ca : Addr) (cl : List (Str × Addr)) (fp : List Addr), PTs (X.blk s H sc (compEnvC sc cl Ca X.env) fp) cnd tt)
    (ky : ∀ (s : Shared) (H : Hp) (Ca : Addr) (cl : List (Str × Addr)) (fp : List Addr), PE (X.blk s H sc (compEnvC sc cl Ca X.env) fp) kx tk)
    (vl : ∀ (s : Shared) (H : Hp) (Ca : Addr) (cl : List (Str × Addr)) (fp : List Addr), PE (X.blk s H sc (compEnvC sc cl Ca X.env) fp) vx tv)
    (no : ∀ u, foldedSetIterable src X.env u = pure u) : PS X (.Assign [.Name nm np] (.DictComp kx vx [⟨tgt, src, cnd, 0⟩] sc dp) ap) (tAsg (tDc wi gt tt tk tv (own.map (·.2))) (gName n)) := by
  constructor
  intro pins s σ H D I w
  rw [exec_Assign_Name_used _ _ _ _ sw]
  refine wpAny_bind (wpAny_standAt ?_)
  refine wpAny_bind ?_
  show wpAny _ X.A (do
    let _ ← comprehension (.DictComp kx vx [⟨tgt, src, cnd, 0⟩] sc dp) sc X.env (firstIterPos [⟨tgt, src, cnd, 0⟩] dp) newDict false (eval src X.env) (some (assign (.Name nm np) X.env))) _ _ s
  have w' : tDc wi gt tt tk tv (own.map (·.2)) σ H (fun u H1 => gName n u σ H1 D.nx) := w
  have core := dc_core (X := X) (Qf := fun _ z => SP X pins D .next z) (pos := dp) (pos' := firstIterPos [⟨tgt, src, cnd, 0⟩] dp) (use := some (assign (.Name nm np) X.env)) cm nd I wk bo tg tst ky vl no w' ?_
  · exact wpAny_bind (thn core fun _ z hz => wpAny_pure (wpAny_pure hz))
  · intro L Ca z mm H' J q hn f
    show wpAny _ _ (assign (.Name nm np) X.env (.ref L)) _ _ _
    refine wpAny_assign_Name (store_ok2 (v := V.ref L) J nd at_ (.inl lo) rfl ?_ (.inr lo))
    rintro z2 J2 ⟨b, sb, hb⟩
    obtain ⟨u0, u1, u2, u3, u4, u5⟩ := f
    have far : Ca ≠ b := by
      rcases hb with e | e
      · rw [e]; exact u1
      · exact fun y => u4 nm b e y.symm
    refine ⟨mm, hn.sameBut sb far, fun h3 sb3 => ⟨_, H', J2.turned (t' := z2.toks) ?_ u0 u1 u3 u4 u5, q⟩⟩
    exact fun k o ne e => (sb3.2 k ne).trans e
theorem sw_dc {kx vx : Expr} {gs : List Comprehension} {scope : Scope} {pos py : Pos} {y : Str} {l : Nat} {env : Env} (hk : env.scope.kind = .function) : swapsWith (.DictComp kx vx gs scope pos) (some (.Name y py)) l env = pure (env.kindOf y == some .local && py.line == pos.line && !(scope.names.any fun (n, k) => n == y && (k == .local || k == .cell))) := by
  have hb : env.blockKind = .function := by unfold Env.blockKind; rw [hk]; rfl
  unfold swapsWith
  simp only [hb]
  rfl
end
end EV

/-! zip(a, b) as an argument: tuple(zip(a, b)), list(zip(a, b)), dict(zip(a, b)), over tuples and lists. -/
namespace EV
open PySem PySem.Spec PyProof.Rows L2
section
variable {prog : Program} {w : World} {A : Around} {E : Value → Shared → Prop} {s : Shared} {z TI TO T i1 i2 : Addr} {fp1 fp2 : List Addr} {n1 n2 i : Nat} {P1 P2 : Nat → Value → Prop} {St1 St2 : Nat → Heap → Prop} {f : Bool} {oT : Obj}
theorem zh_item {Q : Value → Shared → Prop} (S : ZipSep2 z TI TO i1 i2 fp1 fp2) (D1 : Draws prog w A i1 fp1 n1 P1 St1) (D2 : Draws prog w A i2 fp2 n2 P2 St2)
    (hz : IsZipHeld s.heap z TI TO T f) (hT : s.heap.get? T = some oT) (hTI : IsTupOf2 s.heap TI (.ref i1) (.ref i2)) (st1 : St1 i s.heap) (st2 : St2 i s.heap) (b1 : i < n1) (b2 : i < n2)
    (hQ : ∀ x1 x2 h' tk, P1 i x1 → P2 i x2 → IsZipHeld h' z TI TO T true → St1 (i + 1) h' → St2 (i + 1) h' → IsTupOf2 h' s.heap.objs.size x1 x2 →
      (∀ c o, c ≠ z → c ≠ i1 → c ≠ i2 → s.heap.get? c = some o → h'.get? c = some o) → Q (.ref s.heap.objs.size) { s with heap := h', toks := tk }) :
    wpAny (model prog w) A (Builtin.«zip.__next__» ⟨[.ref z], []⟩) (fun fin s' => ∃ v, fin = .done (.ret v) ∧ Q v s') E s := by
  obtain ⟨hp, g, d, tk0, os⟩ := s
  show wpAny _ _ (field (.ref z) 2 >>= _) _ _ (⟨hp, g, d, tk0, os⟩ : Shared)
  refine wpAny_bind (wpAny_field hz rfl (x := Value.bool false) rfl ?_)
  show wpAny _ _ (field (.ref z) 3 >>= _) _ _ (⟨hp, g, d, tk0, os⟩ : Shared)
  refine wpAny_bind (wpAny_field hz rfl (x := Value.ref TI) rfl (wpAny_bind (wpAny_seqItems hTI rfl ?_)))
  show wpAny _ _ (Builtin.SmallTypes.ownedTupleIsFree (.ref z) >>= _) _ _ (⟨hp, g, d, tk0, os⟩ : Shared)
  refine wpAny_bind (wpAny_tupleHeld_zip hz hT fun g1 z1 k1 => ?_)
  replace k1 : Heap.SameBut z hp g1 := k1
  simp only [Bool.false_eq_true, if_false]
  refine wpAny_bind ?_
  rw [← Array.forIn_toList]
  simp only [List.forIn_cons, List.forIn_nil]
  refine wpAny_bind (wpAny_bind (wpAny_holding ?_))
  show wpAny _ _ (Builtin.SmallTypes.nextOf (.ref i1) >>= _) _ _ (⟨g1, g, d, tk0, os⟩ : Shared)
  refine wpAny_bind (D1.item i _ _ _ b1 (D1.over st1 k1 S.zf1) fun x1 g2 t2 p1 s1 k2 => wpAny_pure ?_)
  replace k2 : Heap.SameBut i1 g1 g2 := k2
  refine wpAny_pure (wpAny_bind (wpAny_bind (wpAny_holding ?_)))
  show wpAny _ _ (Builtin.SmallTypes.nextOf (.ref i2) >>= _) _ _ (⟨g2, g, d, t2, os⟩ : Shared)
  refine wpAny_bind (D2.item i _ _ _ b2 (D2.over (D2.over st2 k1 S.zf2) k2 S.sep1_2) fun x2 g3 t3 p2 s2 k3 => wpAny_pure (wpAny_pure (wpAny_pure ?_)))
  replace k3 : Heap.SameBut i2 g2 g3 := k3
  show wpAny _ _ (newTuple [x1, x2] >>= _) _ _ (⟨g3, g, d, t3, os⟩ : Shared)
  refine wpAny_bind (wpAny_newTuple ?_)
  have hsz : g3.objs.size = hp.objs.size := by rw [k3.1, k2.1, k1.1]
  have z3 : IsZipHeld g3 z TI TO T true := k3.extBut _ _ S.zi2 (k2.extBut _ _ S.zi1 z1)
  have hk : ∀ c o, c ≠ z → c ≠ i1 → c ≠ i2 → hp.get? c = some o → g3.get? c = some o := fun c o c1 c2 c3 e => k3.extBut _ _ c3 (k2.extBut _ _ c2 (k1.extBut _ _ c1 e))
  have s1' : St1 (i + 1) g3 := D1.over s1 k3 S.sep2_1
  refine wpAny_pure ⟨_, rfl, ?_⟩
  have up : ∀ c o, g3.get? c = some o → (g3.push { cls := .type "tuple", data := .seq #[x1, x2] }).get? c = some o := fun c o e => Heap.get?_push_of_some _ e
  have hp' : IsTupOf2 (g3.push { cls := .type "tuple", data := .seq #[x1, x2] }) g3.objs.size x1 x2 := Heap.get?_push_size _ rfl
  show Q (.ref g3.objs.size) _
  rw [hsz] at hp' ⊢
  exact hQ x1 x2 _ _ p1 p2 (up _ _ z3) (D1.frame _ _ _ s1' fun b _ o e => up b o e) (D2.frame _ _ _ s2 fun b _ o e => up b o e) hp' fun c o c1 c2 c3 e => up c o (hk c o c1 c2 c3 e)
theorem zh_end {Q : Fin → Shared → Prop} (S : ZipSep2 z TI TO i1 i2 fp1 fp2) (D1 : Draws prog w A i1 fp1 n1 P1 St1) (D2 : Draws prog w A i2 fp2 n2 P2 St2)
    (hz : IsZipHeld s.heap z TI TO T f) (hT : s.heap.get? T = some oT) (hTI : IsTupOf2 s.heap TI (.ref i1) (.ref i2)) (st1 : St1 i s.heap) (st2 : St2 i s.heap) (b1 : i ≤ n1) (b2 : i ≤ n2) (be : i = n1 ∨ i = n2)
    (hE : ∀ h' tk e, (∀ c o, c ≠ z → c ≠ i1 → c ≠ i2 → s.heap.get? c = some o → h'.get? c = some o) → (∃ o, h'.get? e = some o ∧ o.cls = .type "StopIteration") → E (.ref e) { s with heap := h', toks := tk }) :
    wpAny (model prog w) A (Builtin.«zip.__next__» ⟨[.ref z], []⟩) Q E s := by
  obtain ⟨hp, g, d, tk0, os⟩ := s
  show wpAny _ _ (field (.ref z) 2 >>= _) _ _ (⟨hp, g, d, tk0, os⟩ : Shared)
  refine wpAny_bind (wpAny_field hz rfl (x := Value.bool false) rfl ?_)
  show wpAny _ _ (field (.ref z) 3 >>= _) _ _ (⟨hp, g, d, tk0, os⟩ : Shared)
  refine wpAny_bind (wpAny_field hz rfl (x := Value.ref TI) rfl (wpAny_bind (wpAny_seqItems hTI rfl ?_)))
  show wpAny _ _ (Builtin.SmallTypes.ownedTupleIsFree (.ref z) >>= _) _ _ (⟨hp, g, d, tk0, os⟩ : Shared)
  refine wpAny_bind (wpAny_tupleHeld_zip hz hT fun g1 z1 k1 => ?_)
  replace k1 : Heap.SameBut z hp g1 := k1
  simp only [Bool.false_eq_true, if_false]
  refine wpAny_bind ?_
  rw [← Array.forIn_toList]
  simp only [List.forIn_cons, List.forIn_nil]
  refine wpAny_bind (wpAny_bind (wpAny_holding ?_))
  show wpAny _ _ (Builtin.SmallTypes.nextOf (.ref i1) >>= _) _ _ (⟨g1, g, d, tk0, os⟩ : Shared)
  by_cases q : i < n1
  · refine wpAny_bind (D1.item i _ _ _ q (D1.over st1 k1 S.zf1) fun x1 g2 t2 p1 s1 k2 => wpAny_pure ?_)
    replace k2 : Heap.SameBut i1 g1 g2 := k2
    have q2 : i = n2 := by omega
    refine wpAny_pure (wpAny_bind (wpAny_bind (wpAny_holding ?_)))
    show wpAny _ _ (Builtin.SmallTypes.nextOf (.ref i2) >>= _) _ _ (⟨g2, g, d, t2, os⟩ : Shared)
    refine wpAny_bind (D2.done _ _ _ (by rw [← q2]; exact D2.over (D2.over st2 k1 S.zf2) k2 S.sep1_2) fun g3 e k3 he => ?_)
    replace k3 : Heap.ExtBut i2 g2 g3 := k3
    exact hE g3 t2 e (fun c o c1 c2 c3 x => k3 _ _ c3 (k2.extBut _ _ c2 (k1.extBut _ _ c1 x))) he
  · have q1 : i = n1 := by omega
    refine wpAny_bind (D1.done _ _ _ (by rw [← q1]; exact D1.over st1 k1 S.zf1) fun g3 e k3 he => ?_)
    replace k3 : Heap.ExtBut i1 g1 g3 := k3
    exact hE g3 tk0 e (fun c o c1 c2 _ x => k3 _ _ c2 (k1.extBut _ _ c1 x)) he
end
/-- two iterators under a zip -/
structure ZD (prog : Program) (w : World) (z TI TO i1 i2 : Addr) (fp1 fp2 : List Addr) (n1 n2 : Nat) (P1 P2 : Nat → Value → Prop) (St1 St2 : Nat → Heap → Prop) : Prop where
  sep : ZipSep2 z TI TO i1 i2 fp1 fp2
  d1 : ∀ A : Around, A.handled = none → Draws prog w A i1 fp1 n1 P1 St1
  d2 : ∀ A : Around, A.handled = none → Draws prog w A i2 fp2 n2 P2 St2
/-- a zip at its turn i; ex: where no pair of it lies -/
def ZS (z TI TO i1 i2 : Addr) (St1 St2 : Nat → Heap → Prop) (ex : List Addr) (i : Nat) (h : Heap) : Prop :=
  IsTupOf2 h TI (.ref i1) (.ref i2) ∧ St1 i h ∧ St2 i h ∧ ((IsZip h z TI TO .none ∧ ∃ a b, IsTupOf2 h TO a b) ∨ ∃ T f oT, IsZipHeld h z TI TO T f ∧ h.get? T = some oT ∧ T ≠ z ∧ T ≠ i1 ∧ T ≠ i2 ∧ T ∉ ex)
section
variable {prog : Program} {w : World} {A : Around} {E : Value → Shared → Prop} {s : Shared} {z TI TO T i1 i2 : Addr} {fp1 fp2 ex : List Addr} {n1 n2 i : Nat} {P1 P2 : Nat → Value → Prop} {St1 St2 : Nat → Heap → Prop}
theorem ZS.type {h : Heap} (st : ZS z TI TO i1 i2 St1 St2 ex i h) : ∃ o, h.get? z = some o ∧ o.cls = .type "zip" := by
  rcases st.2.2.2 with ⟨hz, _⟩ | ⟨T, f, oT, hz, _⟩
  · exact ⟨_, hz, rfl⟩
  · exact ⟨_, hz, rfl⟩
theorem ZS.at {h h' : Heap} (Z : ZD prog w z TI TO i1 i2 fp1 fp2 n1 n2 P1 P2 St1 St2) (hh : ∃ A : Around, A.handled = none) (he : ∀ b ∈ ex, b ∉ z :: TI :: TO :: (fp1 ++ fp2)) (st : ZS z TI TO i1 i2 St1 St2 ex i h) (k : ∀ b o, b ∉ ex → h.get? b = some o → h'.get? b = some o) : ZS z TI TO i1 i2 St1 St2 ex i h' := by
  obtain ⟨A, hA⟩ := hh
  obtain ⟨hTI, s1, s2, hz⟩ := st
  have no : ∀ b, b ∈ z :: TI :: TO :: (fp1 ++ fp2) → b ∉ ex := fun b hb hx => he b hx hb
  have m1 : ∀ b ∈ fp1, b ∈ z :: TI :: TO :: (fp1 ++ fp2) := fun b hb => by simp [hb]
  have m2 : ∀ b ∈ fp2, b ∈ z :: TI :: TO :: (fp1 ++ fp2) := fun b hb => by simp [hb]
  refine ⟨k _ _ (no _ (by simp)) hTI, (Z.d1 A hA).frame _ _ _ s1 fun b hb o e => k b o (no _ (m1 b hb)) e, (Z.d2 A hA).frame _ _ _ s2 fun b hb o e => k b o (no _ (m2 b hb)) e, ?_⟩
  rcases hz with ⟨hz, a, b, hTO⟩ | ⟨T, f, oT, hz, hT, r1, r2, r3, r4⟩
  · exact .inl ⟨k _ _ (no _ (by simp)) hz, a, b, k _ _ (no _ (by simp)) hTO⟩
  · exact .inr ⟨T, f, oT, k _ _ (no _ (by simp)) hz, k _ _ r4 hT, r1, r2, r3, r4⟩
theorem zs_item {Q : Option Value → Shared → Prop} (Z : ZD prog w z TI TO i1 i2 fp1 fp2 n1 n2 P1 P2 St1 St2) (hA : A.handled = none) (st : ZS z TI TO i1 i2 St1 St2 ex i s.heap) (b1 : i < n1) (b2 : i < n2) (hx : ∀ b ∈ ex, b < s.heap.objs.size)
    (hQ : ∀ x1 x2 h' tk, P1 i x1 → P2 i x2 → ZS z TI TO i1 i2 St1 St2 ex (i + 1) h' → IsTupOf2 h' s.heap.objs.size x1 x2 →
      (∀ c o, c ∉ [z, TO, i1, i2] → s.heap.get? c = some o → h'.get? c = some o) → Q (some (.ref s.heap.objs.size)) { s with heap := h', toks := tk }) :
    wpAny (model prog w) A (pyNext (.ref z)) Q E s := by
  obtain ⟨hTI, s1, s2, hz⟩ := st
  have S := Z.sep
  have lt : ∀ {c o}, s.heap.get? c = some o → s.heap.objs.size ≠ c := fun e => Nat.ne_of_gt (Heap.lt_size e)
  obtain ⟨o1, e1⟩ := (Z.d1 A hA).live _ _ s1
  obtain ⟨o2, e2⟩ := (Z.d2 A hA).live _ _ s2
  have hn : s.heap.objs.size ∉ ex := fun m => Nat.lt_irrefl _ (hx _ m)
  rcases hz with ⟨hz, a, b, hTO⟩ | ⟨T, f, oT, hz, hT, r1, r2, r3, r4⟩
  · refine wpAny_pyNext_zipD2_item S (Z.d1 A.in1 hA) (Z.d2 A.in1 hA) hz hTI hTO s1 s2 b1 b2 fun x1 x2 h' tk p1 p2 a1 a2 a3 a4 a5 a6 hk => ?_
    exact hQ x1 x2 h' tk p1 p2 ⟨hk _ _ S.TIz S.TITO S.TIi1 S.TIi2 hTI, a3, a4, .inr ⟨_, false, _, a1, a5, lt hz, lt e1, lt e2, hn⟩⟩ a5 fun c o hc e => hk c o (fun x => hc (by simp [x])) (fun x => hc (by simp [x])) (fun x => hc (by simp [x])) (fun x => hc (by simp [x])) e
  · have hTy : s.TypeIs (.ref z) "zip" := ⟨_, hz, rfl⟩
    unfold pyNext
    refine wpAny_bind (wpAny_attempt (wpAny_callSpecial?_slot (name := Str.ofString "__next__") hTy F.slot_zip_next (wpAny_call_entry F.slot_zip_next hTy F.entry_zip_next ?_ (F.args_zip_next_1 _))))
    refine zh_item S (Z.d1 A.in1 hA) (Z.d2 A.in1 hA) hz hT hTI s1 s2 b1 b2 fun x1 x2 h' tk p1 p2 a1 a3 a4 a5 hk => wpAny_pure ?_
    exact hQ x1 x2 h' tk p1 p2 ⟨hk _ _ S.TIz S.TIi1 S.TIi2 hTI, a3, a4, .inr ⟨T, true, oT, a1, hk _ _ r1 r2 r3 hT, r1, r2, r3, r4⟩⟩ a5 fun c o hc e => hk c o (fun x => hc (by simp [x])) (fun x => hc (by simp [x])) (fun x => hc (by simp [x])) e
theorem zs_end {Q : Option Value → Shared → Prop} (Z : ZD prog w z TI TO i1 i2 fp1 fp2 n1 n2 P1 P2 St1 St2) (hA : A.handled = none) (st : ZS z TI TO i1 i2 St1 St2 ex i s.heap) (b1 : i ≤ n1) (b2 : i ≤ n2) (be : i = n1 ∨ i = n2)
    (hQ : ∀ h' tk, (∀ c o, c ∉ [z, TO, i1, i2] → s.heap.get? c = some o → h'.get? c = some o) → Q none { s with heap := h', toks := tk }) :
    wpAny (model prog w) A (pyNext (.ref z)) Q E s := by
  obtain ⟨hTI, s1, s2, hz⟩ := st
  have S := Z.sep
  rcases hz with ⟨hz, a, b, hTO⟩ | ⟨T, f, oT, hz, hT, r1, r2, r3, r4⟩
  · exact wpAny_pyNext_zipD2_end S (Z.d1 A.in1 hA) (Z.d2 A.in1 hA) hz hTI hTO s1 s2 b1 b2 be fun h' tk hk => hQ h' tk fun c o hc e => hk c o (fun x => hc (by simp [x])) (fun x => hc (by simp [x])) (fun x => hc (by simp [x])) (fun x => hc (by simp [x])) e
  · have hTy : s.TypeIs (.ref z) "zip" := ⟨_, hz, rfl⟩
    unfold pyNext
    refine wpAny_bind (wpAny_attempt (wpAny_callSpecial?_slot (name := Str.ofString "__next__") hTy F.slot_zip_next (wpAny_call_entry F.slot_zip_next hTy F.entry_zip_next (zh_end S (Z.d1 A.in1 hA) (Z.d2 A.in1 hA) hz hT hTI s1 s2 b1 b2 be fun h' tk e hk he => ?_) (F.args_zip_next_1 _))))
    obtain ⟨o, ho, hc⟩ := he
    refine wpAny_bind (wpAny_isInstance (T := "StopIteration") (b := true) ⟨o, ho, hc⟩ isSubtype_stop (wpAny_pure (hQ _ _ fun c o hc e => hk c o (fun x => hc (by simp [x])) (fun x => hc (by simp [x])) (fun x => hc (by simp [x])) e)))
end
end EV
namespace EV
open PySem PySem.Spec PyProof.Rows L2
section
variable {prog : Program} {w : World} {z TI TO i1 i2 : Addr} {fp1 fp2 : List Addr} {n1 n2 : Nat} {P1 P2 : Nat → Value → Prop} {St1 St2 : Nat → Heap → Prop}
theorem dr_tup {A : Around} (hh : A.handled = none) (it l : Addr) (ne : l ≠ it) (its : Array Value) :
    Draws prog w A it [it, l] its.size (fun i v => its[i]? = some v) (fun i h => h.IsTupleIter it l i ∧ h.IsTuple l its) where
  live := fun _ _ st => let ⟨o, ho, _⟩ := st.1; ⟨o, ho⟩
  frame := fun _ _ _ st k => ⟨st.1.at fun o e => k it List.mem_cons_self o e, st.2.at fun o e => k l (List.mem_cons_of_mem _ List.mem_cons_self) o e⟩
  item := fun i s Q E hi st hQ => RZ.nextOf_tuple_item st.1 st.2 (x := its[i]) (Array.getElem?_eq_getElem hi) fun h' a b => hQ _ h' s.toks (Array.getElem?_eq_getElem hi) ⟨a, st.2.extBut b.extBut ne⟩ b
  done := fun s Q E st hE => RZ.nextOf_tuple_end hh st.1 st.2 (Array.getElem?_eq_none (Nat.le_refl _)) fun h' e a b => hE h' e a b
theorem nm2 {a b c : Addr} (h1 : a ≠ b) (h2 : a ≠ c) : a ∉ [b, c] := by
  intro m
  rcases List.mem_cons.mp m with e | m
  · exact h1 e
  · exact h2 (List.mem_singleton.mp m)
theorem ne1 {a b : Nat} (h : a < b) : a ≠ b := Nat.ne_of_lt h
theorem ne2 {a b : Nat} (h : b < a) : a ≠ b := Nat.ne_of_gt h
theorem zsep {n l1 l2 : Nat} (a : l1 < n) (b : l2 < n) : ZipSep2 (n + 4) (n + 2) (n + 3) n (n + 1) [n, l1] [n + 1, l2] where
  TIz := ne1 (by omega)
  TOz := ne1 (by omega)
  TITO := ne1 (by omega)
  TIi1 := ne2 (by omega)
  mem1 := List.mem_cons_self
  zf1 := nm2 (ne2 (by omega)) (ne2 (by omega))
  Tf1 := nm2 (ne2 (by omega)) (ne2 (by omega))
  TIi2 := ne2 (by omega)
  mem2 := List.mem_cons_self
  zf2 := nm2 (ne2 (by omega)) (ne2 (by omega))
  Tf2 := nm2 (ne2 (by omega)) (ne2 (by omega))
  sep1_2 := nm2 (ne1 (by omega)) (ne2 (by omega))
  sep2_1 := nm2 (ne2 (by omega)) (ne2 (by omega))
theorem zd_tup {n l1 l2 : Nat} (a : l1 < n) (b : l2 < n) (xs ys : Array Value) : ZD prog w (n + 4) (n + 2) (n + 3) n (n + 1) [n, l1] [n + 1, l2] xs.size ys.size (fun i v => xs[i]? = some v) (fun i v => ys[i]? = some v)
    (fun i h => h.IsTupleIter n l1 i ∧ h.IsTuple l1 xs) (fun i h => h.IsTupleIter (n + 1) l2 i ∧ h.IsTuple l2 ys) :=
  ⟨zsep a b, fun A hA => dr_tup hA _ _ (ne1 (by omega)) xs, fun A hA => dr_tup hA _ _ (ne1 (by omega)) ys⟩
theorem zd_lst {n l1 l2 : Nat} (a : l1 < n) (b : l2 < n) (xs ys : Array Value) : ZD prog w (n + 4) (n + 2) (n + 3) n (n + 1) [n, l1] [n + 1, l2] xs.size ys.size (fun i v => xs[i]? = some v) (fun i v => ys[i]? = some v)
    (fun i h => h.IsListIter n l1 i ∧ h.IsList l1 xs) (fun i h => h.IsListIter (n + 1) l2 i ∧ h.IsList l2 ys) :=
  ⟨zsep a b, fun A hA => Draws.list hA _ _ (ne1 (by omega)) xs, fun A hA => Draws.list hA _ _ (ne1 (by omega)) ys⟩
/-- what a fresh zip is -/
def Z0 (z TI TO i1 i2 : Addr) (fp1 fp2 : List Addr) (St1 St2 : Nat → Heap → Prop) (h : Heap) : Prop :=
  IsZip h z TI TO .none ∧ IsTupOf2 h TI (.ref i1) (.ref i2) ∧ (∃ a b, IsTupOf2 h TO a b) ∧ St1 0 h ∧ St2 0 h ∧ ∀ b ∈ fp1 ++ fp2, ∃ o, h.get? b = some o
theorem Z0.zs {h : Heap} (q : Z0 z TI TO i1 i2 fp1 fp2 St1 St2 h) (ex : List Addr) : ZS z TI TO i1 i2 St1 St2 ex 0 h := ⟨q.2.1, q.2.2.2.1, q.2.2.2.2.1, .inl ⟨q.1, q.2.2.1⟩⟩
theorem Z0.at {h h' : Heap} (Z : ZD prog w z TI TO i1 i2 fp1 fp2 n1 n2 P1 P2 St1 St2) (hh : ∃ A : Around, A.handled = none) (q : Z0 z TI TO i1 i2 fp1 fp2 St1 St2 h) (k : ∀ b o, h.get? b = some o → h'.get? b = some o) : Z0 z TI TO i1 i2 fp1 fp2 St1 St2 h' := by
  obtain ⟨A, hA⟩ := hh
  obtain ⟨a, b, ⟨x, y, c⟩, d, e, f⟩ := q
  exact ⟨k _ _ a, k _ _ b, ⟨x, y, k _ _ c⟩, (Z.d1 A hA).frame _ _ _ d fun b _ o e => k b o e, (Z.d2 A hA).frame _ _ _ e fun b _ o e => k b o e, fun b hb => let ⟨o, e⟩ := f b hb; ⟨o, k _ _ e⟩⟩
theorem Z0.live {h : Heap} (q : Z0 z TI TO i1 i2 fp1 fp2 St1 St2 h) : ∀ b ∈ z :: TI :: TO :: (fp1 ++ fp2), ∃ o, h.get? b = some o := by
  obtain ⟨a, b, ⟨x, y, c⟩, d, e, f⟩ := q
  intro m hm
  rcases List.mem_cons.mp hm with rfl | hm
  · exact ⟨_, a⟩
  rcases List.mem_cons.mp hm with rfl | hm
  · exact ⟨_, b⟩
  rcases List.mem_cons.mp hm with rfl | hm
  · exact ⟨_, c⟩
  exact f m hm
theorem arg_zip (A0 : Around) (h0 : A0.handled = none) (Z : ZD prog w z TI TO i1 i2 fp1 fp2 n1 n2 P1 P2 St1 St2) :
    PairArg prog w "zip" z (z :: TI :: TO :: (fp1 ++ fp2)) [z, TO, i1, i2] (min n1 n2) (fun i k v => P1 i k ∧ P2 i v) (Z0 z TI TO i1 i2 fp1 fp2 St1 St2) where
  type := fun s ok => ⟨_, ok.1, rfl⟩
  notDict := by decide
  keep := fun h h' ok k => ok.at Z ⟨A0, h0⟩ k
  there := fun h ok => ok.live
  sub := fun b hb => by
    have m1 := Z.sep.mem1
    have m2 := Z.sep.mem2
    simp only [List.mem_cons, List.not_mem_nil, or_false] at hb
    rcases hb with rfl | rfl | rfl | rfl <;> simp [m1, m2]
  noKeys := fun A s Q E hA ok h => getAttrOr_miss_zip ok.1 rfl rfl rfl zip_no_keys (by decide +kernel) hA h
  iter := fun A s d Q E hA ok hd hdf h => by
    have m1 : i1 ∈ z :: TI :: TO :: (fp1 ++ fp2) := by simp [Z.sep.mem1]
    have m2 : i2 ∈ z :: TI :: TO :: (fp1 ++ fp2) := by simp [Z.sep.mem2]
    have hex : ∀ b ∈ [d], b ∉ z :: TI :: TO :: (fp1 ++ fp2) := fun b hb => by rw [List.mem_singleton.mp hb]; exact hdf
    refine wpAny_pyIter_zip ok.1 (h z [z, TO, i1, i2] (ZS z TI TO i1 i2 St1 St2 [d]) s.heap s.toks ?_ (ok.zs _) (fun _ _ e => e) fun b hb => .inl hb)
    exact {
      off := fun hm => by
        simp only [List.mem_cons, List.not_mem_nil, or_false] at hm
        rcases hm with x | x | x | x
        · exact hdf (by rw [x]; simp)
        · exact hdf (by rw [x]; simp)
        · exact hdf (by rw [x]; exact m1)
        · exact hdf (by rw [x]; exact m2)
      frame := fun i g g' st k => st.at Z ⟨A, hA⟩ hex fun b o hb e => k b o (fun x => hb (by simp [x])) e
      item := fun i s1 Q1 E1 hi st hds hQ => zs_item Z hA st (Nat.lt_of_lt_of_le hi (Nat.min_le_left ..)) (Nat.lt_of_lt_of_le hi (Nat.min_le_right ..)) (fun b hb => by rw [List.mem_singleton.mp hb]; exact hds) fun x1 x2 h' tk p1 p2 st' hT hk =>
        hQ _ x1 x2 h' tk ⟨p1, p2⟩ (.inl ⟨_, hT, rfl, _, rfl⟩) st' hk
      done := fun s1 Q1 E1 st hQ => zs_end Z hA st (Nat.min_le_left ..) (Nat.min_le_right ..) (by omega) hQ }
end
end EV
namespace EV
open PySem PySem.Spec PyProof.Rows L2
theorem zip_len0 : typeLookup (.type "zip") "__len__" = pure none := am_miss_of_fast (by decide +kernel)
theorem zip_hint0 : typeLookup (.type "zip") "__length_hint__" = pure none := am_miss_of_fast (by decide +kernel)
/-- pairs laid one behind another, their refs put behind acc in the list S -/
def layZ (S : Addr) : List (V × V) → List V → Hp → (List V → Hp → Prop) → Prop
  | [], acc, H, R => R acc H
  | p :: r, acc, H, R => ∀ T o, H T = none → o.dict = none → layZ S r (acc ++ [.ref T]) (upd (upd H T (.frz o (.tup [p.1, p.2]))) S (.lst (acc ++ [.ref T]))) R
section
variable {X : Cx} {pins : List (Addr × Obj)} {σ : L2.St} {z TI TO i1 i2 S : Addr} {fp1 fp2 : List Addr} {n1 n2 : Nat} {P1 P2 : Nat → Value → Prop} {St1 St2 : Nat → Heap → Prop} {zs : List (V × V)}
theorem zip_loop (Z : ZD X.prog X.w z TI TO i1 i2 fp1 fp2 n1 n2 P1 P2 St1 St2) (b1 : zs.length ≤ n1) (b2 : zs.length ≤ n2) (be : zs.length = n1 ∨ zs.length = n2) (bz : zs.length ≤ sizeLine)
    (rel : ∀ i p u v, zs[i]? = some p → P1 i u → P2 i v → RelV p.1 u ∧ RelV p.2 v) (hS : S ∉ z :: TI :: TO :: (fp1 ++ fp2)) (res : Value) {A : Around} (hA : A.handled = none) {R : Result → Shared → Prop} {RH : List V → Hp → Prop}
    (hR : ∀ s' H' vs, Inv X pins σ H' s' → H' S = some (.lst vs) → RH vs H' → R (.ok (.ret res)) s') :
    ∀ (k i : Nat) (s : Shared) (H : Hp) (acc : List V), zs.length - i = k → i ≤ zs.length → ZS z TI TO i1 i2 St1 St2 [S] i s.heap → H S = some (.lst acc) → acc.length = i → Inv X pins σ H s →
      (∀ c ∈ [z, TO, i1, i2], FpOk X pins H c ∧ c < s.heap.objs.size) → layZ S (zs.drop i) acc H RH → codeAny (model X.prog X.w) A (.builtin "list.extend.loop" ⟨[.ref S, .ref z, res], []⟩) R s := by
  have m1 : i1 ∈ z :: TI :: TO :: (fp1 ++ fp2) := by simp [Z.sep.mem1]
  have m2 : i2 ∈ z :: TI :: TO :: (fp1 ++ fp2) := by simp [Z.sep.mem2]
  have hSc : S ∉ [z, TO, i1, i2] := fun hm => by
    simp only [List.mem_cons, List.not_mem_nil, or_false] at hm
    rcases hm with x | x | x | x
    · exact hS (by rw [x]; simp)
    · exact hS (by rw [x]; simp)
    · exact hS (by rw [x]; exact m1)
    · exact hS (by rw [x]; exact m2)
  have hex : ∀ b ∈ [S], b ∉ z :: TI :: TO :: (fp1 ++ fp2) := fun b hb => by rw [List.mem_singleton.mp hb]; exact hS
  intro k
  induction k with
  | zero =>
    intro i s H acc hk hi st hs ha I hf hl
    have ei : i = zs.length := by omega
    refine codeAny_builtin F.entry_extend_loop ?_
    rw [Around.under_plainId F.plain_extend_loop _]
    show wpAny _ A.in1 (pyNext (.ref z) >>= _) _ _ s
    refine wpAny_bind (zs_end (A := A.in1) Z hA st (by omega) (by omega) (by omega) fun h' tk hk => wpAny_pure ?_)
    rw [ei, List.drop_length] at hl
    exact hR _ H acc (I.turnedL (t' := tk) (ch := [z, TO, i1, i2]) hk fun b hb => (hf b hb).1) hs hl
  | succ k ih =>
    intro i s H acc hk hi st hs ha I hf hl
    have hlt : i < zs.length := by omega
    have hq : zs[i]? = some zs[i] := List.getElem?_eq_getElem hlt
    have hSs : S < s.heap.objs.size := by
      obtain ⟨_, its, n, _, e⟩ := I.hok S _ hs
      exact Heap.lt_size e
    refine codeAny_builtin F.entry_extend_loop ?_
    rw [Around.under_plainId F.plain_extend_loop _]
    show wpAny _ A.in1 (pyNext (.ref z) >>= _) _ _ s
    refine wpAny_bind (zs_item (A := A.in1) Z hA st (by omega) (by omega) (fun b hb => by rw [List.mem_singleton.mp hb]; exact hSs) fun x1 x2 h1 tk p1 p2 st1 hT hkeep => ?_)
    obtain ⟨r1, r2⟩ := rel i zs[i] x1 x2 hq p1 p2
    have hTn : H s.heap.objs.size = none := I.hok.fresh (Nat.le_refl _)
    have I1 : Inv X pins σ (upd H s.heap.objs.size (.frz { cls := .type "tuple", data := .seq #[x1, x2] } (.tup [zs[i].1, zs[i].2]))) { s with heap := h1, toks := tk } :=
      I.turnedNew (t' := tk) (ch := [z, TO, i1, i2]) hkeep (fun b hb => (hf b hb).1) (Nat.le_refl _) (show ObjOk X.prog X.w _ _ _ (.frz _ (.tup [zs[i].1, zs[i].2])) from ⟨hT, by show 2 ≤ sizeLine; decide, [x1, x2], .cons r1 (.cons r2 .nil), ⟨_, hT, rfl, _, rfl⟩⟩)
    have hne : S ≠ s.heap.objs.size := Nat.ne_of_lt hSs
    have hs1 : upd H s.heap.objs.size (.frz { cls := .type "tuple", data := .seq #[x1, x2] } (.tup [zs[i].1, zs[i].2])) S = some (.lst acc) := by rw [upd_ne hne]; exact hs
    obtain ⟨hzl, its, n, hv, e1⟩ := I1.hok S _ hs1
    have hil := hv.length
    have e2 := Heap.get?_update_self (Obj.mapSeq (·.push (Value.ref s.heap.objs.size))) e1 rfl
    rw [List.drop_eq_getElem_cons hlt] at hl
    have hl' := hl s.heap.objs.size { cls := .type "tuple", data := .seq #[x1, x2] } hTn rfl
    have hTs : s.heap.objs.size < h1.objs.size := Heap.lt_size hT
    have I2 : Inv X pins σ (upd (upd H s.heap.objs.size (.frz { cls := .type "tuple", data := .seq #[x1, x2] } (.tup [zs[i].1, zs[i].2]))) S (.lst (acc ++ [.ref s.heap.objs.size]))) { s with heap := h1.update S (Obj.mapSeq (·.push (Value.ref s.heap.objs.size))), toks := tk } := by
      refine I1.write (x := S) (e := S) (t' := tk) (by rw [hs1]; trivial) (.inl rfl) (fun b u hb q => (Heap.get?_update_other _ _ (Ne.symm hb)).trans q) ⟨_, e2⟩ ?_
      have e3 : (its ++ [Value.ref s.heap.objs.size]).toArray = its.toArray.push (Value.ref s.heap.objs.size) := by simp
      have e4 : ∃ n' : Nat, (h1.update S (Obj.mapSeq (·.push (Value.ref s.heap.objs.size)))).get? S = some { cls := .type "list", data := .seq (its ++ [Value.ref s.heap.objs.size]).toArray n' } := by
        rw [e3]
        exact ⟨_, e2⟩
      obtain ⟨n', e4⟩ := e4
      exact ⟨by rw [List.length_append, ha]; simp; omega, its ++ [.ref s.heap.objs.size], n', hv.append (.cons (show RelV (V.ref s.heap.objs.size) (Value.ref s.heap.objs.size) from rfl) .nil), e4⟩
    show wpAny _ A.in1 (updateSeq S (·.push (.ref s.heap.objs.size)) >>= _) _ _ _
    refine wpAny_bind (wpAny_updateSeq (s := { s with heap := h1, toks := tk }) e1 rfl (wpAny_pure ⟨plainId_quiet F.plain_extend_loop _, ih (i + 1) _ _ _ (by omega) hlt (st1.at Z ⟨A, hA⟩ hex fun b o hb q => ?_) upd_same (by rw [List.length_append, ha]; rfl) I2 (fun c hc => ?_) hl'⟩) (by rw [List.size_toArray, ← hil, ha]; omega) (by show (its.toArray.push _).size ≤ sizeLine + 1; rw [Array.size_push, List.size_toArray, ← hil, ha]; omega))
    · exact (Heap.get?_update_other _ _ (fun x : S = b => hb (by simp [x]))).trans q
    · obtain ⟨f1, f2⟩ := hf c hc
      have c1 : c ≠ s.heap.objs.size := Nat.ne_of_lt f2
      have c2 : c ≠ S := fun x => hSc (x ▸ hc)
      refine ⟨⟨by rw [upd_ne c2, upd_ne c1]; exact f1.1, f1.2⟩, ?_⟩
      show c < (h1.update S _).objs.size
      have : (h1.update S (Obj.mapSeq (·.push (Value.ref s.heap.objs.size)))).objs.size = h1.objs.size := (Heap.SameBut.update ..).1
      rw [this]
      exact Nat.lt_trans f2 hTs
end
end EV
namespace EV
open PySem PySem.Spec PyProof.Rows L2
section
variable {X : Cx} {pins : List (Addr × Obj)} {σ : L2.St} {z TI TO i1 i2 S : Addr} {fp1 fp2 : List Addr} {n1 n2 : Nat} {P1 P2 : Nat → Value → Prop} {St1 St2 : Nat → Heap → Prop} {zs : List (V × V)} {H : Hp} {s : Shared} {RH : List V → Hp → Prop}
/-- what the walk over a zip wants -/
structure ZW (X : Cx) (z TI TO i1 i2 : Addr) (fp1 fp2 : List Addr) (n1 n2 : Nat) (P1 P2 : Nat → Value → Prop) (St1 St2 : Nat → Heap → Prop) (zs : List (V × V)) : Prop where
  zd : ZD X.prog X.w z TI TO i1 i2 fp1 fp2 n1 n2 P1 P2 St1 St2
  b1 : zs.length ≤ n1
  b2 : zs.length ≤ n2
  be : zs.length = n1 ∨ zs.length = n2
  bz : zs.length ≤ sizeLine
  rel : ∀ i p u v, zs[i]? = some p → P1 i u → P2 i v → RelV p.1 u ∧ RelV p.2 v
theorem ext_zip (W : ZW X z TI TO i1 i2 fp1 fp2 n1 n2 P1 P2 St1 St2 zs) (hS : S ∉ z :: TI :: TO :: (fp1 ++ fp2)) (res : Value) {A : Around} (hA : A.handled = none) {R : Result → Shared → Prop}
    (hR : ∀ s' H' vs, Inv X pins σ H' s' → H' S = some (.lst vs) → RH vs H' → R (.ok (.ret res)) s')
    (I : Inv X pins σ H s) (hs : H S = some (.lst [])) (z0 : Z0 z TI TO i1 i2 fp1 fp2 St1 St2 s.heap) (hf : ∀ c ∈ [z, TO, i1, i2], FpOk X pins H c) (hl : layZ S zs [] H RH) {Qf : Fin → Shared → Prop} {Ef : Value → Shared → Prop}
    (hq : ∀ s', codeAny (model X.prog X.w) A (.builtin "list.extend.loop" ⟨[.ref S, .ref z, res], []⟩) R s' → Qf (.again (.builtin "list.extend.loop" ⟨[.ref S, .ref z, res], []⟩)) s') :
    wpAny (model X.prog X.w) A.in1 (Builtin.List.listExtendWith (.ref S) (.ref z) res) Qf Ef s := by
  have m1 := W.zd.sep.mem1
  have m2 := W.zd.sep.mem2
  have hSz : S ≠ z := fun e => hS (by rw [e]; simp)
  have hTy : s.TypeIs (.ref z) "zip" := ⟨_, z0.1, rfl⟩
  obtain ⟨_, its, n, hv, e1⟩ := I.hok S _ hs
  cases hv
  have hlt : ∀ c ∈ [z, TO, i1, i2], c < s.heap.objs.size := fun c hc => by
    obtain ⟨o, e⟩ := z0.live c (by
      simp only [List.mem_cons, List.not_mem_nil, or_false] at hc
      rcases hc with rfl | rfl | rfl | rfl <;> simp [m1, m2])
    exact Heap.lt_size e
  unfold Builtin.List.listExtendWith
  refine wpAny_bind (wpAny_typeOf hTy ?_)
  have q1 : Builtin.List.listSameRef (.ref S) (.ref z) = false := by simp [Builtin.List.listSameRef, hSz]
  have q2 : (Value.type "zip" == Value.type "list") = false := by decide
  have q3 : (Value.type "zip" == Value.type "tuple") = false := by decide
  simp only [q1, q2, q3, Bool.or_false, Bool.false_eq_true, if_false]
  refine wpAny_bind (wpAny_pyIter_zip z0.1 (wpAny_bind (wpAny_holding ?_)))
  unfold Builtin.List.listLengthHint
  refine wpAny_bind (wpAny_specialOf hTy zip_len0 ?_)
  show wpAny _ A.in1 (specialOf (Value.ref z) (Str.ofString "__length_hint__") >>= _) _ _ _
  refine wpAny_bind (wpAny_specialOf hTy zip_hint0 (wpAny_pure ?_))
  show wpAny _ A.in1 (rule "list.extend.makes-room" >>= fun _ => Builtin.List.listTouch (.ref S) >>= fun _ => again (.builtin "list.extend.loop" ⟨[.ref S, .ref z, res], []⟩)) _ _ _
  refine wpAny_bind (wpAny_rule (wpAny_bind ?_))
  show wpAny _ A.in1 (updateSeq S (·.push .none) >>= fun _ => updateSeq S (·.pop)) _ _ _
  have e2 := Heap.get?_update_self (Obj.mapSeq (·.push Value.none)) e1 rfl
  have e3 := Heap.get?_update_self (Obj.mapSeq (·.pop)) e2 rfl
  refine wpAny_bind (wpAny_updateSeq e1 rfl (wpAny_updateSeq e2 rfl (wpAny_pure (hq _ ?_)) (hz := by show (([] : List Value).toArray.push Value.none).size ≤ sizeLine; decide) (_hz' := by show ((([] : List Value).toArray.push Value.none).pop).size ≤ sizeLine + 1; decide)) (hz := by show ([] : List Value).toArray.size ≤ sizeLine; decide) (_hz' := by show (([] : List Value).toArray.push Value.none).size ≤ sizeLine + 1; decide))
  have oth : ∀ b o, b ≠ S → s.heap.get? b = some o → ((s.heap.update S (Obj.mapSeq (·.push Value.none))).update S (Obj.mapSeq (·.pop))).get? b = some o := fun b o hb e => (Heap.get?_update_other _ _ (Ne.symm hb)).trans ((Heap.get?_update_other _ _ (Ne.symm hb)).trans e)
  have eH : upd H S (.lst []) = H := by
    funext b
    by_cases hb : b = S
    · rw [hb, upd_same, hs]
    · rw [upd_ne hb]
  have I2 : Inv X pins σ H { s with heap := (s.heap.update S (Obj.mapSeq (·.push Value.none))).update S (Obj.mapSeq (·.pop)) } := by
    have := I.write (x := S) (e := S) (t' := s.toks) (o := .lst []) (h' := (s.heap.update S (Obj.mapSeq (·.push Value.none))).update S (Obj.mapSeq (·.pop))) (by rw [hs]; trivial) (.inl rfl) (fun b u hb q => oth b u hb q) ⟨_, e3⟩ (show _ ∧ ∃ (its' : List Value) (n' : Nat), _ ∧ _ from ⟨Nat.zero_le _, [], _, .nil, e3⟩)
    rw [eH] at this
    exact this
  refine zip_loop (X := X) W.zd W.b1 W.b2 W.be W.bz W.rel hS res hA hR zs.length 0 _ H [] (Nat.sub_zero _) (Nat.zero_le _) ((z0.zs [S]).at W.zd ⟨A, hA⟩ (fun b hb => by rw [List.mem_singleton.mp hb]; exact hS) fun b o hb e => oth b o (fun x => hb (by simp [x])) e) hs rfl I2 (fun c hc => ⟨hf c hc, ?_⟩) hl
  show c < ((s.heap.update S _).update S _).objs.size
  rw [(Heap.SameBut.update ..).1, (Heap.SameBut.update ..).1]
  exact hlt c hc
theorem collect_zip (W : ZW X z TI TO i1 i2 fp1 fp2 n1 n2 P1 P2 St1 St2 zs) {A : Around} (hA : A.handled = none) {E : Value → Shared → Prop} {Q : List Value → Shared → Prop} (I : Inv X pins σ H s) (z0 : Z0 z TI TO i1 i2 fp1 fp2 St1 St2 s.heap) (hf : ∀ c ∈ [z, TO, i1, i2], FpOk X pins H c)
    (hl : ∀ S, H S = none → layZ S zs [] (upd H S (.lst [])) RH) (hQ : ∀ s' H' vs us, Inv X pins σ H' s' → Vals vs us → RH vs H' → us.length ≤ sizeLine → Q us s') : wpAny (model X.prog X.w) A (collect (.ref z)) Q E s := by
  have hSn : H s.heap.objs.size = none := I.hok.fresh (Nat.le_refl _)
  have hlive := z0.live
  have hSf : s.heap.objs.size ∉ z :: TI :: TO :: (fp1 ++ fp2) := fun hm => by
    obtain ⟨o, e⟩ := hlive _ hm
    exact Nat.lt_irrefl _ (Heap.lt_size e)
  unfold collect
  refine wpAny_bind (wpAny_runValue (codeAny_builtin F.entry_proto_collect ?_))
  rw [Around.under_plainId F.plain_proto_collect _]
  show wpAny _ A.in1 (newList [] >>= fun l => again (.builtin "list.__iadd__" ⟨[l, .ref z], []⟩)) _ _ s
  refine wpAny_bind (wpAny_newObj_type (wpAny_pure ⟨plainId_quiet F.plain_list_iadd _, codeAny_builtin F.entry_list_iadd ?_⟩))
  rw [Around.under_plainId F.plain_list_iadd _]
  have up : ∀ b o, s.heap.get? b = some o → (s.heap.push { cls := .type "list", data := .seq ([] : List Value).toArray }).get? b = some o := fun b o e => Heap.get?_push_of_some _ e
  have I1 : Inv X pins σ (upd H s.heap.objs.size (.lst [])) { s with heap := s.heap.push { cls := .type "list", data := .seq ([] : List Value).toArray } } :=
    I.laid (t' := s.toks) up (Nat.le_refl _) (show _ ∧ ∃ (its' : List Value) (n' : Nat), _ ∧ _ from ⟨Nat.zero_le _, [], _, .nil, Heap.get?_push_size _ rfl⟩)
  show wpAny _ A.in1 (Builtin.List.listExtendWith (.ref s.heap.objs.size) (.ref z) (.ref s.heap.objs.size)) _ _ _
  refine ext_zip (X := X) W hSf _ (A := A) hA (fun s' H' vs I' hs' hr => ?_) I1 upd_same (z0.at W.zd ⟨A, hA⟩ up) (fun c hc => ?_) (hl _ hSn) (fun s' h => ⟨plainId_quiet F.plain_extend_loop _, h⟩)
  · obtain ⟨hz, its, n, hv, e⟩ := I'.hok _ _ hs'
    show wpAny _ A (load s.heap.objs.size >>= _) _ _ s'
    refine wpAny_bind (wpAny_load e (wpAny_pure ?_))
    exact hQ s' H' vs its I' hv hr (by rw [← hv.length]; exact hz)
  · have c1 : c ≠ s.heap.objs.size := fun x => hSf (by
      have m1 := W.zd.sep.mem1
      have m2 := W.zd.sep.mem2
      rw [← x]
      simp only [List.mem_cons, List.not_mem_nil, or_false] at hc
      rcases hc with rfl | rfl | rfl | rfl <;> simp [m1, m2])
    have f1 := hf c hc
    exact ⟨by rw [upd_ne c1]; exact f1.1, f1.2⟩
end
end EV
namespace EV
open PySem PySem.Spec PyProof.Rows L2
section
variable {X : Cx} {pins : List (Addr × Obj)} {σ : L2.St} {z TI TO i1 i2 S : Addr} {fp1 fp2 : List Addr} {n1 n2 : Nat} {P1 P2 : Nat → Value → Prop} {St1 St2 : Nat → Heap → Prop} {zs : List (V × V)} {H : Hp} {s : Shared} {Qv : VK} {A : Around} {E : Value → Shared → Prop}
theorem code_tup_zip (W : ZW X z TI TO i1 i2 fp1 fp2 n1 n2 P1 P2 St1 St2 zs) (hA : A.handled = none) (I : Inv X pins σ H s) (z0 : Z0 z TI TO i1 i2 fp1 fp2 St1 St2 s.heap) (hf : ∀ c ∈ [z, TO, i1, i2], FpOk X pins H c)
    (hl : ∀ S, H S = none → layZ S zs [] (upd H S (.lst [])) fun vs H' => ∀ p o, H' p = none → o.dict = none → Qv (.ref p) (upd H' p (.frz o (.tup vs)))) {Q1 : Value → Shared → Prop}
    (hQ : ∀ p s' H', Inv X pins σ H' s' → s'.TypeIs (.ref p) "tuple" → Qv (.ref p) H' → Q1 (.ref p) s') :
    codeAny (model X.prog X.w) A (.call (.builtin "tuple.__new__") ⟨[.type "tuple", .ref z], []⟩) (wants Q1 E) s := by
  refine codeAny_of_tree ?_
  show wpAny _ A.in1 (do checkBuiltinCall "tuple.__new__" ⟨[.type "tuple", .ref z], []⟩; again (.builtin "tuple.__new__" ⟨[.type "tuple", .ref z], []⟩)) _ _ s
  refine wpAny_bind (wpAny_of_eq (F.newCall_tuple_1 _) (wpAny_pure ⟨plainId_quiet F.plain_tuple_new _, codeAny_builtin F.entry_tuple_new ?_⟩))
  rw [Around.under_plainId F.plain_tuple_new _]
  have hsub := sub_tuple_self
  have hinit := init_tuple_lookup
  have hmh := madeHere_tuple
  have hTy : s.TypeIs (.ref z) "zip" := ⟨_, z0.1, rfl⟩
  wp_walk using wpAny_typeOf hTy, collect_zip (A := A.in1) W hA I z0 hf hl
  intro s' H' vs us I' hv hr hz
  show wpAny _ _ (Builtin.Tuple.tupleExact us.toArray >>= fun v => ret v) _ _ _
  unfold Builtin.Tuple.tupleExact
  refine wpAny_bind (wpAny_newObj_type ?_ (by show us.toArray.size ≤ sizeLine; rw [List.size_toArray]; exact hz))
  refine wpAny_pure ?_
  have I2 : Inv X pins σ (upd H' s'.heap.objs.size (.frz { cls := .type "tuple", data := .seq us.toArray } (.tup vs))) { s' with heap := s'.heap.push { cls := .type "tuple", data := .seq us.toArray } } :=
    I'.laid (t' := s'.toks) (fun b o e => Heap.get?_push_of_some _ e) (Nat.le_refl _) (show ObjOk X.prog X.w _ _ _ (.frz _ (.tup vs)) from ⟨Heap.get?_push_size _ rfl, by rw [hv.length]; exact hz, us, hv, ⟨_, Heap.get?_push_size _ rfl, rfl, 0, rfl⟩⟩)
  exact hQ _ _ _ I2 ⟨_, Heap.get?_push_size _ rfl, rfl⟩ (hr _ _ (I'.hok.fresh (Nat.le_refl _)) rfl)
theorem call_tup_zip (W : ZW X z TI TO i1 i2 fp1 fp2 n1 n2 P1 P2 St1 St2 zs) (hA : A.handled = none) (I : Inv X pins σ H s) (z0 : Z0 z TI TO i1 i2 fp1 fp2 St1 St2 s.heap) (hf : ∀ c ∈ [z, TO, i1, i2], FpOk X pins H c)
    (hl : ∀ S, H S = none → layZ S zs [] (upd H S (.lst [])) fun vs H' => ∀ p o, H' p = none → o.dict = none → Qv (.ref p) (upd H' p (.frz o (.tup vs)))) {Q : Value → Shared → Prop}
    (hQ : ∀ p s' H', Inv X pins σ H' s' → Qv (.ref p) H' → Q (.ref p) s') : wpAny (model X.prog X.w) A (call (.type "tuple") [.ref z]) Q E s := by
  refine callType_codes (Q₁ := fun obj s1 => s1.TypeIs obj "tuple" ∧ Q obj s1) F.called_tuple (F.typeCall_tuple_1 _) F.entry_object_init
    (code_tup_zip (A := A.in1) W hA I z0 hf hl fun p s' H' I' ht q => ⟨ht, hQ p s' H' I' q⟩) fun obj s1 h1 => ?_
  exact ⟨h1.1, F.args_object_init_2 obj _, object_init_meets F.called_tuple.init.lookup F.called_tuple.made (by decide) X.prog X.w A.in1 _ s1 ⟨h1.1, rfl, h1.2⟩⟩
theorem call_lst_zip (W : ZW X z TI TO i1 i2 fp1 fp2 n1 n2 P1 P2 St1 St2 zs) (hA : A.handled = none) (I : Inv X pins σ H s) (z0 : Z0 z TI TO i1 i2 fp1 fp2 St1 St2 s.heap) (hf : ∀ c ∈ [z, TO, i1, i2], FpOk X pins H c)
    (hl : ∀ S, H S = none → layZ S zs [] (upd H S (.lst [])) fun vs H' => Qv (.ref S) H') {Q : Value → Shared → Prop}
    (hQ : ∀ p s' H', Inv X pins σ H' s' → Qv (.ref p) H' → Q (.ref p) s') : wpAny (model X.prog X.w) A (call (.type "list") [.ref z]) Q E s := by
  have hSn : H s.heap.objs.size = none := I.hok.fresh (Nat.le_refl _)
  have hlive := z0.live
  have hSf : s.heap.objs.size ∉ z :: TI :: TO :: (fp1 ++ fp2) := fun hm => by
    obtain ⟨o, e⟩ := hlive _ hm
    exact Nat.lt_irrefl _ (Heap.lt_size e)
  refine callType_codes (Q₁ := fun obj s1 => obj = .ref s.heap.objs.size ∧ s1 = { s with heap := s.heap.push { cls := .type "list", data := .seq #[] } }) F.called_list (F.typeCall_list_1 _) F.entry_list_init (code_list_new _ ⟨rfl, rfl⟩) fun obj s1 h1 => ?_
  obtain ⟨rfl, rfl⟩ := h1
  have e1 : (s.heap.push { cls := .type "list", data := .seq #[] }).get? s.heap.objs.size = some { cls := .type "list", data := .seq #[] } := Heap.get?_push_size _ rfl
  have e2 := Heap.get?_update_self (Obj.mapSeq (fun _ => (#[] : Array Value))) e1 rfl
  have up : ∀ b o, s.heap.get? b = some o → ((s.heap.push { cls := .type "list", data := .seq #[] }).update s.heap.objs.size (Obj.mapSeq (fun _ => (#[] : Array Value)))).get? b = some o := fun b o e =>
    (Heap.get?_update_other _ _ (Ne.symm (Nat.ne_of_lt (Heap.lt_size e)))).trans (Heap.get?_push_of_some _ e)
  have I1 : Inv X pins σ (upd H s.heap.objs.size (.lst [])) { s with heap := (s.heap.push { cls := .type "list", data := .seq #[] }).update s.heap.objs.size (Obj.mapSeq (fun _ => (#[] : Array Value))) } :=
    I.laid (t' := s.toks) up (Nat.le_refl _) (show _ ∧ ∃ (its' : List Value) (n' : Nat), _ ∧ _ from ⟨Nat.zero_le _, [], _, .nil, e2⟩)
  refine ⟨⟨_, e1, rfl⟩, F.args_list_init_2 _ _, ?_⟩
  show wpAny _ A.in1.in1 (do let old ← Builtin.List.listItems (.ref s.heap.objs.size); Builtin.List.listUpdate (.ref s.heap.objs.size) (fun _ => #[]); letGo old.toList.reverse; Builtin.List.listExtendWith (.ref s.heap.objs.size) (.ref z) .none) _ _ _
  refine wpAny_bind ?_
  unfold Builtin.List.listItems
  refine wpAny_bind (wpAny_seqItems e1 rfl (wpAny_pure ?_))
  show wpAny _ A.in1.in1 (updateSeq s.heap.objs.size (fun _ => #[]) >>= fun _ => letGo (#[] : Array Value).toList.reverse >>= fun _ => Builtin.List.listExtendWith (.ref s.heap.objs.size) (.ref z) .none) _ _ _
  refine wpAny_bind (wpAny_updateSeq e1 rfl (wpAny_bind (wpAny_letGo ?_)))
  refine ext_zip (X := X) W hSf _ (A := A.in1) hA (fun s' H' vs I' hs' hr => ?_) I1 upd_same (z0.at W.zd ⟨A, hA⟩ up) (fun c hc => ?_) (hl _ hSn) (fun s' h => ⟨plainId_quiet F.plain_extend_loop _, h⟩)
  · exact ⟨rfl, hQ _ s' H' I' hr⟩
  · have c1 : c ≠ s.heap.objs.size := fun x => hSf (by
      have m1 := W.zd.sep.mem1
      have m2 := W.zd.sep.mem2
      rw [← x]
      simp only [List.mem_cons, List.not_mem_nil, or_false] at hc
      rcases hc with rfl | rfl | rfl | rfl <;> simp [m1, m2])
    have f1 := hf c hc
    exact ⟨by rw [upd_ne c1]; exact f1.1, f1.2⟩
end
end EV
namespace EV
open PySem PySem.Spec PyProof.Rows L2
/-- T(z), z a fresh zip over the pairs zs -/
def CallZ (X : Cx) (T : String) (r : List (V × V) → Hp → VK → Prop) : Prop :=
  ∀ (pins : List (Addr × Obj)) (σ : L2.St) (s : Shared) (H : Hp) (z TI TO i1 i2 : Addr) (fp1 fp2 : List Addr) (t1 t2 : Array Value) (St1 St2 : Nat → Heap → Prop) (zs : List (V × V)) (Q : VK), Inv X pins σ H s →
    ZW X z TI TO i1 i2 fp1 fp2 t1.size t2.size (fun i v => t1[i]? = some v) (fun i v => t2[i]? = some v) St1 St2 zs → Z0 z TI TO i1 i2 fp1 fp2 St1 St2 s.heap → (∀ c ∈ [z, TO, i1, i2], FpOk X pins H c) → r zs H Q →
    wpAny (model X.prog X.w) X.A (call (.type T) [.ref z]) (EP X pins σ Q) X.xe s
def rZt (zs : List (V × V)) (H : Hp) (Q : VK) : Prop := ∀ S, H S = none → layZ S zs [] (upd H S (.lst [])) fun vs H' => ∀ p o, H' p = none → o.dict = none → Q (.ref p) (upd H' p (.frz o (.tup vs)))
def rZl (zs : List (V × V)) (H : Hp) (Q : VK) : Prop := ∀ S, H S = none → layZ S zs [] (upd H S (.lst [])) fun vs H' => Q (.ref S) H'
def rZd (zs : List (V × V)) (H : Hp) (Q : VK) : Prop := ∃ kvs : List (Key × V), zs = kvs.map (fun kv => (kV kv.1, kv.2)) ∧ ∀ p, H p = none → Q (.ref p) (upd H p (.dK (mergeK [] kvs)))
section
variable {X : Cx}
theorem cz_tup (hc : X.calm = true) : CallZ X "tuple" rZt := fun pins σ s H z TI TO i1 i2 fp1 fp2 t1 t2 St1 St2 zs Q I W z0 hf q =>
  call_tup_zip (Qv := Q) W (I.ok.hd hc) I z0 hf q fun p s' H' I' h => ⟨.ref p, H', I', rfl, h⟩
theorem cz_lst (hc : X.calm = true) : CallZ X "list" rZl := fun pins σ s H z TI TO i1 i2 fp1 fp2 t1 t2 St1 St2 zs Q I W z0 hf q =>
  call_lst_zip (Qv := Q) W (I.ok.hd hc) I z0 hf q fun p s' H' I' h => ⟨.ref p, H', I', rfl, h⟩
theorem kv_at : ∀ {kvs : List (Key × V)} {us : List Value} {i : Nat} {kv : Key × V} {v : Value}, kvs[i]? = some kv → us[i]? = some v → (List.zipWith (fun (a : Key × V) (b : Value) => (a.1, b)) kvs us)[i]? = some (kv.1, v)
  | [], _, _, _, _, h, _ => by simp at h
  | _ :: _, [], _, _, _, _, h => by simp at h
  | a :: r, b :: t, 0, kv, v, h, h2 => by
    cases (show some a = some kv from h)
    cases (show some b = some v from h2)
    rfl
  | a :: r, b :: t, i + 1, kv, v, h, h2 => kv_at (kvs := r) (us := t) (i := i) (by simpa using h) (by simpa using h2)
theorem kv_rel : ∀ {kvs : List (Key × V)} {us : List Value}, kvs.length ≤ us.length → (∀ (i : Nat) (kv : Key × V) (v : Value), kvs[i]? = some kv → us[i]? = some v → RelV kv.2 v) → KV kvs (List.zipWith (fun (a : Key × V) (b : Value) => (a.1, b)) kvs us)
  | [], us, _, _ => by rw [List.zipWith_nil_left]; exact .nil
  | a :: r, [], h, _ => absurd h (by simp)
  | a :: r, b :: t, h, k => by
    rw [List.zipWith_cons_cons]
    exact .cons ⟨rfl, k 0 a b rfl rfl⟩ (kv_rel (by simpa using h) fun i kv v e1 e2 => k (i + 1) kv v (by simpa using e1) (by simpa using e2))
theorem cz_dic (hc : X.calm = true) : CallZ X "dict" rZd := fun pins σ s H z TI TO i1 i2 fp1 fp2 t1 t2 St1 St2 zs Q I W z0 hf q => by
  obtain ⟨kvs, rfl, q⟩ := q
  have b1 := W.b1
  have b2 := W.b2
  have be := W.be
  have bz := W.bz
  rw [List.length_map] at b1 b2 be bz
  have rel := W.rel
  have hz : ∀ (i : Nat) (kv : Key × V), kvs[i]? = some kv → (kvs.map fun kv => (kV kv.1, kv.2))[i]? = some (kV kv.1, kv.2) := fun i kv e => by rw [List.getElem?_map, e]; rfl
  have hrel : KV kvs (List.zipWith (fun (a : Key × V) (b : Value) => (a.1, b)) kvs t2.toList) := kv_rel (by rw [Array.length_toList]; exact b2) fun i kv v e1 e2 => by
    have hi : i < kvs.length := (List.getElem?_eq_some_iff.mp e1).1
    have h1 : t1[i]? = some t1[i] := Array.getElem?_eq_getElem (Nat.lt_of_lt_of_le hi b1)
    exact (rel i _ _ v (hz i kv e1) h1 (by rw [← Array.getElem?_toList]; exact e2)).2
  have hlen : (List.zipWith (fun (a : Key × V) (b : Value) => (a.1, b)) kvs t2.toList).length = kvs.length := by rw [List.length_zipWith, Array.length_toList]; exact Nat.min_eq_left b2
  have hn : min t1.size t2.size = kvs.length := by omega
  have hlive := z0.live
  have m1 := W.zd.sep.mem1
  have m2 := W.zd.sep.mem2
  refine call_dict_pairs (knd := mixKind X.prog X.w) (arg_zip X.A (I.ok.hd hc) W.zd) (I.ok.hd hc) z0 (kvs := List.zipWith (fun (a : Key × V) (b : Value) => (a.1, b)) kvs t2.toList) ⟨by rw [hlen, hn], fun i key v hr => ?_⟩ (by rw [hn]; exact bz) fun h' tk hd' hk => ?_
  · obtain ⟨r1, r2⟩ := hr
    have hi : i < kvs.length := by
      have a1 := (Array.getElem?_eq_some_iff.mp r1).1
      have a2 := (Array.getElem?_eq_some_iff.mp r2).1
      omega
    have e1 : kvs[i]? = some kvs[i] := List.getElem?_eq_getElem hi
    exact ⟨kvs[i].1, kv_at e1 (by rw [Array.getElem?_toList]; exact r2), kV_is (P := X.prog) (w := X.w) (rel i _ key v (hz i _ e1) r1 r2).1⟩
  · have hm : (s.heap.objs.size == sysModules) = false := beq_eq_false_iff_ne.mpr (Nat.ne_of_gt I.big)
    have hlen2 : (mergeK [] kvs).length ≤ sizeLine := Nat.le_trans (length_mergeK kvs []) (by rw [List.length_nil, Nat.zero_add]; exact bz)
    have I2 : Inv X pins σ (upd H s.heap.objs.size (.dK (mergeK [] kvs))) { s with heap := h', toks := tk } :=
      I.turnedNew (t' := tk) (ch := [z, TO, i1, i2]) hk hf (Nat.le_refl _) (show ObjOk X.prog X.w _ _ _ (.dK (mergeK [] kvs)) from ⟨hlen2, hm, merged [] _, KV.merge hrel .nil, hd'⟩)
    exact ⟨.ref s.heap.objs.size, _, I2, rfl, q _ (I.hok.fresh (Nat.le_refl _))⟩
/-- T(zip(a, b)) -/
def tZp (K : PySem.W.Frag) (r : List (V × V) → Hp → VK → Prop) (ta : TA) : TE := fun σ H Q => ta σ H fun vs H1 => ∃ a b xs ys, vs = [.ref a, .ref b] ∧ ((SqL K H1 a xs ∧ SqL K H1 b ys) ∨ (SqT K H1 a xs ∧ SqT K H1 b ys)) ∧ r (xs.zip ys) H1 Q
theorem zip_rel {xs ys : List V} {us ws : List Value} (h1 : Vals xs us) (h2 : Vals ys ws) (i : Nat) (p : V × V) (u v : Value) (e : (xs.zip ys)[i]? = some p) (e1 : us.toArray[i]? = some u) (e2 : ws.toArray[i]? = some v) : RelV p.1 u ∧ RelV p.2 v := by
  rw [List.getElem?_zip_eq_some] at e
  obtain ⟨u', a1, a2⟩ := h1.get e.1
  obtain ⟨v', a3, a4⟩ := h2.get e.2
  have q1 : us[i]? = some u := by simpa using e1
  have q2 : ws[i]? = some v := by simpa using e2
  rw [a1] at q1; cases q1
  rw [a3] at q2; cases q2
  exact ⟨a2, a4⟩
theorem pe_zp {T : String} {nm : Str} {r : List (V × V) → Hp → VK → Prop} {e e2 : Expr} {ta : TA} {p p2 pos pos2 : Pos} (hz : CallZ X T r) (hg : Gl X nm) (hm : X.mg nm = none) (hv : bootBuiltins nm = some (.type T)) (hg2 : Gl X "zip") (hm2 : X.mg "zip" = none) (ha : PA X [e, e2] ta)
    (hs : starEach [e, e2] X.env = (false, eval e X.env) :: starEach [e2] X.env) (hpl : ∀ pos : Pos, (backTo pos (starEach [e2] X.env)).any (·.1) = false) (hn : nm ≠ "__name__") (hd : (nm == ("__debug__" : Str)) = false) :
    PE X (.Call (.Name nm p) [.Call (.Name "zip" p2) [e, e2] [] pos2] [] pos) (tZp X.K r ta) := by
  refine ⟨fun pins s σ H Q I h => ?_⟩
  refine wpAny_Call_Name_kw (ld_blt I hg hm hv ?_ hn hd)
  refine PyProof.Rows.callWith_type1 (Calls.spliced_cons ?_) rfl rfl
  refine wpAny_Call_Name_kw (ld_blt I hg2 hm2 PyProof.Rows.boot_zip (PyProof.Rows.callWith_type1 (thn (ha.run pos2 pins s σ H _ I h) fun us s1 ⟨vs, H1, I1, r1, q1⟩ => ?_) hs (hpl pos2)))
  obtain ⟨a, b, xs, ys, rfl, q1, q2⟩ := q1
  obtain ⟨u1, u2, rfl, rx, ry⟩ := vals2 r1
  cases rx
  cases ry
  have fresh5 : ∀ c, c ∈ [s1.heap.objs.size + 4, s1.heap.objs.size + 3, s1.heap.objs.size, s1.heap.objs.size + 1] → FpOk X pins H1 c := fun c hc => by
    have hle : s1.heap.objs.size ≤ c := by
      simp only [List.mem_cons, List.not_mem_nil, or_false] at hc
      rcases hc with e | e | e | e
      · rw [e]; exact Nat.le_add_right _ _
      · rw [e]; exact Nat.le_add_right _ _
      · rw [e]; exact Nat.le_refl _
      · rw [e]; exact Nat.le_add_right _ _
    exact I1.fpOk hle (I1.hok.fresh hle)
  rcases q1 with ⟨k1, k2⟩ | ⟨k1, k2⟩
  · obtain ⟨t1, rv1, p1, z1⟩ := I1.list k1
    obtain ⟨t2, rv2, p3, z2⟩ := I1.list k2
    have l1 := p1.lt
    have l2 := p3.lt
    have g1 := p1.isList
    have g2 := p3.isList
    refine call_zip_2 g1 g2 fun h' a1 a2 a3 a4 a5 a6 hk => Calls.spliced_nil ?_
    have y1 := g1.at fun o e => hk _ o e
    have y2 := g2.at fun o e => hk _ o e
    have n1 := rv1.length
    have n2 := rv2.length
    exact hz pins σ { s1 with heap := h' } H1 _ _ _ _ _ _ _ t1.toArray t2.toArray _ _ (xs.zip ys) Q (I1.kept (t' := s1.toks) hk)
      ⟨zd_lst l1 l2 _ _, by simp; omega, by simp; omega, by simp; omega, by simp; omega, zip_rel rv1 rv2⟩
      ⟨a1, a2, ⟨_, _, a3⟩, ⟨a4, y1⟩, ⟨a5, y2⟩, fun m hm => by
        simp only [List.cons_append, List.nil_append, List.mem_cons, List.not_mem_nil, or_false] at hm
        rcases hm with rfl | rfl | rfl | rfl
        · obtain ⟨o, e, _⟩ := a4; exact ⟨o, e⟩
        · obtain ⟨o, e, _⟩ := y1; exact ⟨o, e⟩
        · obtain ⟨o, e, _⟩ := a5; exact ⟨o, e⟩
        · obtain ⟨o, e, _⟩ := y2; exact ⟨o, e⟩⟩ fresh5 q2
  · obtain ⟨t1, rv1, p1, z1⟩ := I1.tuple k1
    obtain ⟨t2, rv2, p3, z2⟩ := I1.tuple k2
    have l1 : a < s1.heap.objs.size := p1.lt
    have l2 : b < s1.heap.objs.size := p3.lt
    have g1 : s1.heap.IsTuple a t1.toArray := p1
    have g2 : s1.heap.IsTuple b t2.toArray := p3
    refine RZ.call_zipT g1 g2 fun h' a1 a2 a3 a4 a5 a6 hk => Calls.spliced_nil ?_
    have y1 := g1.at fun o e => hk _ o e
    have y2 := g2.at fun o e => hk _ o e
    have n1 := rv1.length
    have n2 := rv2.length
    exact hz pins σ { s1 with heap := h' } H1 _ _ _ _ _ _ _ t1.toArray t2.toArray _ _ (xs.zip ys) Q (I1.kept (t' := s1.toks) hk)
      ⟨zd_tup l1 l2 _ _, by simp; omega, by simp; omega, by simp; omega, by simp; omega, zip_rel rv1 rv2⟩
      ⟨a1, a2, ⟨_, _, a3⟩, ⟨a4, y1⟩, ⟨a5, y2⟩, fun m hm => by
        simp only [List.cons_append, List.nil_append, List.mem_cons, List.not_mem_nil, or_false] at hm
        rcases hm with rfl | rfl | rfl | rfl
        · obtain ⟨o, e, _⟩ := a4; exact ⟨o, e⟩
        · obtain ⟨o, e, _⟩ := y1; exact ⟨o, e⟩
        · obtain ⟨o, e, _⟩ := a5; exact ⟨o, e⟩
        · obtain ⟨o, e, _⟩ := y2; exact ⟨o, e⟩⟩ fresh5 q2
end
end EV

/-! tuple(zip(a, b)), list(zip(a, b)), dict(zip(a, b)) do what their trees come to. -/
namespace EV
open PySem PySem.Spec PyProof.Rows L2
section
variable {X : Cx} {G : Gw} {W : WX} {σ : L2.St} {μ τ : List Addr} {H H1 : Hp} {m : Mem} {Q : VK}
/-- pairs of values, each told -/
inductive RPs (G : Gw) (μ τ : List Addr) (H : Hp) : List (D × D) → List (V × V) → Prop where
  | nil : RPs G μ τ H [] []
  | cons {d : D × D} {v : V × V} {ds : List (D × D)} {vs : List (V × V)} : Rep G μ τ H d.1 v.1 → Rep G μ τ H d.2 v.2 → RPs G μ τ H ds vs → RPs G μ τ H (d :: ds) (v :: vs)
theorem RPs.zip : ∀ {xs ys : List D} {vs ws : List V}, Reps G μ τ H xs vs → Reps G μ τ H ys ws → RPs G μ τ H (xs.zip ys) (vs.zip ws)
  | [], _, _, _, r, _ => by
    cases (show _ = [] from r)
    rw [List.zip_nil_left, List.zip_nil_left]
    exact .nil
  | _ :: _, [], _, _, _, r => by
    cases (show _ = [] from r)
    rw [List.zip_nil_right, List.zip_nil_right]
    exact .nil
  | _ :: _, _ :: _, _, _, r, s => by
    obtain ⟨v, vs, rfl, r1, r2⟩ := r
    obtain ⟨w, ws, rfl, s1, s2⟩ := s
    rw [List.zip_cons_cons, List.zip_cons_cons]
    exact .cons r1 s1 (RPs.zip r2 s2)
theorem RPs.map {μ' τ' : List Addr} {H' : Hp} (f : ∀ d v, Rep G μ τ H d v → Rep G μ' τ' H' d v) : ∀ {ds : List (D × D)} {vs : List (V × V)}, RPs G μ τ H ds vs → RPs G μ' τ' H' ds vs
  | _, _, .nil => .nil
  | _, _, .cons a b c => .cons (f _ _ a) (f _ _ b) (c.map f)
theorem RPs.fst : ∀ {ds : List (D × D)} {vs : List (V × V)}, RPs G μ τ H ds vs → Reps G μ τ H (ds.map (·.1)) (vs.map (·.1))
  | _, _, .nil => rfl
  | _, _, .cons a b c => .cons a c.fst
theorem RPs.snd : ∀ {ds : List (D × D)} {vs : List (V × V)}, RPs G μ τ H ds vs → Reps G μ τ H (ds.map (·.2)) (vs.map (·.2))
  | _, _, .nil => rfl
  | _, _, .cons a b c => .cons b c.snd
abbrev prD (p : D × D) : D := .tup [p.1, p.2]
theorem layZ_in {S : Addr} {R : List V → Hp → Prop} (hS : H1 S = none) : ∀ (ds : List (D × D)) (zs : List (V × V)) (accD : List D) (acc : List V) (H : Hp), Nxt μ τ H1 μ (S :: τ) H → Good G μ (S :: τ) m H → H S = some (.lst acc) → Reps G μ (S :: τ) H accD acc → RPs G μ (S :: τ) H ds zs →
    (∀ vs H', Nxt μ τ H1 μ (S :: τ) H' → Good G μ (S :: τ) m H' → H' S = some (.lst vs) → Reps G μ (S :: τ) H' (accD ++ ds.map prD) vs → R vs H') → layZ S zs acc H R
  | [], _, accD, acc, H, n, g, hs, ra, .nil, k => k acc H n g hs (by rw [List.map_nil, List.append_nil]; exact ra)
  | d :: ds, _, accD, acc, H, n, g, hs, ra, .cons (v := v) (vs := vs) r1 r2 rs, k => by
    intro T o hT ho
    have n1 : Nxt μ (S :: τ) H μ (T :: S :: τ) (upd H T (.frz o (.tup [v.1, v.2]))) := Nxt.laid hT
    have g1 : Good G μ (S :: τ) m (upd H T (.frz o (.tup [v.1, v.2]))) := (g.laid hT).free
    have ne : S ≠ T := fun e => by rw [e, hT] at hs; cases hs
    have hs1 : upd H T (.frz o (.tup [v.1, v.2])) S = some (.lst acc) := by rw [upd_ne ne]; exact hs
    have rr : EV.Res (upd H T (.frz o (.tup [v.1, v.2]))) (S :: τ) S := ⟨List.mem_cons_self, .inl ⟨_, hs1⟩⟩
    have t1 : Rep G μ (S :: τ) (upd H T (.frz o (.tup [v.1, v.2]))) (prD d) (.ref T) :=
      ⟨T, [v.1, v.2], rfl, TupS.of upd_same ho, .cons (r1.next n1.free g) (.cons (r2.next n1.free g) rfl)⟩
    have t2 : Reps G μ (S :: τ) (upd H T (.frz o (.tup [v.1, v.2]))) [prD d] [.ref T] := ⟨_, _, rfl, t1, rfl⟩
    refine layZ_in hS ds vs (accD ++ [prD d]) (acc ++ [.ref T]) _ (Nxt.rewrite List.mem_cons_self hs1 (fun ps z => by cases z) (n.trans n1.free) hS) (g1.rewr rr) upd_same (((ra.next n1.free g).append t2).rewr rr) ((rs.map fun _ _ r => r.next n1.free g).map fun _ _ r => r.rewr rr) fun ws H' a b c e => k ws H' a b c ?_
    rw [List.append_assoc] at e
    exact e
theorem zip_inv {d e : D} {x y : V} {zs : List (D × D)} (hK : G.K = X.K) (g : Good G μ τ m H) (r1 : Rep G μ τ H d x) (r2 : Rep G μ τ H e y) (h : zipS m d e = some zs) :
    ∃ a b vs ws, x = .ref a ∧ y = .ref b ∧ ((SqL X.K H a vs ∧ SqL X.K H b ws) ∨ (SqT X.K H a vs ∧ SqT X.K H b ws)) ∧ RPs G μ τ H zs (vs.zip ws) := by
  unfold zipS at h
  split at h
  · cases h
    obtain ⟨a, vs, rfl, q1, s1⟩ := r1
    obtain ⟨b, ws, rfl, q2, s2⟩ := r2
    exact ⟨a, b, vs, ws, rfl, rfl, .inr ⟨hK ▸ q1.sqT, hK ▸ q2.sqT⟩, RPs.zip s1 s2⟩
  · split at h
    · rename_i xs ys h1 h2
      cases h
      obtain ⟨a, vs, rfl, q1, s1⟩ := lst_inv g r1 h1
      obtain ⟨b, ws, rfl, q2, s2⟩ := lst_inv g r2 h2
      exact ⟨a, b, vs, ws, rfl, rfl, .inl ⟨.inl (.inl q1), .inl (.inl q2)⟩, RPs.zip s1 s2⟩
    · cases h
def rZk : Nat → List (V × V) → Hp → VK → Prop
  | 0 => rZt
  | 1 => rZl
  | _ => rZd
theorem zpv_inv {k : Nat} {ds : List (D × D)} {zs : List (V × V)} (g : Good G μ τ m H) (r : RPs G μ τ H ds zs) (q : PstF G W σ μ τ H (zpvD k ds m) Q) : rZk k zs H Q := by
  have lay : ∀ S, H S = none → Nxt μ τ H μ (S :: τ) (upd H S (.lst [])) ∧ Good G μ (S :: τ) m (upd H S (.lst [])) ∧ RPs G μ (S :: τ) (upd H S (.lst [])) ds zs := fun S hS =>
    have n : Nxt μ τ H μ (S :: τ) (upd H S (.lst [])) := Nxt.laid hS
    ⟨n, g.laid hS, r.map fun _ _ z => z.next n g⟩
  match k with
  | 0 =>
    intro S hS
    obtain ⟨n, g1, r1⟩ := lay S hS
    refine layZ_in hS ds zs [] [] _ n g1 upd_same rfl r1 fun vs H' n' g' _ rs p o hp ho => ?_
    have q : Pst G W σ μ τ H (RD G τ) (.ok (.tup (ds.map prD)) m) Q := q
    have nl : Nxt μ τ H' μ (p :: τ) (upd H' p (.frz o (.tup vs))) := Nxt.laid hp
    have rs' : Reps G μ τ H' (ds.map prD) vs := Reps.free g' (by rw [List.nil_append] at rs; exact rs)
    exact q (.ref p) _ μ (n'.free.trans nl.free) (g'.free.laid hp).free ⟨p, vs, rfl, TupS.of upd_same ho, rs'.next nl.free g'.free⟩
  | 1 =>
    intro S hS
    obtain ⟨n, g1, r1⟩ := lay S hS
    refine layZ_in hS ds zs [] [] _ n g1 upd_same rfl r1 fun vs H' n' g' hs rs => ?_
    exact q S vs H' μ n' hS g' hs (by rw [List.nil_append] at rs; exact rs)
  | k + 2 =>
    cases hd : dspD (ds.map (·.1)) (ds.map (·.2)) [] [] with
    | none =>
      have q : PstF G W σ μ τ H (R.of (dspD (ds.map (·.1)) (ds.map (·.2)) [] []) m) Q := q
      rw [hd] at q
      exact False.elim q
    | some d =>
      have q : PstF G W σ μ τ H (R.of (dspD (ds.map (·.1)) (ds.map (·.2)) [] []) m) Q := q
      rw [hd] at q
      obtain ⟨qs, xs, ws, kvs, f1, f2, f3, f4, f5, f6⟩ := dsp_inv _ _ [] [] zs [] d hd r.fst r.snd rfl rfl
      subst f1 f2
      have e : mergeK [] kvs = qs.zip ws := f4
      refine ⟨kvs, rfl, fun p hp => ?_⟩
      rw [e]
      have nl : Nxt μ τ H μ (p :: τ) (upd H p (.dK (qs.zip ws))) := Nxt.laid hp
      exact q p ws _ μ nl hp (g.laid hp) upd_same f5 (f6.next nl g)
theorem cz_k (hc : X.calm = true) : ∀ (k : Nat) (T : String), (T = match k with | 0 => "tuple" | 1 => "list" | _ => "dict") → CallZ X T (rZk k)
  | 0, _, h => by rw [h]; exact cz_tup hc
  | 1, _, h => by rw [h]; exact cz_lst hc
  | _ + 2, _, h => by rw [h]; exact cz_dic hc
theorem ev_zp {k : Nat} {T : String} {nm : Str} {e e2 : Expr} {fs : Rho → Mem → R (List D)} {p p2 pos pos2 : Pos} (hK : G.K = X.K) (hc : X.calm = true) (hT : T = match k with | 0 => "tuple" | 1 => "list" | _ => "dict") (hg : Gl X nm) (hm : X.mg nm = none) (hv : bootBuiltins nm = some (.type T)) (hg2 : Gl X "zip") (hm2 : X.mg "zip" = none) (ha : EvA X G W [e, e2] fs)
    (hs : starEach [e, e2] X.env = (false, eval e X.env) :: starEach [e2] X.env) (hpl : ∀ pos : Pos, (backTo pos (starEach [e2] X.env)).any (·.1) = false) (hn : nm ≠ "__name__") (hd : (nm == ("__debug__" : Str)) = false) :
    EvF X G W (.Call (.Name nm p) [.Call (.Name "zip" p2) [e, e2] [] pos2] [] pos) (fun ρ m => (fs ρ m).bind fun ds m1 => zpvA k ds m1) := by
  refine PE.imp (pe_zp (cz_k hc k T hT) hg hm hv hg2 hm2 ha hs hpl hn hd) fun σ H Q h => ?_
  obtain ⟨ρ, m, μ, τ, g, s, h⟩ := args_inv h
  refine ⟨ρ, m, μ, τ, g, s, h.imp fun vs H1 ⟨W', σ', ds, m1, μ1, τ1, g1, rs, q⟩ => ?_⟩
  unfold zpvA at q
  split at q
  · rename_i d d2
    obtain ⟨x, y, rfl, r1, r2⟩ := two_inv rfl rs
    split at q
    · rename_i zs hz
      obtain ⟨a, b, xs, ys, rfl, rfl, f1, f2⟩ := zip_inv hK g1 r1 r2 hz
      exact ⟨a, b, xs, ys, rfl, f1, zpv_inv g1 f2 q⟩
    · exact False.elim q
  · exact False.elim q
end
end EV

/-! The matcher: that a tree tells a text. -/
namespace EV
open PySem PySem.Spec PyProof.Rows L2

/-- where a text stands -/
structure MC where
  xs : List Xc
  T : List Fn
  GK : List (Str × D)
  N : List Str
  sc : Scope
  fn : Str → Bool
  lam : Bool
def dbg (x : Str) : Bool := (x == ("__debug__" : Str)) || (x == ("__classdict__" : Str))
def visB (c : MC) (x : Str) : Bool := match c.sc.names.lookup x with
  | some .local => true
  | some .cell => true
  | some .free => true
  | _ => false
def locB (c : MC) (x : Str) : Bool := match c.sc.names.lookup x with
  | some .local => true
  | some .cell => c.fn x
  | _ => false
def glB (c : MC) (x : Str) : Bool := decide (c.sc.names.lookup x = some .globalImplicit) && !dbg x
def isBlt (c : MC) (x : Str) (y : String) : Bool := decide (x = Str.ofString y) && glB c x
def ixB : Expr → Bool
  | .Name _ _ => true | .Constant _ _ _ => true | .BinOp _ _ _ _ => true | .UnaryOp _ _ _ => true | .Subscript _ _ _ => true | .Call _ _ _ _ => true | .Tuple _ _ _ => true | .IfExp _ _ _ _ => true | .Attribute _ _ _ => true
  | _ => false
def noSet : Expr → Bool
  | .Set _ _ _ => false
  | _ => true
def blkOf (c : MC) (scope : Scope) : MC := ⟨c.xs, c.T, c.GK, c.N, relS scope c.sc, fun x => scope.names.lookup x == some .cell, false⟩
/-- within a lambda without parameters -/
def lamOf (c : MC) (scope : Scope) : MC := ⟨c.xs, c.T, c.GK, c.N, scope, fun _ => false, false⟩
def asLam : Expr → Option (Str × Pos × Expr × Scope × Pos × Pos)
  | .Call (.Name x px) [.Lambda ⟨[], [], none, [], [], none, []⟩ body scope lp] [] p => some (x, px, body, scope, lp, p)
  | _ => none
theorem asLam_eq {e : Expr} {x : Str} {px : Pos} {body : Expr} {scope : Scope} {lp p : Pos} (h : asLam e = some (x, px, body, scope, lp, p)) : e = .Call (.Name x px) [.Lambda ⟨[], [], none, [], [], none, []⟩ body scope lp] [] p := by
  unfold asLam at h
  split at h
  · cases h; rfl
  · cases h
def asSrk : Expr → Option (Expr × Scope)
  | .Call (.Name x _) [a] [⟨some kk, .Lambda ⟨[], [⟨o1, none, _⟩], none, [], [], none, []⟩ (.Tuple [.Call (.Name l _) [.Subscript (.Name o2 _) (.Constant (.int i) _ _) _] [] _, .Name o3 _] _ _) scope _, _⟩] _ =>
    if x = Str.ofString "sorted" ∧ kk = Str.ofString "key" ∧ o1 = oneN ∧ o2 = oneN ∧ o3 = oneN ∧ l = Str.ofString "len" ∧ i = 2 then some (a, scope) else none
  | _ => none
theorem asSrk_eq {e a : Expr} {scope : Scope} (h : asSrk e = some (a, scope)) : ∃ (p pa q0 q1 q2 q3 q4 q5 q6 lp kpos pos : Pos) (j j2 : Nat), e = .Call (.Name (Str.ofString "sorted") p) [a] [⟨some (Str.ofString "key"), .Lambda (keyArgs pa) (keyBody q0 q1 q2 q3 q4 q5 q6 j j2) scope lp, kpos⟩] pos := by
  unfold asSrk at h
  split at h
  · split at h
    · rename_i z
      obtain ⟨rfl, rfl, rfl, rfl, rfl, rfl, rfl⟩ := z
      cases h
      exact ⟨_, _, _, _, _, _, _, _, _, _, _, _, _, _, rfl⟩
    · cases h
  · cases h
def asCall0 : Expr → Option (Str × Pos × Pos)
  | .Call (.Name x px) [] [] p => some (x, px, p)
  | _ => none
theorem asCall0_eq {e : Expr} {x : Str} {px p : Pos} (h : asCall0 e = some (x, px, p)) : e = .Call (.Name x px) [] [] p := by
  unfold asCall0 at h
  split at h
  · cases h; rfl
  · cases h
def biN : Bi → String
  | .len => "len" | .all => "all" | .any => "any" | .sum => "sum" | .abs => "abs" | .int => "int" | .str => "str" | .repr => "repr" | .sorted => "sorted" | .tuple => "tuple" | .list => "list" | .min => "min" | .max => "max" | .ord => "ord" | .sortedItems => "sorted" | .dict => "dict"
def zpN : Nat → String
  | 0 => "tuple" | 1 => "list" | _ => "dict"
def bmN : Bm → Option String
  | .append => some "append" | .extend => some "extend" | .join => some "join"
  | _ => none
def tyB (c : MC) (t : Ty) : Expr → Bool
  | .Name x _ => isBlt c x (tyN t)
  | _ => false
def tysB (c : MC) : List Ty → List Expr → Bool
  | [], [] => true
  | t :: ts, n :: ns => tyB c t n && tysB c ts ns
  | _, _ => false
def plainT : Expr → Bool
  | .UnaryOp .Not _ _ => false | .BoolOp _ _ _ => false | .IfExp _ _ _ _ => false | .Compare _ _ _ _ => false
  | _ => true
mutual
def mT (c : MC) : Tg → Expr → Bool
  | .nm i, .Name x _ => decide (c.N[i]? = some x) && locB c x
  | .tp ts, .Tuple es _ _ => mTs c ts es && es.all noStar && decide (es.length = tgsN ts)
  | _, _ => false
def mTs (c : MC) : Tgs → List Expr → Bool
  | .nil, [] => true
  | .cons t ts, e :: es => mT c t e && mTs c ts es
  | _, _ => false
end
/-! the forms of texts -/
def asCall : Expr → Option (Str × Pos × Expr × List Expr × Pos)
  | .Call (.Name x px) (y :: ys) [] p => some (x, px, y, ys, p)
  | _ => none
theorem asCall_eq {e : Expr} {x : Str} {px : Pos} {y : Expr} {ys : List Expr} {p : Pos} (h : asCall e = some (x, px, y, ys, p)) : e = .Call (.Name x px) (y :: ys) [] p := by
  unfold asCall at h
  split at h
  · cases h; rfl
  · cases h
def asMeth : Expr → Option (Expr × Str × Pos × Expr × List Expr × Pos)
  | .Call (.Attribute o n ap) (y :: ys) [] p => some (o, n, ap, y, ys, p)
  | _ => none
theorem asMeth_eq {e o : Expr} {n : Str} {ap : Pos} {y : Expr} {ys : List Expr} {p : Pos} (h : asMeth e = some (o, n, ap, y, ys, p)) : e = .Call (.Attribute o n ap) (y :: ys) [] p := by
  unfold asMeth at h
  split at h
  · cases h; rfl
  · cases h
def asMeth0 : Expr → Option (Expr × Str × Pos × Pos)
  | .Call (.Attribute o n ap) [] [] p => some (o, n, ap, p)
  | _ => none
theorem asMeth0_eq {e o : Expr} {n : Str} {ap p : Pos} (h : asMeth0 e = some (o, n, ap, p)) : e = .Call (.Attribute o n ap) [] [] p := by
  unfold asMeth0 at h
  split at h
  · cases h; rfl
  · cases h
def asRev : Expr → Option (Expr × Nat × Pos × Pos × Pos × Pos)
  | .Subscript o (.Slice none none (some (.UnaryOp .USub (.Constant (.int 1) k p1) p2)) p3) p => some (o, k, p1, p2, p3, p)
  | _ => none
theorem asRev_eq {e o : Expr} {k : Nat} {p1 p2 p3 p : Pos} (h : asRev e = some (o, k, p1, p2, p3, p)) : e = .Subscript o (.Slice none none (some (.UnaryOp .USub (.Constant (.int 1) k p1) p2)) p3) p := by
  unfold asRev at h
  split at h
  · cases h; rfl
  · cases h
def asLc : Expr → Option (Expr × Expr × Expr × List Expr × Scope × Pos)
  | .ListComp elt [⟨tg, iter, ifs, 0⟩] scope p => some (elt, tg, iter, ifs, scope, p)
  | _ => none
theorem asLc_eq {e elt tg iter : Expr} {ifs : List Expr} {scope : Scope} {p : Pos} (h : asLc e = some (elt, tg, iter, ifs, scope, p)) : e = .ListComp elt [⟨tg, iter, ifs, 0⟩] scope p := by
  unfold asLc at h
  split at h
  · cases h; rfl
  · cases h
def asDc : Expr → Option (Expr × Expr × Expr × Expr × List Expr × Scope × Pos)
  | .DictComp kx vx [⟨tg, iter, ifs, 0⟩] scope p => some (kx, vx, tg, iter, ifs, scope, p)
  | _ => none
theorem asDc_eq {e kx vx tg iter : Expr} {ifs : List Expr} {scope : Scope} {p : Pos} (h : asDc e = some (kx, vx, tg, iter, ifs, scope, p)) : e = .DictComp kx vx [⟨tg, iter, ifs, 0⟩] scope p := by
  unfold asDc at h
  split at h
  · cases h; rfl
  · cases h
def asTup : Expr → Option (List Expr × Nat × Pos)
  | .Tuple es k p => some (es, k, p)
  | _ => none
theorem asTup_eq {e : Expr} {es : List Expr} {k : Nat} {p : Pos} (h : asTup e = some (es, k, p)) : e = .Tuple es k p := by
  unfold asTup at h
  split at h
  · cases h; rfl
  · cases h
def frsB : Ex → Bool
  | .lst _ => true | .dsp _ => true | .lcp _ _ _ _ _ => true | .slc _ _ _ => true | .rev _ => true | .bi _ _ => true | .itm _ => true | .bin _ _ _ => true | .srk _ => true | .dcp _ _ _ _ _ _ => true | .zpv _ _ => true
  | _ => false
/-- the classes know no such name -/
def fldB (c : MC) (f : Str) (cs : List Nat) : Bool := cs.all fun k => c.T.any fun fn => match fn.own with
  | some w => decide (w.c = k) && w.flds.contains f
  | none => false
def mthB (c : MC) (f k : Nat) (x : Str) : Bool := match c.T[f]? with
  | some fn => decide (fn.name = x) && (match fn.own with
    | some w => decide (w.c = k)
    | none => false)
  | none => false
mutual
def mE : MC → Ex → Expr → Bool
  | c, .var i, .Name x _ => decide (c.N[i]? = some x) && visB c x && !dbg x
  | _, .lit k, .Constant k' _ _ => decide (k = k')
  | c, .glo x d, .Name y _ => decide (x = y) && glB c y && decide ((x, d) ∈ c.GK) && (isMk d).isNone
  | c, .bin op a b, .BinOp l o r _ => decide (op = o) && mE c a l && mE c b r
  | c, .neg a, .UnaryOp .USub x _ => mE c a x
  | c, .not a, .UnaryOp .Not x _ => mE c a x
  | c, .cmp op a b, .Compare l [o] [r] _ => decide (op = o) && mE c a l && mE c b r && !behindInMarks op r
  | c, .cmp2 o1 o2 a b d, .Compare l [p1, p2] [r, q] _ => decide (o1 = p1) && decide (o2 = p2) && mE c a l && mE c b r && mE c d q && !lastMarks [p1, p2] [r, q]
  | c, .and a b, .BoolOp .And (x :: xs) p => mE c a x && (match xs with
    | [y] => mE c b y
    | y :: z :: r => mE c b (.BoolOp .And (y :: z :: r) p)
    | [] => false)
  | c, .or a b, .BoolOp .Or (x :: xs) p => mE c a x && (match xs with
    | [y] => mE c b y
    | y :: z :: r => mE c b (.BoolOp .Or (y :: z :: r) p)
    | [] => false)
  | c, .ife t a b, .IfExp t' a' b' _ => mE c t t' && mE c a a' && mE c b b'
  | c, .tup es, .Tuple xs _ _ => mEs c es xs && decide (xs.length ≤ 1000)
  | c, .lst es, .List xs _ => mEs c es xs && decide (xs.length ≤ 1000)
  | c, .dsp ks, .Dict keys vals _ => mKV c ks keys vals && decide (keys.length ≤ 15)
  | c, .lcp own t it cd e, x => (match asLc x with
    | some (elt, tg, iter, ifs, scope, _) => mI c tg it iter && noSet iter && blkC c.N c.sc scope own && ((tgI t).all fun i => decide (i ∈ own.map (·.2))) &&
      mT (blkOf c scope) t tg && mC (blkOf c scope) cd ifs && mE (blkOf c scope) e elt
    | none => false)
  | c, .dcp own t it cd k e, x => (match asDc x with
    | some (kx, elt, tg, iter, ifs, scope, _) => mI c tg it iter && noSet iter && blkC c.N c.sc scope own && ((tgI t).all fun i => decide (i ∈ own.map (·.2))) &&
      mT (blkOf c scope) t tg && mC (blkOf c scope) cd ifs && mE (blkOf c scope) e elt && mE (blkOf c scope) k kx
    | none => false)
  | c, .idx a b, .Subscript o i _ => mE c a o && mE c b i && ixB i
  | c, .slc a lo hi, .Subscript o (.Slice l h none _) _ => mE c a o && mO c lo l && mO c hi h
  | c, .rev a, x => (match asRev x with
    | some (o, _) => mE c a o
    | none => false)
  | c, .call f es, z => (match asCall z with
    | some (x, _, y, ys, _) => (match c.T[f]? with
      | some fn => decide (fn.name = x) && fn.own.isNone
      | none => false) && glB c x && mEs c es (y :: ys)
    | none => false)
  | c, .fld a f cs, .Attribute o n _ => decide (f = n) && mE c a o && baseOk o && fldB c f cs
  | c, .mk f k es, z => (match asCall z with
    | some (x, _, y, ys, _) => (match c.T[f]? with
      | some fn => decide (fn.name = Str.ofString "__init__") && (match fn.own with
        | some w => decide (w.cn = x) && decide (w.c = k)
        | none => false)
      | none => false) && glB c x && mEs c es (y :: ys)
    | none => false)
  | c, .mth f k x a .nil, z => (match asMeth0 z with
    | some (o, n, ap, cp) => decide (n = x) && mthB c f k x && mE c a o && baseOk o && (ap.endLine == cp.line)
    | none => false)
  | c, .mth f k x a (.cons e es), z => (match asMeth z with
    | some (o, n, ap, y, ys, cp) => decide (n = x) && mthB c f k x && mE c a o && baseOk o && mEs c (.cons e es) (y :: ys) && decide ((y :: ys).length < 20) && (ap.endLine == cp.line)
    | none => false)
  | c, .bi b es, z => (match asCall z with
    | some (x, _, y, ys, _) => isBlt c x (biN b) && decide (b ≠ .sortedItems) && mEs c es (y :: ys)
    | none => false)
  | c, .zpv k es, z => (match asCall z with
    | some (x, _, y, ys, _) => isBlt c x (zpN k) && ys.isEmpty && (match asCall y with
      | some (x2, _, y2, ys2, _) => isBlt c x2 "zip" && (match ys2 with
        | [_] => true
        | _ => false) && mEs c es (y2 :: ys2)
      | none => false)
    | none => false)
  | c, .itm a, z => (match asCall z with
    | some (x, _, y, ys, _) => isBlt c x "sorted" && ys.isEmpty && (match asMeth0 y with
      | some (o, n, ap, cp) => decide (n = Str.ofString "items") && mE c a o && baseOk o && (ap.endLine == cp.line)
      | none => false)
    | none => false)
  | c, .bm b a es, z => (match asMeth z with
    | some (o, n, ap, y, ys, cp) => (match bmN b with
      | some z => decide (n = Str.ofString z)
      | none => false) && mE c a o && baseOk o && mEs c es (y :: ys) && decide ((y :: ys).length < 20) && (ap.endLine == cp.line)
    | none => false)
  | c, .isi a ts, z => (match asCall z with
    | some (x, _, y, ys, _) => isBlt c x "isinstance" && mE c a y && noStar y && (match ys with
      | [z] => (match asTup z with
        | some (ns, _, _) => tysB c ts ns && decide (ts.length ≤ 10)
        | none => (match ts with
          | [t] => tyB c t z
          | _ => false))
      | _ => false)
    | none => false)
  | c, .alc a, e => mE c a e && frsB a
  | c, .inl neg a x ds, .Compare l [o] [.Name y _] _ => decide (o = if neg then .NotIn else .In) && mE c a l && decide (x = y) && glB c y && decide ((x, .pr (.tup ds) .fn) ∈ c.GK)
  | c, .pop a, z => (match asMeth0 z with
    | some (o, n, ap, cp) => decide (n = Str.ofString "pop") && mE c a o && baseOk o && (ap.endLine == cp.line)
    | none => false)
  | c, .dget a k x, z => (match asMeth z with
    | some (o, n, ap, y, [v], cp) => decide (n = Str.ofString "get") && mE c a o && baseOk o && mE c k y && noStar y && mE c x v && noStar v && (ap.endLine == cp.line)
    | _ => false)
  | c, .dpop a k, z => (match asMeth z with
    | some (o, n, ap, y, [], cp) => decide (n = Str.ofString "pop") && mE c a o && baseOk o && mE c k y && noStar y && (ap.endLine == cp.line)
    | _ => false)
  | c, .srk a, z => (match asSrk z with
    | some (y, scope) => mE c a y && noStar y && keyScB scope && isBlt c (Str.ofString "sorted") "sorted" && c.lam
    | none => false)
  | c, .lamc f e, z => c.lam && (match asLam z with
    | some (x, _, body, scope, _, _) => (match c.T[f]? with
      | some fn => decide (fn.name = x) && fn.told.isSome
      | none => false) && glB c x && LamX.lamSB c.sc scope && mE (lamOf c scope) e body
    | none => false)
  | _, _, _ => false
def mEs : MC → Exs → List Expr → Bool
  | _, .nil, [] => true
  | c, .cons e es, x :: xs => mE c e x && noStar x && mEs c es xs
  | _, _, _ => false
def mKV : MC → Kvs → List (Option Expr) → List Expr → Bool
  | _, .nil, [], [] => true
  | c, .cons k v r, some x :: xs, y :: ys => mE c k x && mE c v y && mKV c r xs ys
  | _, _, _, _ => false
def mO : MC → Op → Option Expr → Bool
  | _, .no, none => true
  | c, .yes e, some x => mE c e x
  | _, _, _ => false
def mC : MC → Cd → List Expr → Bool
  | _, .no, [] => true
  | c, .yes e, [x] => mE c e x
  | _, _, _ => false
def mI : MC → Expr → It → Expr → Bool
  | c, _, .ex e, x => mE c e x
  | c, _, .rng1 a, z => (match asCall z with
    | some (n, _, x, ys, _) => ys.isEmpty && isBlt c n "range" && mE c a x && noStar x
    | none => false)
  | c, _, .rng2 a b, z => (match asCall z with
    | some (n, _, x, ys, _) => (match ys with
      | [y] => isBlt c n "range" && mE c a x && noStar x && mE c b y && noStar y
      | _ => false)
    | none => false)
  | c, tg, .zip a b, z => (match asCall z with
    | some (n, _, x, ys, _) => (match ys with
      | [y] => (asTup tg).isSome && isBlt c n "zip" && mE c a x && noStar x && mE c b y && noStar y
      | _ => false)
    | none => false)
  | c, tg, .enm a, z => (match asCall z with
    | some (n, _, x, ys, _) => ys.isEmpty && (asTup tg).isSome && isBlt c n "enumerate" && mE c a x && noStar x
    | none => false)
end
end EV

/-! A matched text does what its tree comes to. -/
namespace EV
open PySem PySem.Spec PyProof.Rows L2
def bltAll : List String := ["len", "all", "any", "sum", "abs", "int", "str", "repr", "sorted", "tuple", "list", "min", "max", "ord", "isinstance", "range", "zip", "enumerate", "bool", "dict"]
/-- where a table's def stands: a name of the top, or a method -/
def AtN (K : PySem.W.Frag) (mg : Str → Option Value) (G : Gw) (f : Fn) (a : Addr) : Prop := match f.own with
  | none => mg f.name = some (.ref a)
  | some w => mg w.cn = some (.ref (G.cl w.c)) ∧ Cls K (G.cl w.c) ∧ Meth K (G.cl w.c) f.name a ∧ PySem.W.makesIn K (G.cl w.c) = true ∧ PySem.W.keepIn K (.ref (G.cl w.c)) = true ∧ ∀ x ∈ w.flds, NoAttr K (G.cl w.c) x
/-- the context as the matcher takes it; C: what calls come to -/
structure Ctx (X : Cx) (G : Gw) (c : MC) (k : Nat) (C : Nat → List D → Mem → R D) (o : Lo) : Prop where
  hK : G.K = X.K
  calm : X.calm = true
  nd : X.N.Nodup
  room : Room k X.A
  N : X.N = c.N
  sc : X.env.scope = c.sc
  fn : ∀ x, c.fn x = true → X.fn x = true
  blt : ∀ x ∈ bltAll, X.mg (Str.ofString x) = none
  glo : ∀ p ∈ c.GK, GloOk X G p.1 p.2
  fns : ∀ (i : Nat) (f : Fn), c.T[i]? = some f → ∃ (a : Addr) (fd : FuncData) (ps : List Str), AtN X.K X.mg G f a ∧ PySem.W.keepIn X.K (.ref a) = true ∧ Binds X.K fd ps [] ∧ FnOk X.prog X.w X.K X.mg X.base (CX X.prog X.w) k a fd ps (spD G (C i))
  mks : ∀ Kc, o.ctor = some Kc → ∀ (i : Nat) (f : Fn), c.T[i]? = some f → ∃ (j : Nat) (a : Addr) (fd : FuncData) (ps : List Str), k = j + 1 ∧ AtN X.K X.mg G f a ∧ Binds X.K fd ps [] ∧ FnOk X.prog X.w X.K X.mg X.base (CX X.prog X.w) j a fd ps (spD G (Kc i))
  exc : o.exc = true → 2 ≤ k
  xcs : ∀ (i : Nat) (x : Xc), 0 < i → c.xs[i]? = some x → ExcOk X.prog X.w X.K X.mg X.base G i x
  srt : c.lam = true → ∃ cc Pt, LamX.TabB X.base X.mg cc Pt ∧ X.env.code = .ref cc ∧ (Pt, X.env.qual ++ "<lambda>") ∈ G.tabs ∧ ∀ p ∈ G.tabs, p.1 = Pt → p.2 = X.env.qual ++ "<lambda>"
  lam : c.lam = true → ∀ (W : WX) (f : Nat) (fn : Fn) (e : Ex) (x : Str) (px : Pos) (body : Expr) (scope : Scope) (lp p : Pos), c.T[f]? = some fn → fn.name = x → fn.told.isSome = true → glB c x = true → LamX.lamSB c.sc scope = true →
    mE (lamOf c scope) e body = true → EvE X G W (.Call (.Name x px) [.Lambda ⟨[], [], none, [], [], none, []⟩ body scope lp] [] p) (fun ρ m => o.give f e ρ m)
section
variable {X : Cx} {G : Gw} {W : WX} {c : MC} {k : Nat} {C : Nat → List D → Mem → R D} {o : Lo}
theorem Ctx.blk (h : Ctx X G c k C o) (scope : Scope) (s : Shared) (H : Hp) (Ca : Addr) (cl : List (Str × Addr)) (fp : List Addr) : Ctx (X.blk s H scope (compEnvC scope cl Ca X.env) fp) G (blkOf c scope) k C o := by
  refine ⟨h.hK, h.calm, h.nd, h.room, h.N, ?_, fun x q => q, h.blt, h.glo, h.fns, h.mks, h.exc, h.xcs, (fun q => nomatch q), fun q => nomatch q⟩
  show relS scope X.env.scope = relS scope c.sc
  rw [h.sc]
theorem Ctx.units (h : Ctx X G c k C o) : X.A.units + 64 < cLine := h.room.units
theorem gl_of (h : Ctx X G c k C o) {x : Str} (q : glB c x = true) : Gl X x ∧ (x == ("__debug__" : Str)) = false := by
  unfold glB dbg at q
  simp only [Bool.and_eq_true, decide_eq_true_eq, Bool.not_eq_true', Bool.or_eq_false_iff] at q
  refine ⟨?_, q.2.1⟩
  show X.env.scope.names.lookup x = _
  rw [h.sc]; exact q.1
theorem blt_of (h : Ctx X G c k C o) {x : Str} {y : String} (q : isBlt c x y = true) (hy : y ∈ bltAll) : x = Str.ofString y ∧ Gl X (Str.ofString y) ∧ X.mg (Str.ofString y) = none := by
  unfold isBlt at q
  simp only [Bool.and_eq_true, decide_eq_true_eq] at q
  obtain ⟨rfl, q⟩ := q
  exact ⟨rfl, (gl_of h q).1, h.blt y hy⟩
theorem vis_of (h : Ctx X G c k C o) {x : Str} (q : visB c x = true) : Vis X.env.scope x := by
  unfold visB at q
  unfold Vis
  rw [h.sc]
  split at q <;> first | (rename_i e; rw [e]; first | exact .inl rfl | exact .inr (.inl rfl) | exact .inr (.inr rfl)) | cases q
theorem loc_of (h : Ctx X G c k C o) {x : Str} (q : locB c x = true) : L2.Loc X.env.scope x ∧ (X.fn x = true ∨ X.env.scope.names.lookup x = some .local) := by
  unfold locB at q
  unfold L2.Loc
  rw [h.sc]
  split at q
  · rename_i e; rw [e]; exact ⟨.inl rfl, .inr rfl⟩
  · rename_i e; rw [e]; exact ⟨.inr rfl, .inl (h.fn x q)⟩
  · cases q
theorem ix_plain {b : Expr} (h : ixB b = true) : PlainIx b := by
  intro o i
  cases b <;> first | rfl | exact nomatch h
theorem asg_sub {a b : Expr} {p : Pos} {env : Env} (h : ixB b = true) (v : Value) : assign (.Subscript a b p) env v = (do
      let ov ← holding [v] (eval a env)
      let iv ← holding [v, ov] (eval b env)
      standAt p
      holding [v, ov, iv] (setItem ov iv v)
      release [v, ov, iv] []) := by
  cases b <;> first | rfl | exact nomatch h
theorem noset_of {e : Expr} {env : Env} (h : noSet e = true) (x : Value) : foldedSetIterable e env x = pure x := by
  cases e <;> first | rfl | exact nomatch h
theorem sd_of (h : Ctx X G c k C o) {t : Ty} {n : Expr} (q : tyB c t n = true) : TyName X n t := by
  cases n with
  | Name x p =>
    have q : isBlt c x (tyN t) = true := q
    obtain ⟨rfl, h1, h2⟩ := blt_of h q (by cases t <;> decide)
    exact ⟨_, p, rfl, h1, h2, by cases t <;> rfl, by cases t <;> decide, by cases t <;> decide⟩
  | _ => exact nomatch q
theorem sds_of (h : Ctx X G c k C o) : ∀ {ts : List Ty} {ns : List Expr}, tysB c ts ns = true → TyNames X ns ts
  | [], [], _ => trivial
  | [], _ :: _, q => nomatch q
  | _ :: _, [], q => nomatch q
  | t :: ts, n :: ns, q => by
    unfold tysB at q
    rw [Bool.and_eq_true] at q
    exact ⟨sd_of h q.1, sds_of h q.2⟩
mutual
theorem mT_ok (h : Ctx X G c k C o) : ∀ (t : Tg) (e : Expr), mT c t e = true → EvG X G e t
  | .nm i, e, q => by
    cases e with
    | Name x p =>
      unfold mT at q
      rw [Bool.and_eq_true, decide_eq_true_eq] at q
      obtain ⟨h1, h2⟩ := loc_of h q.2
      exact evg_name h.nd (by rw [h.N]; exact q.1) h1 h2
    | _ => unfold mT at q; cases q
  | .tp ts, e, q => by
    cases e with
    | Tuple es kk p =>
      unfold mT at q
      rw [Bool.and_eq_true, Bool.and_eq_true, decide_eq_true_eq] at q
      exact evg_tup h.hK h.calm (mTs_ok h ts es q.1.1 q.1.2) q.1.2 q.2
    | _ => unfold mT at q; cases q
theorem mTs_ok (h : Ctx X G c k C o) : ∀ (ts : Tgs) (es : List Expr), mTs c ts es = true → es.all noStar = true → EvGs X G es ts
  | .nil, [], _, _ => evgs_nil
  | .nil, _ :: _, q, _ => by unfold mTs at q; cases q
  | .cons _ _, [], q, _ => by unfold mTs at q; cases q
  | .cons t ts, e :: es, q, s => by
    unfold mTs at q
    rw [Bool.and_eq_true] at q
    rw [List.all_cons, Bool.and_eq_true] at s
    exact evgs_cons (mT_ok h t e q.1) (mTs_ok h ts es q.2 s.2) s.1
end
/-- what is known of a matched text -/
structure Snd (X : Cx) (G : Gw) (W : WX) (t : Ex) (e : Expr) (f : Rho → Mem → R D) : Prop where
  ev : EvE X G W e f
  tv : EvT X G W e f
  fv : frsB t = true → EvF X G W e f
  wv : ∀ op xs p, e = .BoolOp op xs p → EvW X G W e f
theorem Snd.mk' {t : Ex} {e : Expr} {f : Rho → Mem → R D} (h : EvE X G W e f) (hf : frsB t = true → EvF X G W e f) (ht : ∀ whole, isTrue e X.env whole = (do let v ← whole; standAt e.pos; holding [v] (truthy v))) (hb : ∀ op xs p, e ≠ .BoolOp op xs p) : Snd X G W t e f :=
  ⟨h, ev_tst h ht, hf, fun op xs p z => absurd z (hb op xs p)⟩
theorem Snd.mkF {t : Ex} {e : Expr} {f : Rho → Mem → R D} (h : EvF X G W e f) (ht : ∀ whole, isTrue e X.env whole = (do let v ← whole; standAt e.pos; holding [v] (truthy v))) (hb : ∀ op xs p, e ≠ .BoolOp op xs p) : Snd X G W t e f :=
  Snd.mk' h.ev (fun _ => h) ht hb
def biKind : Bi → Value
  | .int => .type "int" | .str => .type "str" | .tuple => .type "tuple" | .list => .type "list" | .dict => .type "dict"
  | b => .builtin (biN b)
theorem len_of : ∀ (es : Exs) (xs : List Expr) (o : Lo), mEs c es xs = true → ∀ ρ m ds m', evEs C o es ρ m = .ok ds m' → ds.length = xs.length
  | .nil, [], o, _, ρ, m, ds, m', h => by unfold evEs at h; cases h; rfl
  | .nil, _ :: _, o, q, _, _, _, _, _ => by unfold mEs at q; cases q
  | .cons e es, [], o, q, _, _, _, _, _ => by unfold mEs at q; cases q
  | .cons e es, x :: xs, o, q, ρ, m, ds, m', h => by
    unfold mEs at q
    rw [Bool.and_eq_true] at q
    unfold evEs at h
    cases h1 : evE C o e ρ m with
    | bad => rw [h1] at h; cases h
    | ex _ _ _ => rw [h1] at h; cases h
    | ok d m1 =>
      rw [h1] at h
      dsimp only [R.bind] at h
      cases h2 : evEs C o es ρ m1 with
      | bad => rw [h2] at h; cases h
      | ex _ _ _ => rw [h2] at h; cases h
      | ok ds2 m2 =>
        rw [h2] at h
        dsimp only [R.bind] at h
        cases h
        rw [List.length_cons, List.length_cons, len_of es xs o q.2 ρ m1 ds2 _ h2]
theorem lenKV_of : ∀ (es : Kvs) (xs : List (Option Expr)) (ys : List Expr) (o : Lo), mKV c es xs ys = true → (∀ ρ m p m', evKV C o es ρ m = .ok p m' → p.1.length = xs.length) ∧ xs.length = ys.length ∧ xs.all (·.isSome) = true
  | .nil, [], [], o, _ => ⟨fun ρ m p m' h => by unfold evKV at h; cases h; rfl, rfl, rfl⟩
  | .nil, _ :: _, _, o, q => by unfold mKV at q; cases q
  | .nil, [], _ :: _, o, q => by unfold mKV at q; cases q
  | .cons _ _ _, [], _, o, q => by unfold mKV at q; cases q
  | .cons _ _ _, none :: _, _, o, q => by unfold mKV at q; cases q
  | .cons _ _ _, some _ :: _, [], o, q => by unfold mKV at q; cases q
  | .cons k v r, some x :: xs, y :: ys, o, q => by
    unfold mKV at q
    rw [Bool.and_eq_true] at q
    obtain ⟨h1, h2, h3⟩ := lenKV_of r xs ys o q.2
    refine ⟨fun ρ m p m' h => ?_, by rw [List.length_cons, List.length_cons, h2], by rw [List.all_cons, h3]; rfl⟩
    unfold evKV at h
    cases e1 : evE C o k ρ m with
    | bad => rw [e1] at h; cases h
    | ex _ _ _ => rw [e1] at h; cases h
    | ok d m1 =>
      rw [e1] at h
      dsimp only [R.bind] at h
      cases e2 : evE C o v ρ m1 with
      | bad => rw [e2] at h; cases h
      | ex _ _ _ => rw [e2] at h; cases h
      | ok d2 m2 =>
        rw [e2] at h
        dsimp only [R.bind] at h
        cases e3 : evKV C o r ρ m2 with
        | bad => rw [e3] at h; cases h
        | ex _ _ _ => rw [e3] at h; cases h
        | ok p3 m3 =>
          rw [e3] at h
          dsimp only [R.bind] at h
          cases h
          rw [List.length_cons, List.length_cons, h1 ρ m2 p3 _ e3]
theorem stars_of : ∀ (es : Exs) (xs : List Expr), mEs c es xs = true → xs.all noStar = true
  | .nil, [], _ => rfl
  | .nil, _ :: _, q => by unfold mEs at q; cases q
  | .cons _ _, [], q => by unfold mEs at q; cases q
  | .cons e es, x :: xs, q => by
    unfold mEs at q
    rw [Bool.and_eq_true, Bool.and_eq_true] at q
    rw [List.all_cons, q.1.2, stars_of es xs q.2]; rfl
end
end EV

/-! A matched expression does what its tree comes to. -/
namespace EV
open PySem PySem.Spec PyProof.Rows L2
section
variable {G : Gw} {k : Nat} {C : Nat → List D → Mem → R D} {o : Lo}
theorem evF_bi {X : Cx} {W : WX} {c : MC} (h : Ctx X G c k C o) {b : Bi} {x : Str} {y : Expr} {ys : List Expr} {fs : Rho → Mem → R (List D)} {p pos : Pos} (hx : isBlt c x (biN b) = true) (hb : b ≠ .sortedItems) (ha : EvA X G W (y :: ys) fs) (hs : (y :: ys).all noStar = true) :
    EvF X G W (.Call (.Name x p) (y :: ys) [] pos) (fun ρ m => (fs ρ m).bind fun ds m1 => biD b ds m1) := by
  have hs' := hs
  rw [List.all_cons, Bool.and_eq_true] at hs'
  have hst := star_cons (es := ys) (env := X.env) hs'.1
  have hpl := plain_args (env := X.env) (pos := pos) hs'.2
  obtain ⟨rfl, hg, hm⟩ := blt_of h hx (by cases b <;> decide)
  cases b with
  | len => exact ev_bi (k := lenD) (c_len h.hK) hg hm (by rfl) ha (by decide) (by decide) hst hpl
  | all => exact ev_bi (k := allD) (c_all h.calm) hg hm (by rfl) ha (by decide) (by decide) hst hpl
  | any => exact ev_bi (k := anyD) (c_any h.calm) hg hm (by rfl) ha (by decide) (by decide) hst hpl
  | sum => exact ev_bi (k := sumD) (c_sum h.calm) hg hm (by rfl) ha (by decide) (by decide) hst hpl
  | abs => exact ev_bi (k := absD) c_abs hg hm (by rfl) ha (by decide) (by decide) hst hpl
  | int => exact ev_ty (k := intD) c_int hg hm (by rfl) ha (by decide) (by decide) hst hpl
  | str => exact ev_ty (k := strD) c_str hg hm (by rfl) ha (by decide) (by decide) hst hpl
  | repr => exact ev_bi (k := reprD) c_repr hg hm (by rfl) ha (by decide) (by decide) hst hpl
  | sorted => exact ev_bi (k := sortedD) (c_sorted h.hK h.calm h.units) hg hm (by rfl) ha (by decide) (by decide) hst hpl
  | tuple => exact ev_ty (k := tupleD) (c_tuple h.hK h.calm) hg hm (by rfl) ha (by decide) (by decide) hst hpl
  | list => exact ev_ty (k := listD) (c_list h.hK h.calm) hg hm (by rfl) ha (by decide) (by decide) hst hpl
  | max => exact ev_bi (k := maxD) (c_max h.hK h.calm) hg hm (by rfl) ha (by decide) (by decide) hst hpl
  | min => exact ev_bi (k := minD) (c_min h.hK h.calm) hg hm (by rfl) ha (by decide) (by decide) hst hpl
  | ord => exact ev_bi (k := ordD) c_ord hg hm (by rfl) ha (by decide) (by decide) hst hpl
  | dict => exact ev_ty (k := dictD) (c_dict h.hK h.calm) hg hm (by rfl) ha (by decide) (by decide) hst hpl
  | sortedItems => exact absurd rfl hb
theorem evF_bm {X : Cx} {W : WX} {b : Bm} {n : Str} {a y : Expr} {ys : List Expr} {fa : Rho → Mem → R D} {fs : Rho → Mem → R (List D)} {ap pos : Pos} (hn : (match bmN b with | some z => decide (n = Str.ofString z) | none => false) = true) (ha : EvE X G W a fa) (hs : EvA X G W (y :: ys) fs) (hb : baseOk a = true) (hst : (y :: ys).all noStar = true) (hl : (y :: ys).length < 20) (hline : (ap.endLine == pos.line) = true) :
    EvF X G W (.Call (.Attribute a n ap) (y :: ys) [] pos) (fun ρ m => (fa ρ m).bind fun d m1 => if tyM b d m1 then (fs ρ m1).bind fun ds m2 => bmD b d ds m2 else .bad) := by
  cases b with
  | append =>
    cases of_decide_eq_true hn
    exact ev_bm (T := "list") (id := "list.append") PySem.F.plainAttrs_list PySem.F.slot_list_append PySem.F.type_list_append mt_app (fun d m v H μ τ h1 h2 h3 => tyV_list .append (by decide) h1 h2 h3) ha hs hb hst hl hline
  | extend =>
    cases of_decide_eq_true hn
    exact ev_bm (T := "list") (id := "list.extend") PySem.F.plainAttrs_list PySem.F.slot_list_extend PySem.F.type_list_extend mt_ext (fun d m v H μ τ h1 h2 h3 => tyV_list .extend (by decide) h1 h2 h3) ha hs hb hst hl hline
  | join =>
    cases of_decide_eq_true hn
    exact ev_bm (T := "str") (id := "str.join") PySem.F.plainAttrs_str PySem.F.slot_str_join PySem.F.type_str_join mt_joinD (fun d m v H μ τ h1 h2 h3 => tyV_str h1 h3) ha hs hb hst hl hline
  | _ => exact nomatch hn
theorem fld_ok {X : Cx} {c : MC} {f : Str} {cs : List Nat} (h : Ctx X G c k C o) (q : fldB c f cs = true) : FldOk X G f cs := fun i hi => by
  have := List.all_eq_true.mp q i hi
  obtain ⟨fn, hfn, hw⟩ := List.any_eq_true.mp this
  split at hw
  case h_2 => cases hw
  rename_i w e
  rw [Bool.and_eq_true, decide_eq_true_eq] at hw
  obtain ⟨rfl, h2⟩ := hw
  obtain ⟨j, hj, e2⟩ := List.getElem_of_mem hfn
  obtain ⟨a, fd, ps, f1, _⟩ := h.fns j fn (by rw [List.getElem?_eq_getElem hj, e2])
  unfold AtN at f1
  rw [e] at f1
  exact ⟨f1.2.1, f1.2.2.2.2.2 f (by simpa using h2)⟩
theorem mth_ok {X : Cx} {c : MC} {f kk : Nat} {x : Str} (h : Ctx X G c k C o) (q : mthB c f kk x = true) : ∃ (a : Addr) (fd : FuncData) (ps : List Str), Cls X.K (G.cl kk) ∧ Meth X.K (G.cl kk) x a ∧ Binds X.K fd ps [] ∧ FnOk X.prog X.w X.K X.mg X.base (CX X.prog X.w) k a fd ps (spD G (C f)) := by
  unfold mthB at q
  split at q
  case h_2 => cases q
  rename_i fn hfn
  rw [Bool.and_eq_true, decide_eq_true_eq] at q
  obtain ⟨rfl, q⟩ := q
  split at q
  case h_2 => cases q
  rename_i w e
  rw [decide_eq_true_eq] at q
  subst q
  obtain ⟨a, fd, ps, f1, f2, f3, f4⟩ := h.fns f fn hfn
  unfold AtN at f1
  rw [e] at f1
  exact ⟨a, fd, ps, f1.2.1, f1.2.2.1, f3, f4⟩
theorem Snd.alc {X : Cx} {W : WX} {c : MC} {a : Ex} {e : Expr} (hf : frsB a = true) (hm : mE c a e = true) (h : Snd X G W a e (evE C o a)) : Snd X G W (.alc a) e (evE C o (.alc a)) := by
  have h1 : EvE X G W e (evE C o (.alc a)) := by
    have := (h.fv hf).alc
    exact PE.imp this fun σ H Q q => by
      obtain ⟨ρ, m, μ, τ, g, s, q⟩ := q
      unfold evE at q
      exact ⟨ρ, m, μ, τ, g, s, q⟩
  have hp : plainT e = true := by
    cases a <;> first | exact absurd hf Bool.false_ne_true | skip
    all_goals cases e <;> first | rfl | (exact absurd (show false = true from hm) Bool.false_ne_true) | skip
    all_goals (rename_i op _ _; cases op <;> first | rfl | (exact absurd (show false = true from hm) Bool.false_ne_true))
  refine Snd.mk' h1 (fun z => absurd z Bool.false_ne_true) ?_ ?_
  · intro whole
    cases e <;> first | rfl | exact absurd hp Bool.false_ne_true | skip
    rename_i op _ _
    cases op <;> first | rfl | exact absurd hp Bool.false_ne_true
  · intro op xs p z
    subst z
    exact absurd hp Bool.false_ne_true
mutual
theorem mE_ok : ∀ (t : Ex) (c : MC) (X : Cx) (W : WX) (e : Expr), Ctx X G c k C o → Takes X W → mE c t e = true → Snd X G W t e (evE C o t)
  | .var i, c, X, W, e, h, tk, q => by
    cases e with
    | Name x p =>
      unfold mE at q
      unfold dbg at q
      simp only [Bool.and_eq_true, decide_eq_true_eq, Bool.not_eq_true', Bool.or_eq_false_iff] at q
      have r := ev_var (G := G) (W := W) (pos := p) (i := i) (by rw [h.N]; exact q.1.1) (vis_of h q.1.2) q.2.1 q.2.2
      refine Snd.mk' ?_ nofun (fun _ => rfl) (fun _ _ _ => nofun)
      exact r
    | _ => unfold mE at q; cases q
  | .lit z, c, X, W, e, h, tk, q => by
    cases e with
    | Constant z' j p =>
      unfold mE at q
      rw [decide_eq_true_eq] at q
      subst q
      refine Snd.mk' ?_ nofun (fun _ => rfl) (fun _ _ _ => nofun)
      exact ev_lit
    | _ => unfold mE at q; cases q
  | .glo x d, c, X, W, e, h, tk, q => by
    cases e with
    | Name y p =>
      unfold mE at q
      simp only [Bool.and_eq_true, decide_eq_true_eq] at q
      obtain ⟨⟨⟨rfl, q1⟩, q2⟩, q3⟩ := q
      obtain ⟨g1, g2⟩ := gl_of h q1
      refine Snd.mk' ?_ nofun (fun _ => rfl) (fun _ _ _ => nofun)
      have hv := h.glo _ q2
      unfold GloOk GlB at hv
      rw [Option.isNone_iff_eq_none] at q3
      dsimp only at hv
      rw [q3] at hv
      exact ev_glo g1 g2 hv
    | _ => unfold mE at q; cases q
  | .bin op a b, c, X, W, e, h, tk, q => by
    cases e with
    | BinOp l o' r p =>
      unfold mE at q
      simp only [Bool.and_eq_true, decide_eq_true_eq] at q
      obtain ⟨⟨rfl, q1⟩, q2⟩ := q
      have r : EvF X G W (.BinOp l op r p) _ := PE.imp (pe_op (op_binF h.hK op) (mE_ok a c X W l h tk q1).ev (mE_ok b c X W r h tk q2).ev) fun _ _ _ z => twoF (a := l) (b := r) z
      refine Snd.mkF ?_ (fun _ => rfl) (fun _ _ _ => nofun)
      exact r
    | _ => unfold mE at q; cases q
  | .neg a, c, X, W, e, h, tk, q => by
    cases e with
    | UnaryOp op x p =>
      cases op with
      | USub =>
        unfold mE at q
        refine Snd.mk' ?_ nofun (fun _ => rfl) (fun _ _ _ => nofun)
        exact ev_neg (mE_ok a c X W x h tk q).ev
      | _ => unfold mE at q; cases q
    | _ => unfold mE at q; cases q
  | .not a, c, X, W, e, h, tk, q => by
    cases e with
    | UnaryOp op x p =>
      cases op with
      | Not =>
        unfold mE at q
        have ih := mE_ok a c X W x h tk q
        refine ⟨?_, ?_, nofun, fun _ _ _ => nofun⟩
        · exact ev_not ih.ev
        · exact ev_notT ih.tv
      | _ => unfold mE at q; cases q
    | _ => unfold mE at q; cases q
  | .cmp op a b, c, X, W, e, h, tk, q => by
    cases e with
    | Compare l ops rs p =>
      match ops, rs, q with
      | [o'], [r], q =>
        unfold mE at q
        simp only [Bool.and_eq_true, decide_eq_true_eq, Bool.not_eq_true'] at q
        obtain ⟨⟨⟨rfl, q1⟩, q2⟩, q3⟩ := q
        have i1 := mE_ok a c X W l h tk q1
        have i2 := mE_ok b c X W r h tk q2
        refine ⟨?_, ?_, nofun, fun _ _ _ => nofun⟩
        · exact ev_cmp (op_cmpO h.hK h.units op) i1.ev i2.ev q3
        · exact ev_cmpT (op_cmpO h.hK h.units op) i1.ev i2.ev q3
      | [], _, q => unfold mE at q; cases q
      | [_], [], q => unfold mE at q; cases q
      | [_], _ :: _ :: _, q => unfold mE at q; cases q
      | _ :: _ :: _, _, q => unfold mE at q; cases q
    | _ => unfold mE at q; cases q
  | .cmp2 o1 o2 a b d, c, X, W, e, h, tk, q => by
    cases e with
    | Compare l ops rs p =>
      match ops, rs, q with
      | [p1, p2], [r, s], q =>
        unfold mE at q
        simp only [Bool.and_eq_true, decide_eq_true_eq, Bool.not_eq_true'] at q
        obtain ⟨⟨⟨⟨⟨rfl, rfl⟩, q1⟩, q2⟩, q3⟩, q4⟩ := q
        have i1 := mE_ok a c X W l h tk q1
        have i2 := mE_ok b c X W r h tk q2
        have i3 := mE_ok d c X W s h tk q3
        refine ⟨?_, ?_, nofun, fun _ _ _ => nofun⟩
        · exact PE.imp (pe_chain (op_cmpO h.hK h.units o1) (op_cmpO h.hK h.units o2) i1.ev i2.ev i3.ev q4) fun _ _ _ z => chain_inv z
        · refine PT.imp (pt_chain (op_cmpO h.hK h.units o1) (op_cmpO h.hK h.units o2) i1.ev i2.ev i3.ev q4) fun σ H Q z => ?_
          obtain ⟨ρ, m, μ, τ, g, s', z⟩ := z
          exact chain_inv ⟨ρ, m, μ, τ, g, s', tst_inv (RP := RD G τ) z⟩
      | [], _, q => unfold mE at q; cases q
      | [_], _, q => unfold mE at q; cases q
      | [_, _], [], q => unfold mE at q; cases q
      | [_, _], [_], q => unfold mE at q; cases q
      | [_, _], _ :: _ :: _ :: _, q => unfold mE at q; cases q
      | _ :: _ :: _ :: _, _, q => unfold mE at q; cases q
    | _ => unfold mE at q; cases q
  | .and a b, c, X, W, e, h, tk, q => by
    cases e with
    | BoolOp op xs p =>
      match op, xs, q with
      | .And, [x, y], q =>
        unfold mE at q
        rw [Bool.and_eq_true] at q
        have i1 := mE_ok a c X W x h tk q.1
        have i2 := mE_ok b c X W y h tk q.2
        have w := evw_and (pos := p) i1.tv (evw_and1 (pos := p) i2.tv)
        refine ⟨?_, ?_, nofun, fun _ _ _ _ => ?_⟩
        · exact ev_and i1.ev (ev_one i2.ev)
        · exact w.t
        · exact w
      | .And, x :: y :: z :: r, q =>
        unfold mE at q
        rw [Bool.and_eq_true] at q
        have i1 := mE_ok a c X W x h tk q.1
        have i2 := mE_ok b c X W _ h tk q.2
        have w := evw_and (pos := p) i1.tv (i2.wv _ _ _ rfl)
        refine ⟨?_, ?_, nofun, fun _ _ _ _ => ?_⟩
        · exact ev_and i1.ev i2.ev
        · exact w.t
        · exact w
      | .And, [], q => unfold mE at q; cases q
      | .And, [_], q => unfold mE at q; simp at q
      | .Or, _, q => unfold mE at q; cases q
    | _ => unfold mE at q; cases q
  | .or a b, c, X, W, e, h, tk, q => by
    cases e with
    | BoolOp op xs p =>
      match op, xs, q with
      | .Or, [x, y], q =>
        unfold mE at q
        rw [Bool.and_eq_true] at q
        have i1 := mE_ok a c X W x h tk q.1
        have i2 := mE_ok b c X W y h tk q.2
        have w := evw_or (pos := p) i1.tv (evw_or1 (pos := p) i2.tv)
        refine ⟨?_, ?_, nofun, fun _ _ _ _ => ?_⟩
        · exact ev_or i1.ev (ev_one i2.ev)
        · exact w.t
        · exact w
      | .Or, x :: y :: z :: r, q =>
        unfold mE at q
        rw [Bool.and_eq_true] at q
        have i1 := mE_ok a c X W x h tk q.1
        have i2 := mE_ok b c X W _ h tk q.2
        have w := evw_or (pos := p) i1.tv (i2.wv _ _ _ rfl)
        refine ⟨?_, ?_, nofun, fun _ _ _ _ => ?_⟩
        · exact ev_or i1.ev i2.ev
        · exact w.t
        · exact w
      | .Or, [], q => unfold mE at q; cases q
      | .Or, [_], q => unfold mE at q; simp at q
      | .And, _, q => unfold mE at q; cases q
    | _ => unfold mE at q; cases q
  | .ife t a b, c, X, W, e, h, tk, q => by
    cases e with
    | IfExp t' a' b' p =>
      unfold mE at q
      simp only [Bool.and_eq_true] at q
      have i1 := mE_ok t c X W t' h tk q.1.1
      have i2 := mE_ok a c X W a' h tk q.1.2
      have i3 := mE_ok b c X W b' h tk q.2
      refine ⟨?_, ?_, nofun, fun _ _ _ => nofun⟩
      · exact ev_ife i1.tv i2.ev i3.ev
      · exact ev_ifeT i1.tv i2.tv i3.tv
    | _ => unfold mE at q; cases q
  | .tup es, c, X, W, e, h, tk, q => by
    cases e with
    | Tuple xs kk p =>
      unfold mE at q
      rw [Bool.and_eq_true, decide_eq_true_eq] at q
      refine Snd.mk' ?_ nofun (fun _ => rfl) (fun _ _ _ => nofun)
      exact ev_tup (mEs_ok es c X W xs h tk q.1) fun ρ m ds m' z => by rw [len_of es xs o q.1 ρ m ds m' z]; exact q.2
    | _ => unfold mE at q; cases q
  | .lst es, c, X, W, e, h, tk, q => by
    cases e with
    | List xs p =>
      unfold mE at q
      rw [Bool.and_eq_true, decide_eq_true_eq] at q
      refine Snd.mkF ?_ (fun _ => rfl) (fun _ _ _ => nofun)
      exact ev_lst (mEs_ok es c X W xs h tk q.1) fun ρ m ds m' z => by rw [len_of es xs o q.1 ρ m ds m' z]; exact q.2
    | _ => unfold mE at q; cases q
  | .dsp ks, c, X, W, e, h, tk, q => by
    cases e with
    | Dict keys vals p =>
      unfold mE at q
      rw [Bool.and_eq_true, decide_eq_true_eq] at q
      obtain ⟨l1, l2, l3⟩ := lenKV_of ks keys vals o q.1
      refine Snd.mkF ?_ (fun _ => rfl) (fun _ _ _ => nofun)
      by_cases h0 : keys = []
      · subst h0
        have : vals = [] := List.length_eq_zero_iff.mp l2.symm
        subst this
        cases ks with
        | cons _ _ _ => have z := q.1; unfold mKV at z; cases z
        | nil =>
          exact PE.imp (ev_dsp0 (G := G) (W := W)) fun σ H Q z => z
      · exact ev_dsp (mKV_ok ks c X W0 keys vals h takes0 q.1) l3 l2 h0 q.2 fun ρ m pr m' z => by rw [l1 ρ m pr m' z]; exact q.2
    | _ => unfold mE at q; cases q
  | .lcp own t it cd el, c, X, W, e, h, tk, q => by
    unfold mE at q
    split at q
    case h_2 => cases q
    rename_i elt tg iter ifs scope p he
    cases asLc_eq he
    simp only [Bool.and_eq_true] at q
    obtain ⟨⟨⟨⟨⟨⟨q1, q2⟩, q3⟩, q4⟩, q5⟩, q6⟩, q7⟩ := q
    refine Snd.mkF ?_ (fun _ => rfl) (fun _ _ _ => nofun)
    exact ev_lc h.calm h.nd (mI_ok it c X W tg iter h tk q1) (blkOk_by (by rw [h.N, h.sc]; exact q3)) (fun i hi => of_decide_eq_true (List.all_eq_true.mp q4 i hi)) (fun s H Ca cl fp => mT_ok (h.blk scope s H Ca cl fp) t tg q5) (fun s H Ca cl fp => mC_ok cd (blkOf c scope) _ W0 ifs (h.blk scope s H Ca cl fp) takes0 q6) (fun s H Ca cl fp => (mE_ok el (blkOf c scope) _ W0 elt (h.blk scope s H Ca cl fp) takes0 q7).ev) (fun x => noset_of q2 x)
  | .dcp own t it cd ke el, c, X, W, e, h, tk, q => by
    unfold mE at q
    split at q
    case h_2 => cases q
    rename_i kx elt tg iter ifs scope p he
    cases asDc_eq he
    simp only [Bool.and_eq_true] at q
    obtain ⟨⟨⟨⟨⟨⟨⟨q1, q2⟩, q3⟩, q4⟩, q5⟩, q6⟩, q7⟩, q8⟩ := q
    refine Snd.mkF ?_ (fun _ => rfl) (fun _ _ _ => nofun)
    exact ev_dc h.calm h.nd (mI_ok it c X W tg iter h tk q1) (blkOk_by (by rw [h.N, h.sc]; exact q3)) (fun i hi => of_decide_eq_true (List.all_eq_true.mp q4 i hi)) (fun s H Ca cl fp => mT_ok (h.blk scope s H Ca cl fp) t tg q5) (fun s H Ca cl fp => mC_ok cd (blkOf c scope) _ W0 ifs (h.blk scope s H Ca cl fp) takes0 q6) (fun s H Ca cl fp => (mE_ok ke (blkOf c scope) _ W0 kx (h.blk scope s H Ca cl fp) takes0 q8).ev) (fun s H Ca cl fp => (mE_ok el (blkOf c scope) _ W0 elt (h.blk scope s H Ca cl fp) takes0 q7).ev) (fun x => noset_of q2 x)
  | .idx a b, c, X, W, e, h, tk, q => by
    cases e with
    | Subscript x i p =>
      unfold mE at q
      rw [Bool.and_eq_true, Bool.and_eq_true] at q
      refine Snd.mk' ?_ nofun (fun _ => rfl) (fun _ _ _ => nofun)
      exact ev_idx (ix_D h.hK h.units) (mE_ok a c X W x h tk q.1.1).ev (mE_ok b c X W i h tk q.1.2).ev (ix_plain q.2)
    | _ => unfold mE at q; cases q
  | .slc a lo hi, c, X, W, e, h, tk, q => by
    cases e with
    | Subscript x i p =>
      cases i with
      | Slice l u st p2 =>
        cases st with
        | none =>
          unfold mE at q
          rw [Bool.and_eq_true, Bool.and_eq_true] at q
          refine Snd.mkF ?_ (fun _ => rfl) (fun _ _ _ => nofun)
          exact ev_slc (sl_D h.hK) (mE_ok a c X W x h tk q.1.1).ev (mO_ok lo c X W l h tk q.1.2) (mO_ok hi c X W u h tk q.2)
        | some _ => unfold mE at q; cases q
      | _ => unfold mE at q; cases q
    | _ => unfold mE at q; cases q
  | .rev a, c, X, W, e, h, tk, q => by
    unfold mE at q
    split at q
    case h_2 => cases q
    rename_i he
    cases asRev_eq he
    refine Snd.mkF ?_ (fun _ => rfl) (fun _ _ _ => nofun)
    exact ev_rev (mE_ok a c X W _ h tk q).ev
  | .fld a f cs, c, X, W, e, h, tk, q => by
    match e, q with
    | .Attribute o' n p, q =>
      unfold mE at q
      simp only [Bool.and_eq_true, decide_eq_true_eq] at q
      obtain ⟨⟨⟨rfl, q1⟩, q2⟩, q3⟩ := q
      exact Snd.mk' (ev_fld (fld_ok h q3) (mE_ok a c X W o' h tk q1).ev q2) nofun (fun _ => rfl) (fun _ _ _ => nofun)
  | .mk f k es, c, X, W, e, h, tk, q => by
    unfold mE at q
    split at q
    case h_2 => cases q
    rename_i x px y ys p he
    cases asCall_eq he
    simp only [Bool.and_eq_true] at q
    obtain ⟨⟨q1, q2⟩, q3⟩ := q
    split at q1
    case h_2 => cases q1
    rename_i fn hfn
    rw [Bool.and_eq_true, decide_eq_true_eq] at q1
    obtain ⟨q0, q1⟩ := q1
    split at q1
    case h_2 => cases q1
    rename_i w hw
    simp only [Bool.and_eq_true, decide_eq_true_eq] at q1
    obtain ⟨rfl, rfl⟩ := q1
    obtain ⟨g1, g2⟩ := gl_of h q2
    refine Snd.mk' ?_ nofun (fun _ => rfl) (fun _ _ _ => nofun)
    cases hc : o.ctor with
    | none =>
      refine PE.imp ⟨fun pins s σ H Q I (z : False) => z.elim⟩ fun σ H Q ⟨ρ, m, μ, τ, g, s, z⟩ => ?_
      unfold evE at z
      rw [hc] at z
      exact z
    | some Kc =>
      obtain ⟨j, ad, fd, ps, hj, f1, f3, f4⟩ := h.mks Kc hc f fn hfn
      unfold AtN at f1
      rw [hw] at f1
      obtain ⟨a1, a2, a3, a4, a5, a6⟩ := f1
      rw [q0] at a3
      have hr : Room (j + 1) X.A := hj ▸ h.room
      refine PE.imp (ev_mk ⟨a4, a3.at_, a3.fn, a5⟩ f4 hr g1 a1 f3 tk (mEs_ok es c X W (y :: ys) h tk q3) g2 (stars_of es (y :: ys) q3)) fun σ H Q ⟨ρ, m, μ, τ, g, s, z⟩ => ⟨ρ, m, μ, τ, g, s, ?_⟩
      unfold evE at z
      rw [hc] at z
      exact z
  | .mth f k x a .nil, c, X, W, e, h, tk, q => by
    unfold mE at q
    split at q
    case h_2 => cases q
    rename_i o' n ap cp he
    cases asMeth0_eq he
    simp only [Bool.and_eq_true, decide_eq_true_eq] at q
    obtain ⟨⟨⟨⟨rfl, q1⟩, q2⟩, q3⟩, q4⟩ := q
    obtain ⟨ad, fd, ps, a2, a3, f3, f4⟩ := mth_ok h q1
    refine Snd.mk' ?_ nofun (fun _ => rfl) (fun _ _ _ => nofun)
    exact ev_mth0 f4 a2 a3 h.room f3 tk (mE_ok a c X W o' h tk q2).ev q3 q4
  | .mth f k x a (.cons e0 es), c, X, W, e, h, tk, q => by
    unfold mE at q
    split at q
    case h_2 => cases q
    rename_i o' n ap y ys cp he
    cases asMeth_eq he
    simp only [Bool.and_eq_true, decide_eq_true_eq] at q
    obtain ⟨⟨⟨⟨⟨⟨rfl, q1⟩, q2⟩, q3⟩, q4⟩, q5⟩, q6⟩ := q
    obtain ⟨ad, fd, ps, a2, a3, f3, f4⟩ := mth_ok h q1
    refine Snd.mk' ?_ nofun (fun _ => rfl) (fun _ _ _ => nofun)
    exact ev_mth f4 a2 a3 h.room f3 tk (mE_ok a c X W o' h tk q2).ev (mEs_ok (.cons e0 es) c X W (y :: ys) h tk q4) q3 (stars_of (.cons e0 es) (y :: ys) q4) q5 q6
  | .call f es, c, X, W, e, h, tk, q => by
    unfold mE at q
    split at q
    case h_2 => cases q
    rename_i x px y ys p he
    cases asCall_eq he
    simp only [Bool.and_eq_true] at q
    obtain ⟨⟨q1, q2⟩, q3⟩ := q
    split at q1
    case h_2 => cases q1
    rename_i fn hfn
    rw [Bool.and_eq_true, decide_eq_true_eq, Option.isNone_iff_eq_none] at q1
    obtain ⟨q1, q0⟩ := q1
    subst q1
    obtain ⟨a, fd, ps, f1, f2, f3, f4⟩ := h.fns f fn hfn
    unfold AtN at f1
    rw [q0] at f1
    dsimp only at f1
    obtain ⟨g1, g2⟩ := gl_of h q2
    have hs := stars_of es (y :: ys) q3
    have hs' := hs
    rw [List.all_cons, Bool.and_eq_true] at hs'
    refine Snd.mk' ?_ nofun (fun _ => rfl) (fun _ _ _ => nofun)
    exact ev_call f4 h.room g1 f1 f2 f3 tk (mEs_ok es c X W (y :: ys) h tk q3) g2 (star_cons hs'.1) (plain_args hs'.2)
  | .cal0, c, X, W, e, h, tk, q => by unfold mE at q; cases q
  | .bi b es, c, X, W, e, h, tk, q => by
    unfold mE at q
    split at q
    case h_2 => cases q
    rename_i x px y ys p he
    cases asCall_eq he
    simp only [Bool.and_eq_true, decide_eq_true_eq] at q
    refine Snd.mkF ?_ (fun _ => rfl) (fun _ _ _ => nofun)
    exact evF_bi h q.1.1 q.1.2 (mEs_ok es c X W (y :: ys) h tk q.2) (stars_of es _ q.2)
  | .zpv k es, c, X, W, e, h, tk, q => by
    unfold mE at q
    split at q
    case h_2 => cases q
    rename_i x px y ys p he
    cases asCall_eq he
    simp only [Bool.and_eq_true] at q
    obtain ⟨⟨q0, q1⟩, q2⟩ := q
    split at q2
    case h_2 => cases q2
    rename_i x2 px2 y2 ys2 p2 he2
    cases asCall_eq he2
    simp only [Bool.and_eq_true] at q2
    obtain ⟨⟨q3, q4⟩, q5⟩ := q2
    cases List.isEmpty_iff.mp q1
    split at q4
    case h_2 => cases q4
    rename_i y3
    obtain ⟨rfl, hg2, hm2⟩ := blt_of h q3 (by decide)
    have hs := stars_of es _ q5
    have hs' := hs
    rw [List.all_cons, Bool.and_eq_true] at hs'
    have ha := mEs_ok es c X W [y2, y3] h tk q5
    refine Snd.mkF ?_ (fun _ => rfl) (fun _ _ _ => nofun)
    match k, q0 with
    | 0, q0 =>
      obtain ⟨rfl, hg, hm⟩ := blt_of h q0 (by decide)
      exact ev_zp (k := 0) (T := "tuple") h.hK h.calm rfl hg hm (by rfl) hg2 hm2 ha (star_cons hs'.1) (fun pos => plain_args hs'.2) (by decide) (by decide)
    | 1, q0 =>
      obtain ⟨rfl, hg, hm⟩ := blt_of h q0 (by decide)
      exact ev_zp (k := 1) (T := "list") h.hK h.calm rfl hg hm (by rfl) hg2 hm2 ha (star_cons hs'.1) (fun pos => plain_args hs'.2) (by decide) (by decide)
    | k + 2, q0 =>
      obtain ⟨rfl, hg, hm⟩ := blt_of h (show isBlt c x "dict" = true from q0) (by decide)
      exact ev_zp (k := k + 2) (T := "dict") h.hK h.calm rfl hg hm (by rfl) hg2 hm2 ha (star_cons hs'.1) (fun pos => plain_args hs'.2) (by decide) (by decide)
  | .itm a, c, X, W, e, h, tk, q => by
    unfold mE at q
    split at q
    case h_2 => cases q
    rename_i x px y ys p he
    cases asCall_eq he
    simp only [Bool.and_eq_true] at q
    obtain ⟨⟨q0, q1⟩, q2⟩ := q
    split at q2
    case h_2 => cases q2
    rename_i o' n ap cp he2
    cases asMeth0_eq he2
    simp only [Bool.and_eq_true, decide_eq_true_eq] at q2
    obtain ⟨⟨⟨rfl, q3⟩, q4⟩, q5⟩ := q2
    cases List.isEmpty_iff.mp q1
    obtain ⟨rfl, hg, hm⟩ := blt_of h q0 (by decide)
    refine Snd.mkF ?_ (fun _ => rfl) (fun _ _ _ => nofun)
    exact ev_sortedItems h.hK h.calm h.units hg hm (mE_ok a c X W o' h tk q3).ev q4 q5
  | .bm b a es, c, X, W, e, h, tk, q => by
    unfold mE at q
    split at q
    case h_2 => cases q
    rename_i o' n ap y ys cp he
    cases asMeth_eq he
    simp only [Bool.and_eq_true] at q
    obtain ⟨⟨⟨⟨⟨q0, q1⟩, q2⟩, q3⟩, q4⟩, q5⟩ := q
    refine Snd.mk' ?_ nofun (fun _ => rfl) (fun _ _ _ => nofun)
    exact (evF_bm q0 (mE_ok a c X W o' h tk q1).ev (mEs_ok es c X W (y :: ys) h tk q3) q2 (stars_of es _ q3) (of_decide_eq_true q4) q5).ev
  | .isi a ts, c, X, W, e, h, tk, q => by
    unfold mE at q
    split at q
    case h_2 => cases q
    rename_i x px y ys p he
    cases asCall_eq he
    simp only [Bool.and_eq_true] at q
    obtain ⟨⟨⟨q0, q1⟩, q2⟩, q3⟩ := q
    obtain ⟨rfl, hg, hm⟩ := blt_of h q0 (by decide)
    refine Snd.mk' ?_ nofun (fun _ => rfl) (fun _ _ _ => nofun)
    split at q3
    case h_2 => cases q3
    split at q3
    · rename_i z ns kk pp hz
      cases asTup_eq hz
      rw [Bool.and_eq_true, decide_eq_true_eq] at q3
      exact ev_isiN h.hK hg hm (mE_ok a c X W y h tk q1).ev q2 (sds_of h q3.1) q3.2
    · split at q3
      case h_2 => cases q3
      exact ev_isi1 h.hK hg hm (mE_ok a c X W y h tk q1).ev q2 (sd_of h q3)
  | .alc a, c, X, W, e, h, tk, q => by
    have q' : mE c a e = true ∧ frsB a = true := by
      unfold mE at q
      rw [Bool.and_eq_true] at q
      exact q
    exact Snd.alc q'.2 q'.1 (mE_ok a c X W e h tk q'.1)
  | .pop a, c, X, W, e, h, tk, q => by
    unfold mE at q
    split at q
    case h_2 => cases q
    rename_i o' n ap cp he
    cases asMeth0_eq he
    simp only [Bool.and_eq_true, decide_eq_true_eq] at q
    obtain ⟨⟨⟨rfl, q1⟩, q2⟩, q3⟩ := q
    exact Snd.mk' (ev_pop (mE_ok a c X W o' h tk q1).ev q2 q3) nofun (fun _ => rfl) (fun _ _ _ => nofun)
  | .dget a k x, c, X, W, e, h, tk, q => by
    unfold mE at q
    split at q
    case h_2 => cases q
    rename_i o' n ap y v cp he
    cases asMeth_eq he
    simp only [Bool.and_eq_true, decide_eq_true_eq] at q
    obtain ⟨⟨⟨⟨⟨⟨⟨rfl, q1⟩, q2⟩, q3⟩, q4⟩, q5⟩, q6⟩, q7⟩ := q
    exact Snd.mk' (ev_dget h.units (mE_ok a c X W o' h tk q1).ev (mE_ok k c X W y h tk q3).ev (mE_ok x c X W v h tk q5).ev q2 q4 q6 q7) nofun (fun _ => rfl) (fun _ _ _ => nofun)
  | .dpop a k, c, X, W, e, h, tk, q => by
    unfold mE at q
    split at q
    case h_2 => cases q
    rename_i o' n ap y cp he
    cases asMeth_eq he
    simp only [Bool.and_eq_true, decide_eq_true_eq] at q
    obtain ⟨⟨⟨⟨⟨rfl, q1⟩, q2⟩, q3⟩, q4⟩, q5⟩ := q
    exact Snd.mk' (ev_dpop (mE_ok a c X W o' h tk q1).ev (mE_ok k c X W y h tk q3).ev q2 q4 q5) nofun (fun _ => rfl) (fun _ _ _ => nofun)
  | .inl neg a x ds, c, X, W, e, h, tk, q => by
    match e, q with
    | .Compare l [o'] [.Name y p] pos, q =>
      unfold mE at q
      simp only [Bool.and_eq_true, decide_eq_true_eq] at q
      obtain ⟨⟨⟨⟨rfl, q1⟩, rfl⟩, q2⟩, q3⟩ := q
      obtain ⟨g1, g2⟩ := gl_of h q2
      have hv : LooH X.mg X.base x ds := h.glo _ q3
      have i1 := mE_ok a c X W l h tk q1
      refine ⟨?_, ?_, nofun, fun _ _ _ => nofun⟩
      · exact ev_inl h.hK h.units g1 g2 hv i1.ev
      · exact ev_inlT h.hK h.units g1 g2 hv i1.ev
  | .srk a, c, X, W, e, h, tk, q => by
    unfold mE at q
    split at q
    case h_2 => cases q
    rename_i y scope hz
    obtain ⟨p, pa, q0, q1, q2, q3, q4, q5, q6, lp, kpos, pos, j, j2, rfl⟩ := asSrk_eq hz
    simp only [Bool.and_eq_true] at q
    obtain ⟨⟨⟨⟨z1, z2⟩, z3⟩, z4⟩, z5⟩ := q
    obtain ⟨_, hg, hm⟩ := blt_of h z4 (by decide)
    obtain ⟨cc, Pt, t1, t2, t3, t4⟩ := h.srt z5
    refine Snd.mkF ?_ (fun _ => rfl) (fun _ _ _ => nofun)
    exact ev_srk h.hK h.room hg hm (h.blt "len" (by decide)) t1 t2 t3 t4 rfl z3 (mE_ok a c X W y h tk z1).ev (star_cons z2)
  | .lamc f e', c, X, W, e, h, tk, q => by
    unfold mE at q
    rw [Bool.and_eq_true] at q
    obtain ⟨q0, q⟩ := q
    split at q
    case h_2 => cases q
    rename_i x px body scope lp p hz
    cases asLam_eq hz
    simp only [Bool.and_eq_true] at q
    obtain ⟨⟨⟨q1, q2⟩, q3⟩, q4⟩ := q
    split at q1
    case h_2 => cases q1
    rename_i fn hfn
    rw [Bool.and_eq_true, decide_eq_true_eq] at q1
    exact Snd.mk' (h.lam q0 W f fn e' x px body scope lp p hfn q1.1 q1.2 q2 q3 q4) nofun (fun _ => rfl) (fun _ _ _ => nofun)
theorem mEs_ok : ∀ (es : Exs) (c : MC) (X : Cx) (W : WX) (xs : List Expr), Ctx X G c k C o → Takes X W → mEs c es xs = true → EvA X G W xs (evEs C o es)
  | .nil, c, X, W, xs, h, tk, q => by
    cases xs with
    | nil => exact ev_nil
    | cons _ _ => unfold mEs at q; cases q
  | .cons e es, c, X, W, xs, h, tk, q => by
    cases xs with
    | nil => unfold mEs at q; cases q
    | cons x xs =>
      unfold mEs at q
      rw [Bool.and_eq_true, Bool.and_eq_true] at q
      exact ev_cons (mE_ok e c X W x h tk q.1.1).ev (mEs_ok es c X W xs h tk q.2) (star_cons q.1.2)
theorem mKV_ok : ∀ (ks : Kvs) (c : MC) (X : Cx) (W : WX) (xs : List (Option Expr)) (ys : List Expr), Ctx X G c k C o → Takes X W → mKV c ks xs ys = true → EvKV X G W xs ys (evKV C o ks)
  | .nil, c, X, W, xs, ys, h, tk, q => by
    match xs, ys, q with
    | [], [], q => exact kv_nil
    | _ :: _, _, q => unfold mKV at q; cases q
    | [], _ :: _, q => unfold mKV at q; cases q
  | .cons a v r, c, X, W, xs, ys, h, tk, q => by
    match xs, ys, q with
    | some x :: xs, y :: ys, q =>
      unfold mKV at q
      rw [Bool.and_eq_true, Bool.and_eq_true] at q
      exact kv_cons (mE_ok a c X W x h tk q.1.1).ev (mE_ok v c X W y h tk q.1.2).ev (mKV_ok r c X W xs ys h tk q.2)
    | [], _, q => unfold mKV at q; cases q
    | none :: _, _, q => unfold mKV at q; cases q
    | some _ :: _, [], q => unfold mKV at q; cases q
theorem mO_ok : ∀ (t : Op) (c : MC) (X : Cx) (W : WX) (e : Option Expr), Ctx X G c k C o → Takes X W → mO c t e = true → EvO X G W e (evO C o t)
  | .no, c, X, W, e, h, tk, q => by
    cases e with
    | none => exact ev_ono
    | some _ => unfold mO at q; cases q
  | .yes t, c, X, W, e, h, tk, q => by
    cases e with
    | none => unfold mO at q; cases q
    | some x => unfold mO at q; exact ev_oyes (mE_ok t c X W x h tk q).ev
theorem mC_ok : ∀ (t : Cd) (c : MC) (X : Cx) (W : WX) (es : List Expr), Ctx X G c k C o → Takes X W → mC c t es = true → PTs X es (rdT G W (evC C o t))
  | .no, c, X, W, es, h, tk, q => by
    cases es with
    | nil => exact ⟨fun pins s σ H Q I z => pts_nil.run pins s σ H Q I (by
        obtain ⟨ρ, m, μ, τ, g, s, z⟩ := z
        unfold evC at z
        exact Pst.here z g rfl)⟩
    | cons _ _ => unfold mC at q; cases q
  | .yes t, c, X, W, es, h, tk, q => by
    match es, q with
    | [x], q =>
      unfold mC at q
      have := (mE_ok t c X W x h tk q).tv
      exact pts_one this
    | [], q => unfold mC at q; cases q
    | _ :: _ :: _, q => unfold mC at q; cases q
theorem mI_ok : ∀ (t : It) (c : MC) (X : Cx) (W : WX) (tg e : Expr), Ctx X G c k C o → Takes X W → mI c tg t e = true → EvI X G W tg e (evI C o t)
  | .ex a, c, X, W, tg, e, h, tk, q => by
    unfold mI at q
    exact evi_ex h.hK (mE_ok a c X W e h tk q).ev
  | .rng1 a, c, X, W, tg, e, h, tk, q => by
    unfold mI at q
    split at q
    case h_2 => cases q
    rename_i x px y ys p he
    cases asCall_eq he
    simp only [Bool.and_eq_true] at q
    obtain ⟨⟨⟨q0, q1⟩, q2⟩, q3⟩ := q
    cases List.isEmpty_iff.mp q0
    obtain ⟨rfl, hg, hm⟩ := blt_of h q1 (by decide)
    exact evi_rng1 hg hm (mE_ok a c X W y h tk q2).ev q3
  | .rng2 a b, c, X, W, tg, e, h, tk, q => by
    unfold mI at q
    split at q
    case h_2 => cases q
    rename_i x px y ys p he
    cases asCall_eq he
    split at q
    case h_2 => cases q
    simp only [Bool.and_eq_true] at q
    obtain ⟨⟨⟨⟨q1, q2⟩, q3⟩, q4⟩, q5⟩ := q
    obtain ⟨rfl, hg, hm⟩ := blt_of h q1 (by decide)
    exact evi_rng2 hg hm (mE_ok a c X W _ h tk q2).ev (mE_ok b c X W _ h tk q4).ev q3 q5
  | .zip a b, c, X, W, tg, e, h, tk, q => by
    unfold mI at q
    split at q
    case h_2 => cases q
    rename_i x px y ys p he
    cases asCall_eq he
    split at q
    case h_2 => cases q
    simp only [Bool.and_eq_true] at q
    obtain ⟨⟨⟨⟨⟨q0, q1⟩, q2⟩, q3⟩, q4⟩, q5⟩ := q
    obtain ⟨⟨es, kk, pt⟩, ht⟩ := Option.isSome_iff_exists.mp q0
    cases asTup_eq ht
    obtain ⟨rfl, hg, hm⟩ := blt_of h q1 (by decide)
    exact evi_zip h.hK hg hm (mE_ok a c X W _ h tk q2).ev (mE_ok b c X W _ h tk q4).ev q3 q5
  | .enm a, c, X, W, tg, e, h, tk, q => by
    unfold mI at q
    split at q
    case h_2 => cases q
    rename_i x px y ys p he
    cases asCall_eq he
    simp only [Bool.and_eq_true] at q
    obtain ⟨⟨⟨⟨q0, q00⟩, q1⟩, q2⟩, q3⟩ := q
    cases List.isEmpty_iff.mp q0
    obtain ⟨⟨es, kk, pt⟩, ht⟩ := Option.isSome_iff_exists.mp q00
    cases asTup_eq ht
    obtain ⟨rfl, hg, hm⟩ := blt_of h q1 (by decide)
    exact evi_enm h.hK hg hm (mE_ok a c X W _ h tk q2).ev q3
end
end
end EV

/-! A matched statement does what its tree comes to. -/
namespace EV
open PySem PySem.Spec PyProof.Rows L2
def fnK (c : MC) : Bool := match c.sc.kind with
  | .function => true
  | _ => false
def swB (c : MC) (y : Str) (py pos : Pos) (scope : Scope) : Bool := c.sc.names.lookup y == some .local && py.line == pos.line && !(scope.names.any fun (n, k) => n == y && (k == .local || k == .cell))
def asName : Expr → Option (Str × Pos)
  | .Name x p => some (x, p)
  | _ => none
theorem asName_eq {e : Expr} {x : Str} {p : Pos} (h : asName e = some (x, p)) : e = .Name x p := by
  unfold asName at h
  split at h
  · cases h; rfl
  · cases h
def asSub : Expr → Option (Expr × Expr × Pos)
  | .Subscript a b p => some (a, b, p)
  | _ => none
theorem asSub_eq {e a b : Expr} {p : Pos} (h : asSub e = some (a, b, p)) : e = .Subscript a b p := by
  unfold asSub at h
  split at h
  · cases h; rfl
  · cases h
def asN2 : List Expr → Option (Str × Pos × Str × Pos)
  | [.Name x px, .Name y py] => some (x, px, y, py)
  | _ => none
theorem asN2_eq {es : List Expr} {x y : Str} {px py : Pos} (h : asN2 es = some (x, px, y, py)) : es = [.Name x px, .Name y py] := by
  unfold asN2 at h
  split at h
  · cases h; rfl
  · cases h
def asN3 : List Expr → Option (Str × Pos × Str × Pos × Str × Pos)
  | [.Name x px, .Name y py, .Name z pz] => some (x, px, y, py, z, pz)
  | _ => none
theorem asN3_eq {es : List Expr} {x y z : Str} {px py pz : Pos} (h : asN3 es = some (x, px, y, py, z, pz)) : es = [.Name x px, .Name y py, .Name z pz] := by
  unfold asN3 at h
  split at h
  · cases h; rfl
  · cases h
def asAtt : Expr → Option (Expr × Str × Pos)
  | .Attribute o n p => some (o, n, p)
  | _ => none
theorem asAtt_eq {e o : Expr} {n : Str} {p : Pos} (h : asAtt e = some (o, n, p)) : e = .Attribute o n p := by
  unfold asAtt at h
  split at h
  · cases h; rfl
  · cases h
def asgd : Stmt → Option (Expr × Expr × Pos)
  | .Assign [t] e p => some (t, e, p)
  | _ => none
theorem asgd_eq {s : Stmt} {t e : Expr} {p : Pos} (h : asgd s = some (t, e, p)) : s = .Assign [t] e p := by
  unfold asgd at h
  split at h
  · cases h; rfl
  · cases h
def asRaise : Stmt → Option (Expr × Pos)
  | .Raise (some v) none p => some (v, p)
  | _ => none
theorem asRaise_eq {s : Stmt} {v : Expr} {p : Pos} (h : asRaise s = some (v, p)) : s = .Raise (some v) none p := by
  unfold asRaise at h
  split at h
  · cases h; rfl
  · cases h
def asAug : Stmt → Option (Str × Pos × Operator × Expr × Pos)
  | .AugAssign (.Name x px) op v p => some (x, px, op, v, p)
  | _ => none
theorem asAug_eq {s : Stmt} {x : Str} {px : Pos} {op : Operator} {v : Expr} {p : Pos} (h : asAug s = some (x, px, op, v, p)) : s = .AugAssign (.Name x px) op v p := by
  unfold asAug at h
  split at h
  · cases h; rfl
  · cases h
def asAugA : Stmt → Option (Expr × Str × Pos × Expr × Pos)
  | .AugAssign (.Attribute o n p) .Add v q => some (o, n, p, v, q)
  | _ => none
theorem asAugA_eq {s : Stmt} {o : Expr} {n : Str} {p : Pos} {v : Expr} {q : Pos} (h : asAugA s = some (o, n, p, v, q)) : s = .AugAssign (.Attribute o n p) .Add v q := by
  unfold asAugA at h
  split at h
  · cases h; rfl
  · cases h
/-- the values of a swapped store -/
def parB (vs : List Expr) : Bool := vs.all noStar && !(vs.all (foldedForSure 8)) && !(vs.all (constantsAlone 8))
/-- targets whose stores are not swapped -/
def notLocal (c : MC) : Expr → Bool
  | .Name x _ => !(c.sc.names.lookup x == some .local)
  | .Subscript _ _ _ => true
  | _ => false
def parN (c : MC) (ts : List Expr) : Bool := !(ts.length == 2 || ts.length == 3) || ts.any (notLocal c)
def dcOf : Ex → Bool
  | .dcp _ _ _ _ _ _ => true
  | .alc (.dcp _ _ _ _ _ _) => true
  | _ => false
def lcOf : Ex → Bool
  | .lcp _ _ _ _ _ => true
  | .alc (.lcp _ _ _ _ _) => true
  | _ => false
mutual
def mS : MC → St → Stmt → Bool
  | c, .asg t e, s => (match asgd s with
    | some (tg, v, _) => mT c t tg && noStar tg && mE c e v && (match asName tg with
      | some (x, px) => (match asLc v with
        | some (_, _, _, _, scope, p) => fnK c && (if swB c x px p scope then lcOf e else true)
        | none => (match asDc v with
          | some (_, _, _, _, _, scope, p) => fnK c && (if swB c x px p scope then dcOf e else true)
          | none => noSw v))
      | none => noSw v && (match asTup v with
        | none => true
        | some (vs, _, _) => (match asTup tg with
          | some (ts, _, _) => parN c ts
          | none => false)))
    | none => false)
  | c, .par is es, s => (match asgd s with
    | some (tg, v, _) => (match asTup tg, asTup v with
      | some (ts, _, _), some (vs, _, _) => fnK c && mEs c es vs && parB vs && (match is, asN2 ts, asN3 ts with
        | [i, j], some (x, px, y, py), _ => decide (c.N[i]? = some x) && decide (c.N[j]? = some y) && decide (i ≠ j) && decide (c.sc.names.lookup x = some .local) && decide (c.sc.names.lookup y = some .local) && (py.line == px.line) && decide (x ≠ y) && decide (vs.length = 2)
        | [i, j, l], _, some (x, px, y, py, z, pz) => decide (c.N[i]? = some x) && decide (c.N[j]? = some y) && decide (c.N[l]? = some z) && decide (i ≠ j) && decide (i ≠ l) && decide (j ≠ l) && decide (c.sc.names.lookup x = some .local) && decide (c.sc.names.lookup y = some .local) && decide (c.sc.names.lookup z = some .local) && (py.line == px.line) && (pz.line == px.line) && decide ([x, y, z].eraseDups.length = 3) && decide (vs.length = 3)
        | _, _, _ => false)
      | _, _ => false)
    | none => false)
  | c, .seti a i e, s => (match asgd s with
    | some (tg, v, _) => (match asSub tg with
      | some (o, ix, _) => mE c a o && mE c i ix && ixB ix && mE c e v && noSw v
      | none => false)
    | none => false)
  | c, .setf a f cs e, s => (match asgd s with
    | some (tg, v, _) => (match asAtt tg with
      | some (o, n, _) => decide (f = n) && mE c a o && fldB c f cs && mE c e v
      | none => false)
    | none => false)
  | c, .aug i op e, s => (match asAug s with
    | some (x, _, op', v, _) => decide (op = op') && (match op with
      | .Add => true
      | .Sub => true
      | _ => false) && decide (c.N[i]? = some x) && locB c x && mE c e v
    | none => false)
  | c, .augf a f cs e, s => (match cs with
    | [k] => (match asAugA s with
      | some (o, n, _, v, _) => decide (f = n) && mE c a o && fldB c f [k] && mE c e v
      | none => false)
    | _ => false)
  | c, .expr e, .Expr v _ => mE c e v && noSw v
  | c, .ret e, .Return (some v) _ => mE c e v
  | _, .retn, .Return none _ => true
  | c, .ifs t a b, .If t' a' b' _ => mE c t t' && mSs c a a' && mSs c b b'
  | c, .fors t it b, .For tg iter body [] _ => mT c t tg && mI c tg it iter && noSet iter && mSs c b body
  | c, .whl t b, .While t' body [] _ => mE c t t' && mSs c b body
  | _, .brk, .Break _ => true
  | _, .cnt, .Continue _ => true
  | _, .pas, .Pass _ => true
  | _, .nev, _ => true
  | c, .sasg a i j es, s => (match asgd s with
    | some (tg, v, _) => (match asTup tg, asTup v with
      | some (ts, _, _), some (vs, _, _) => (match ts with
        | [t1, t2] => (match asSub t1, asName t2 with
          | some (o, ix, _), some (x, _) => mE c a o && mE c i ix && ixB ix && mE c (.tup es) v && decide (c.N[j]? = some x) && locB c x
          | _, _ => false)
        | _ => false)
      | _, _ => false)
    | none => false)
  | c, .rai x es, s => (match asRaise s with
    | none => false
    | some (v, _) => match c.xs[x]? with
    | some xc => decide (0 < x) && (match xc.fld with
      | none => (match asCall0 v with
        | some (n, _, _) => decide (n = xc.name) && glB c n && mEs c es []
        | none => false)
      | some _ => (match asCall v with
        | some (n, _, y, ys, _) => ys.isEmpty && decide (n = xc.name) && glB c n && mEs c es [y]
        | none => false))
    | none => false)
  | _, _, _ => false
def mSs : MC → Ss → List Stmt → Bool
  | _, .nil, [] => true
  | c, .cons s r, x :: xs => mS c s x && mSs c r xs
  | _, _, _ => false
end
section
variable {X : Cx} {G : Gw} {W : WX} {c : MC} {k w : Nat} {C : Nat → List D → Mem → R D} {o : Lo}
theorem fnK_of (h : Ctx X G c k C o) (q : fnK c = true) : X.env.scope.kind = .function := by
  unfold fnK at q
  rw [h.sc]
  split at q
  · assumption
  · cases q
theorem bk_of {env : Env} (h : env.scope.kind = .function) : env.blockKind = .function := by
  unfold Env.blockKind
  rw [h]; rfl
theorem sw_eq {elt : Expr} {gs : List Comprehension} {scope : Scope} {pos py : Pos} {y : Str} {l : Nat} (h : Ctx X G c k C o) (hk : X.env.scope.kind = .function) : swapsWith (.ListComp elt gs scope pos) (some (.Name y py)) l X.env = pure (swB c y py pos scope) := by
  unfold swapsWith swB
  have e : X.env.kindOf y = c.sc.names.lookup y := by
    show X.env.scope.names.lookup y = _
    rw [h.sc]
  simp only [bk_of hk, e]
  rfl
theorem sw_eqD {kx vx : Expr} {gs : List Comprehension} {scope : Scope} {pos py : Pos} {y : Str} {l : Nat} (h : Ctx X G c k C o) (hk : X.env.scope.kind = .function) : swapsWith (.DictComp kx vx gs scope pos) (some (.Name y py)) l X.env = pure (swB c y py pos scope) := by
  unfold swapsWith swB
  have e : X.env.kindOf y = c.sc.names.lookup y := by
    show X.env.scope.names.lookup y = _
    rw [h.sc]
  simp only [bk_of hk, e]
  rfl
theorem stars_any : ∀ {vs : List Expr}, vs.all noStar = true → (vs.any fun | .Starred .. => true | _ => false) = false
  | [], _ => rfl
  | v :: vs, h => by
    rw [List.all_cons, Bool.and_eq_true] at h
    rw [List.any_cons, stars_any h.2]
    cases v <;> first | rfl | exact nomatch h.1
theorem swp2 (h : Ctx X G c k C o) (hk : X.env.scope.kind = .function) {x y : Str} {px py pt pt2 : Pos} {kt k2 : Nat} {vs : List Expr} (hx : c.sc.names.lookup x = some .local) (hy : c.sc.names.lookup y = some .local) (hl : (py.line == px.line) = true) (hne : x ≠ y) (hv : parB vs = true) (hlen : vs.length = 2) :
    swappedStores [.Tuple [.Name x px, .Name y py] kt pt] (.Tuple vs k2 pt2) X.env = pure (some [x, y]) := by
  unfold parB at hv
  simp only [Bool.and_eq_true, Bool.not_eq_true'] at hv
  obtain ⟨⟨h1, h2⟩, h3⟩ := hv
  have ex : X.env.kindOf x = some .local := by show X.env.scope.names.lookup x = _; rw [h.sc]; exact hx
  have ey : X.env.kindOf y = some .local := by show X.env.scope.names.lookup y = _; rw [h.sc]; exact hy
  have ed : ([x, y] : List Str).eraseDups.length = 2 := by
    have : (y == x) = false := beq_eq_false_iff_ne.mpr (fun z => hne z.symm)
    simp [List.eraseDups_cons, this]
  have hl' : py.line = px.line := by simpa using hl
  unfold swappedStores
  simp [hlen, bk_of hk, stars_any h1, ex, ey, hl', h2, h3, Expr.pos, ed]
  intro e he hm
  have hz := List.all_eq_true.mp h1 e he
  cases e <;> first | exact absurd hm Bool.false_ne_true | exact absurd hz Bool.false_ne_true
theorem swp3 (h : Ctx X G c k C o) (hk : X.env.scope.kind = .function) {x y z : Str} {px py pz pt pt2 : Pos} {kt k2 : Nat} {vs : List Expr} (hx : c.sc.names.lookup x = some .local) (hy : c.sc.names.lookup y = some .local) (hz : c.sc.names.lookup z = some .local) (hl : (py.line == px.line) = true) (hl2 : (pz.line == px.line) = true) (ed : [x, y, z].eraseDups.length = 3) (hv : parB vs = true) (hlen : vs.length = 3) :
    swappedStores [.Tuple [.Name x px, .Name y py, .Name z pz] kt pt] (.Tuple vs k2 pt2) X.env = pure (some [x, y, z]) := by
  unfold parB at hv
  simp only [Bool.and_eq_true, Bool.not_eq_true'] at hv
  obtain ⟨⟨h1, h2⟩, h3⟩ := hv
  have ex : X.env.kindOf x = some .local := by show X.env.scope.names.lookup x = _; rw [h.sc]; exact hx
  have ey : X.env.kindOf y = some .local := by show X.env.scope.names.lookup y = _; rw [h.sc]; exact hy
  have ez : X.env.kindOf z = some .local := by show X.env.scope.names.lookup z = _; rw [h.sc]; exact hz
  have hl' : py.line = px.line := by simpa using hl
  have hl2' : pz.line = px.line := by simpa using hl2
  unfold swappedStores
  simp [hlen, bk_of hk, stars_any h1, ex, ey, ez, hl', hl2', h2, h3, Expr.pos, ed]
  intro e he hm
  have hq := List.all_eq_true.mp h1 e he
  cases e <;> first | exact absurd hm Bool.false_ne_true | exact absurd hq Bool.false_ne_true
/-- name = [..] where the name takes the list at once -/
theorem lc_st {own : List (Str × Nat)} {t : Tg} {it : It} {cd : Cd} {el : Ex} {v elt tg iter : Expr} {ifs : List Expr} {scope : Scope} {p px spos : Pos} {x : Str} {i : Nat} (h : Ctx X G c k C o) (tk : Takes X W) (hk : X.env.scope.kind = .function) (he : asLc v = some (elt, tg, iter, ifs, scope, p)) (q : mE c (.lcp own t it cd el) v = true) (hs : swB c x px p scope = true) (hi : X.N[i]? = some x) :
    ∃ te : TE, PS X (.Assign [.Name x px] v spos) (tAsg te (gName i)) ∧ ∀ σ H Q, rdF G W (evE C o (.lcp own t it cd el)) σ H Q → te σ H Q := by
  unfold mE at q
  rw [he] at q
  cases asLc_eq he
  simp only [Bool.and_eq_true] at q
  obtain ⟨⟨⟨⟨⟨⟨q1, q2⟩, q3⟩, q4⟩, q5⟩, q6⟩, q7⟩ := q
  have hyl : X.env.scope.names.lookup x = some .local := by
    unfold swB at hs
    simp only [Bool.and_eq_true, beq_iff_eq] at hs
    rw [h.sc]; exact hs.1.1
  refine ⟨_, ps_setLc h.calm h.nd hi hyl (by rw [sw_eq h hk, hs]) (mI_ok (o := o) it c X W tg iter h tk q1) (blkOk_by (own := own) (by rw [h.N, h.sc]; exact q3)) (fun s H Ca cl fp => mT_ok (h.blk scope s H Ca cl fp) t tg q5) (fun s H Ca cl fp => mC_ok (o := o) cd (blkOf c scope) _ W0 ifs (h.blk scope s H Ca cl fp) takes0 q6) (fun s H Ca cl fp => (mE_ok (o := o) el (blkOf c scope) _ W0 elt (h.blk scope s H Ca cl fp) takes0 q7).ev) (fun x => noset_of q2 x), fun σ H Q z => ?_⟩
  exact lc_in (fun i hi => of_decide_eq_true (List.all_eq_true.mp q4 i hi)) z
theorem lc_pair {e : Ex} {v elt tg iter : Expr} {ifs : List Expr} {scope : Scope} {p px spos : Pos} {x : Str} {i : Nat} (h : Ctx X G c k C o) (tk : Takes X W) (hk : X.env.scope.kind = .function) (he : asLc v = some (elt, tg, iter, ifs, scope, p)) (q : mE c e v = true) (hl : lcOf e = true) (hs : swB c x px p scope = true) (hi : X.N[i]? = some x) :
    ∃ te : TE, PS X (.Assign [.Name x px] v spos) (tAsg te (gName i)) ∧ ∀ σ H Q, rdE G W (evE C o e) σ H Q → te σ H Q := by
  unfold lcOf at hl
  split at hl
  · obtain ⟨te, h1, h2⟩ := lc_st (o := o) (spos := spos) h tk hk he q hs hi
    exact ⟨te, h1, fun σ H Q ⟨ρ, m, μ, τ, g, s, z⟩ => h2 σ H Q ⟨ρ, m, μ, τ, g, s, PstF.of g z⟩⟩
  · rename_i own t it cd el
    have q' : mE c (.lcp own t it cd el) v = true ∧ frsB (.lcp own t it cd el) = true := by
      unfold mE at q
      rw [Bool.and_eq_true] at q
      exact q
    obtain ⟨te, h1, h2⟩ := lc_st (o := o) (spos := spos) h tk hk he q'.1 hs hi
    exact ⟨te, h1, fun σ H Q ⟨ρ, m, μ, τ, g, s, z⟩ => h2 σ H Q ⟨ρ, m, μ, τ, g, s, PstF.alc g z⟩⟩
  · cases hl
/-- name = {..} where the name takes the dict at once -/
theorem dc_st {own : List (Str × Nat)} {t : Tg} {it : It} {cd : Cd} {ke el : Ex} {v kx elt tg iter : Expr} {ifs : List Expr} {scope : Scope} {p px spos : Pos} {x : Str} {i : Nat} (h : Ctx X G c k C o) (tk : Takes X W) (hk : X.env.scope.kind = .function) (he : asDc v = some (kx, elt, tg, iter, ifs, scope, p)) (q : mE c (.dcp own t it cd ke el) v = true) (hs : swB c x px p scope = true) (hi : X.N[i]? = some x) :
    ∃ te : TE, PS X (.Assign [.Name x px] v spos) (tAsg te (gName i)) ∧ ∀ σ H Q, rdF G W (evE C o (.dcp own t it cd ke el)) σ H Q → te σ H Q := by
  unfold mE at q
  rw [he] at q
  cases asDc_eq he
  simp only [Bool.and_eq_true] at q
  obtain ⟨⟨⟨⟨⟨⟨⟨q1, q2⟩, q3⟩, q4⟩, q5⟩, q6⟩, q7⟩, q8⟩ := q
  have hyl : X.env.scope.names.lookup x = some .local := by
    unfold swB at hs
    simp only [Bool.and_eq_true, beq_iff_eq] at hs
    rw [h.sc]; exact hs.1.1
  have a1 : swapsWith (.DictComp kx elt [⟨tg, iter, ifs, 0⟩] scope p) (some (.Name x px)) spos.line X.env = pure true := by rw [sw_eqD h hk, hs]
  have a2 := mI_ok (o := o) it c X W tg iter h tk q1
  have a3 : BlkOk X.N X.env.scope scope own := blkOk_by (by rw [h.N, h.sc]; exact q3)
  have a4 := fun (s : Shared) (H : Hp) (Ca : Addr) (cl : List (Str × Addr)) (fp : List Addr) => mT_ok (h.blk scope s H Ca cl fp) t tg q5
  have a5 := fun (s : Shared) (H : Hp) (Ca : Addr) (cl : List (Str × Addr)) (fp : List Addr) => mC_ok (o := o) cd (blkOf c scope) _ W0 ifs (h.blk scope s H Ca cl fp) takes0 q6
  have a6 := fun (s : Shared) (H : Hp) (Ca : Addr) (cl : List (Str × Addr)) (fp : List Addr) => (mE_ok (o := o) ke (blkOf c scope) _ W0 kx (h.blk scope s H Ca cl fp) takes0 q8).ev
  have a7 := fun (s : Shared) (H : Hp) (Ca : Addr) (cl : List (Str × Addr)) (fp : List Addr) => (mE_ok (o := o) el (blkOf c scope) _ W0 elt (h.blk scope s H Ca cl fp) takes0 q7).ev
  exact ⟨_, set_dc h.calm h.nd hi hyl a1 a2 a3 a4 a5 a6 a7 (fun x => noset_of q2 x), fun σ H Q z => dc_in (fun i hi => of_decide_eq_true (List.all_eq_true.mp q4 i hi)) z⟩
theorem dc_pair {e : Ex} {v kx elt tg iter : Expr} {ifs : List Expr} {scope : Scope} {p px spos : Pos} {x : Str} {i : Nat} (h : Ctx X G c k C o) (tk : Takes X W) (hk : X.env.scope.kind = .function) (he : asDc v = some (kx, elt, tg, iter, ifs, scope, p)) (q : mE c e v = true) (hl : dcOf e = true) (hs : swB c x px p scope = true) (hi : X.N[i]? = some x) :
    ∃ te : TE, PS X (.Assign [.Name x px] v spos) (tAsg te (gName i)) ∧ ∀ σ H Q, rdE G W (evE C o e) σ H Q → te σ H Q := by
  unfold dcOf at hl
  split at hl
  · obtain ⟨te, h1, h2⟩ := dc_st (o := o) (spos := spos) h tk hk he q hs hi
    exact ⟨te, h1, fun σ H Q ⟨ρ, m, μ, τ, g, s, z⟩ => h2 σ H Q ⟨ρ, m, μ, τ, g, s, PstF.of g z⟩⟩
  · rename_i own t it cd ke el
    have q' : mE c (.dcp own t it cd ke el) v = true ∧ frsB (.dcp own t it cd ke el) = true := by
      unfold mE at q
      rw [Bool.and_eq_true] at q
      exact q
    obtain ⟨te, h1, h2⟩ := dc_st (o := o) (spos := spos) h tk hk he q'.1 hs hi
    exact ⟨te, h1, fun σ H Q ⟨ρ, m, μ, τ, g, s, z⟩ => h2 σ H Q ⟨ρ, m, μ, τ, g, s, PstF.alc g z⟩⟩
  · cases hl
theorem lc_noTup {v : Expr} {r} (h : asLc v = some r) : noSw v = false := by
  obtain ⟨_, _, _, _, _, _⟩ := r
  cases asLc_eq h; rfl
theorem fm_lt {α β : Type} (f : α → Option β) : ∀ (l : List α), (l.any fun x => (f x).isNone) = true → (l.filterMap f).length < l.length
  | [], h => by cases h
  | x :: l, h => by
    rw [List.any_cons, Bool.or_eq_true] at h
    rw [List.filterMap_cons]
    have hle : (l.filterMap f).length ≤ l.length := List.length_filterMap_le ..
    cases e : f x with
    | none => simp only [List.length_cons]; omega
    | some y =>
      rw [e] at h
      rcases h with h | h
      · cases h
      · have := fm_lt f l h
        simp only [List.length_cons]; omega
theorem swap_none {ts vs : List Expr} {kt k2 : Nat} {pt p2 : Pos} (h : Ctx X G c k C o) (q : parN c ts = true) : swappedStores [.Tuple ts kt pt] (.Tuple vs k2 p2) X.env = pure none := by
  unfold swappedStores
  simp only
  split
  · rfl
  · rename_i h1
    split
    · rfl
    · have h2 : (ts.any (notLocal c)) = true := by
        unfold parN at q
        rw [Bool.or_eq_true] at q
        rcases q with q | q
        · exfalso
          apply h1
          rw [q]; rfl
        · exact q
      have h3 := fm_lt (fun e : Expr => match e with
        | .Name id pos => if X.env.kindOf id == some .local && pos.line == (ts.head?.map (·.pos.line)).getD 0 then some id else none
        | _ => none) ts (by
          rw [List.any_eq_true] at h2 ⊢
          obtain ⟨x, hx, hn⟩ := h2
          refine ⟨x, hx, ?_⟩
          unfold notLocal at hn
          split at hn
          · rename_i y p
            have ky : X.env.kindOf y = c.sc.names.lookup y := by
              show X.env.scope.names.lookup y = _
              rw [h.sc]
            rw [Bool.not_eq_true'] at hn
            show (if (X.env.kindOf y == some NameKind.local && p.line == (Option.map (fun x => x.pos.line) ts.head?).getD 0) = true then some y else none).isNone = true
            rw [ky, hn]; rfl
          · rfl
          · cases hn)
      split
      · rfl
      · rename_i h4
        exfalso
        apply h4
        rw [Bool.or_eq_true]
        left
        rw [bne_iff_ne]
        exact Nat.ne_of_lt h3
theorem mS_asg {t : Tg} {e : Ex} {s : Stmt} (h : Ctx X G c k C o) (tk : Takes X W) (q : mS c (.asg t e) s = true) : EvSt X G W s (exS C o w (.asg t e)) := by
  unfold mS at q
  split at q
  case h_2 => cases q
  rename_i tg v p hs
  cases asgd_eq hs
  simp only [Bool.and_eq_true] at q
  obtain ⟨⟨⟨q1, q2⟩, q3⟩, q4⟩ := q
  have iv := mE_ok (o := o) e c X W v h tk q3
  split at q4
  · rename_i x px hx
    cases asName_eq hx
    cases t with
    | tp ts => unfold mT at q1; cases q1
    | nm i =>
      unfold mT at q1
      rw [Bool.and_eq_true, decide_eq_true_eq] at q1
      obtain ⟨l1, l2⟩ := loc_of h q1.2
      have hi : X.N[i]? = some x := by rw [h.N]; exact q1.1
      split at q4
      · rename_i elt tg iter ifs scope pp hlc
        rw [Bool.and_eq_true] at q4
        have hk := fnK_of h q4.1
        by_cases hb : swB c x px pp scope = true
        · rw [if_pos hb] at q4
          obtain ⟨te, z1, z2⟩ := lc_pair (o := o) (W := W) (spos := p) h tk hk hlc q3 q4.2 hb hi
          exact st_asgLc z1 z2
        · refine st_asg h.nd hi l1 l2 iv.ev ?_
          cases asLc_eq hlc
          rw [sw_eq h hk]
          simp only [Bool.not_eq_true] at hb
          rw [hb]
      · split at q4
        · rename_i kx elt tg iter ifs scope pp hdc
          rw [Bool.and_eq_true] at q4
          have hk := fnK_of h q4.1
          by_cases hb : swB c x px pp scope = true
          · rw [if_pos hb] at q4
            obtain ⟨te, z1, z2⟩ := dc_pair (o := o) (W := W) (spos := p) h tk hk hdc q3 q4.2 hb hi
            exact st_asgLc z1 z2
          · refine st_asg h.nd hi l1 l2 iv.ev ?_
            cases asDc_eq hdc
            rw [sw_eqD h hk]
            simp only [Bool.not_eq_true] at hb
            rw [hb]
        · exact st_asg h.nd hi l1 l2 iv.ev (sw_no q4)
  · rw [Bool.and_eq_true] at q4
    refine st_asgT (mT_ok h t tg q1) iv.ev q4.1 ?_ q2
    obtain ⟨_, q5⟩ := q4
    split at q5
    · rename_i hv
      cases v <;> first | (cases tg <;> rfl) | (unfold asTup at hv; cases hv)
    · rename_i vs k2 p2 hv
      cases asTup_eq hv
      split at q5
      · rename_i ts kt pt ht
        cases asTup_eq ht
        exact swap_none h q5
      · cases q5
theorem mS_par {is : List Nat} {es : Exs} {s : Stmt} (h : Ctx X G c k C o) (tk : Takes X W) (q : mS c (.par is es) s = true) : EvSt X G W s (exS C o w (.par is es)) := by
  unfold mS at q
  split at q
  case h_2 => cases q
  rename_i tg v p hs
  cases asgd_eq hs
  split at q
  case h_2 => cases q
  rename_i ts kt pt vs k2 pt2 h1 h2
  cases asTup_eq h1
  cases asTup_eq h2
  simp only [Bool.and_eq_true] at q
  obtain ⟨⟨⟨q0, q1⟩, q2⟩, q3⟩ := q
  have hk := fnK_of h q0
  have ia := mEs_ok (o := o) es c X W vs h tk q1
  split at q3
  · cases asN2_eq ‹asN2 _ = some _›
    simp only [Bool.and_eq_true, decide_eq_true_eq] at q3
    obtain ⟨⟨⟨⟨⟨⟨⟨z1, z2⟩, z3⟩, z4⟩, z5⟩, z6⟩, z7⟩, z8⟩ := q3
    have sw := swp2 (pt := pt) (pt2 := pt2) (kt := kt) (k2 := k2) h hk z4 z5 z6 z7 q2 z8
    obtain ⟨a, b, rfl⟩ : ∃ a b, vs = [a, b] := by
      match vs, z8 with
      | [a, b], _ => exact ⟨a, b, rfl⟩
    exact st_par2 h.calm h.nd (by rw [h.N]; exact z1) (by rw [h.N]; exact z2) z3 (by rw [h.sc]; exact z4) (by rw [h.sc]; exact z5) ia sw
  · cases asN3_eq ‹asN3 _ = some _›
    simp only [Bool.and_eq_true, decide_eq_true_eq] at q3
    obtain ⟨⟨⟨⟨⟨⟨⟨⟨⟨⟨⟨⟨z1, z2⟩, z3⟩, z4⟩, z5⟩, z6⟩, z7⟩, z8⟩, z9⟩, z10⟩, z11⟩, z12⟩, z13⟩ := q3
    have sw := swp3 (pt := pt) (pt2 := pt2) (kt := kt) (k2 := k2) h hk z7 z8 z9 z10 z11 z12 q2 z13
    obtain ⟨a, b, d, rfl⟩ : ∃ a b d, vs = [a, b, d] := by
      match vs, z13 with
      | [a, b, d], _ => exact ⟨a, b, d, rfl⟩
    exact st_par3 h.calm h.nd (by rw [h.N]; exact z1) (by rw [h.N]; exact z2) (by rw [h.N]; exact z3) z4 z5 z6 (by rw [h.sc]; exact z7) (by rw [h.sc]; exact z8) (by rw [h.sc]; exact z9) ia sw
  · cases q3
theorem mS_seti {a i e : Ex} {s : Stmt} (h : Ctx X G c k C o) (tk : Takes X W) (q : mS c (.seti a i e) s = true) : EvSt X G W s (exS C o w (.seti a i e)) := by
  unfold mS at q
  split at q
  case h_2 => cases q
  rename_i tg v p hs
  cases asgd_eq hs
  split at q
  case h_2 => cases q
  rename_i b ix pp h1
  cases asSub_eq h1
  simp only [Bool.and_eq_true] at q
  obtain ⟨⟨⟨⟨q1, q2⟩, q3⟩, q4⟩, q5⟩ := q
  exact st_seti (by have := h.units; omega) (mE_ok (o := o) e c X W v h tk q4).ev (mE_ok (o := o) a c X W b h tk q1).ev (mE_ok (o := o) i c X W ix h tk q2).ev q5 (asg_sub q3)
theorem st_bad {s : Stmt} {f : Rho → Mem → O} (h : ∀ ρ m, f ρ m = .bad) : EvSt X G W s f := by
  have : f = fun _ _ => .bad := funext fun ρ => funext fun m => h ρ m
  rw [this]
  exact st_nev
theorem mS_setf {a e : Ex} {f : Str} {cs : List Nat} {s : Stmt} (h : Ctx X G c k C o) (tk : Takes X W) (q : mS c (.setf a f cs e) s = true) : EvSt X G W s (exS C o w (.setf a f cs e)) := by
  unfold mS at q
  split at q
  case h_2 => cases q
  rename_i tg v p hs
  cases asgd_eq hs
  split at q
  case h_2 => cases q
  rename_i b n pp h1
  cases asAtt_eq h1
  simp only [Bool.and_eq_true, decide_eq_true_eq] at q
  obtain ⟨⟨⟨rfl, q1⟩, q2⟩, q3⟩ := q
  exact st_setf (fld_ok h q2) (mE_ok (o := o) e c X W v h tk q3).ev (mE_ok (o := o) a c X W b h tk q1).ev
theorem st_aug {i : Nat} {x : Str} {px pos : Pos} {v : Expr} {fa : Rho → Mem → R EV.D} {op : Operator} {f : Int → Int → Int} (hN : X.N.Nodup) (hi : X.N[i]? = some x) (hx : L2.Loc X.env.scope x) (hf : X.fn x = true ∨ X.env.scope.names.lookup x = some .local) (he : EvE X G W v fa) (hp : PIp X op (ipI f)) :
    EvSt X G W (.AugAssign (.Name x px) op v pos) (fun ρ m => match ρ[i]? with
      | some (some x) => (fa ρ m).go ρ fun y m1 => match x, y with
        | .int a, .int b => .nx (ρ.set i (some (.int (f a b)))) m1
        | _, _ => .bad
      | _ => .bad) := by
  refine PS.imp (ps_aug hN hi hx he hp hf) fun D σ H h => ?_
  obtain ⟨ρ, m, μ, τ, g, s, h⟩ := h
  dsimp only at h
  split at h
  case h_2 => exact h.elim
  rename_i d hd
  obtain ⟨u, hu, ru⟩ := s.2 i d hd
  refine ⟨u, hu, ρ, m, μ, τ, g, s, (go_inv (RP := RD G τ) g s h).imp fun y H1 ⟨d1, m1, μ1, n1, g1, r1, h1⟩ => ?_⟩
  cases d with
  | int a =>
    cases d1 with
    | int b =>
      cases (show u = _ from ru)
      cases (show y = _ from r1)
      have hl : i < ρ.length := (List.getElem?_eq_some_iff.mp hd).1
      exact ⟨a, b, rfl, rfl, h1 _ H1 μ1 .refl g1 ((s.nxt g n1).set hl (show Rep G μ1 τ H1 (.int (f a b)) (.int (f a b)) from rfl))⟩
    | _ => exact h1.elim
  | _ => cases d1 <;> exact h1.elim
theorem mS_aug {i : Nat} {op : Operator} {e : Ex} {s : Stmt} (h : Ctx X G c k C o) (tk : Takes X W) (q : mS c (.aug i op e) s = true) : EvSt X G W s (exS C o w (.aug i op e)) := by
  unfold mS at q
  split at q
  case h_2 => cases q
  rename_i x px op' v pos hs
  cases asAug_eq hs
  simp only [Bool.and_eq_true, decide_eq_true_eq] at q
  obtain ⟨⟨⟨⟨rfl, q0⟩, q1⟩, q2⟩, q3⟩ := q
  obtain ⟨l1, l2⟩ := loc_of h q2
  have he := (mE_ok (o := o) e c X W v h tk q3).ev
  cases op with
  | Add => exact st_aug (f := fun i j => i + j) h.nd (by rw [h.N]; exact q1) l1 l2 he ip_add
  | Sub => exact st_aug (f := fun i j => i - j) h.nd (by rw [h.N]; exact q1) l1 l2 he ip_sub
  | _ => cases q0
theorem mS_augf {a e : Ex} {f : Str} {cs : List Nat} {s : Stmt} (h : Ctx X G c k C o) (tk : Takes X W) (q : mS c (.augf a f cs e) s = true) : EvSt X G W s (exS C o w (.augf a f cs e)) := by
  unfold mS at q
  split at q
  case h_2 => cases q
  rename_i k0
  split at q
  case h_2 => cases q
  rename_i o' n p v pos hs
  cases asAugA_eq hs
  simp only [Bool.and_eq_true, decide_eq_true_eq] at q
  obtain ⟨⟨⟨rfl, q1⟩, q2⟩, q3⟩ := q
  exact st_augf rfl (fld_ok h q2) (mE_ok (o := o) a c X W o' h tk q1).ev (mE_ok (o := o) e c X W v h tk q3).ev
theorem mS_rai {x : Nat} {es : Exs} {s : Stmt} (h : Ctx X G c k C o) (tk : Takes X W) (q : mS c (.rai x es) s = true) : EvSt X G W s (exS C o w (.rai x es)) := by
  unfold mS at q
  by_cases he : o.exc = true
  case neg => exact st_bad fun ρ m => by unfold exS; rw [if_neg he]
  have hr : Room 2 X.A := h.room.mono (h.exc he)
  split at q
  · cases q
  rename_i v p hs
  cases asRaise_eq hs
  split at q
  case h_2 => cases q
  rename_i xc hx
  rw [Bool.and_eq_true, decide_eq_true_eq] at q
  obtain ⟨q0, q⟩ := q
  have hE := h.xcs x xc q0 hx
  split at q
  · rename_i hf
    split at q
    case h_2 => cases q
    rename_i n px pp hz
    cases asCall0_eq hz
    simp only [Bool.and_eq_true, decide_eq_true_eq] at q
    obtain ⟨⟨rfl, q2⟩, q3⟩ := q
    obtain ⟨g1, g2⟩ := gl_of h q2
    cases es with
    | cons _ _ => unfold mEs at q3; cases q3
    | nil =>
      have e : exS C o w (.rai x .nil) = fun ρ m => .ex x none ρ m := by
        funext ρ m
        unfold exS
        rw [if_pos he]
        unfold evEs
        rfl
      rw [e]
      exact st_rai0 h.calm tk hE hf hr g1 g2
  · rename_i f hf
    split at q
    case h_2 => cases q
    rename_i n px y ys pp hz
    cases asCall_eq hz
    simp only [Bool.and_eq_true, decide_eq_true_eq] at q
    obtain ⟨⟨⟨q1, rfl⟩, q2⟩, q3⟩ := q
    obtain ⟨g1, g2⟩ := gl_of h q2
    cases ys with
    | cons _ _ => exact absurd q1 Bool.false_ne_true
    | nil =>
      cases es with
      | nil => unfold mEs at q3; cases q3
      | cons e0 es =>
        unfold mEs at q3
        simp only [Bool.and_eq_true] at q3
        obtain ⟨⟨q4, q5⟩, q6⟩ := q3
        cases es with
        | cons _ _ => unfold mEs at q6; cases q6
        | nil =>
          have e : exS C o w (.rai x (.cons e0 .nil)) = fun ρ m => (evE C o e0 ρ m).go ρ fun d m1 => .ex x (some d) ρ m1 := by
            funext ρ m
            unfold exS
            rw [if_pos he]
            unfold evEs
            cases evE C o e0 ρ m with
            | ok d m1 => unfold evEs; rfl
            | ex _ _ _ => rfl
            | bad => rfl
          rw [e]
          exact st_rai1 h.calm tk hE hf hr g1 g2 (mE_ok (o := o) e0 c X W y h tk q4).ev q5
theorem mS_sasg {a i : Ex} {j : Nat} {es : Exs} {s : Stmt} (h : Ctx X G c k C o) (tk : Takes X W) (q : mS c (.sasg a i j es) s = true) : EvSt X G W s (exS C o w (.sasg a i j es)) := by
  unfold mS at q
  split at q
  case h_2 => cases q
  rename_i tg v p hs
  cases asgd_eq hs
  split at q
  case h_2 => cases q
  rename_i ts kt pt vs k2 pt2 h1 h2
  cases asTup_eq h1
  cases asTup_eq h2
  split at q
  case h_2 => cases q
  rename_i t1 t2
  split at q
  case h_2 => cases q
  rename_i o' ix pp x px h3 h4
  cases asSub_eq h3
  cases asName_eq h4
  simp only [Bool.and_eq_true, decide_eq_true_eq] at q
  obtain ⟨⟨⟨⟨⟨q1, q2⟩, q3⟩, q4⟩, q5⟩, q6⟩ := q
  obtain ⟨l1, l2⟩ := loc_of h q6
  have hst : swappedStores [.Tuple [.Subscript o' ix pp, .Name x px] kt pt] (.Tuple vs k2 pt2) X.env = pure none := swap_none h (by unfold parN; rw [Bool.or_eq_true]; right; rfl)
  have hv := (mE_ok (o := o) (.tup es) c X W _ h tk q4).ev
  exact st_sasg h.hK h.calm h.nd (by have := h.units; omega) hv (mE_ok (o := o) a c X W o' h tk q1).ev (mE_ok (o := o) i c X W ix h tk q2).ev (by rw [h.N]; exact q5) l1 l2 rfl hst (asg_sub q3)
mutual
theorem mS_ok (h : Ctx X G c k C o) (tk : Takes X W) (hp : PassesOwn (model X.prog X.w) X.A X.env X.xe) : ∀ (st : St) (s : Stmt), mS c st s = true → EvSt X G W s (exS C o w st)
  | .asg t e, s, q => mS_asg h tk q
  | .par is es, s, q => mS_par h tk q
  | .seti a i e, s, q => mS_seti h tk q
  | .sasg a i j es, s, q => mS_sasg h tk q
  | .setf a f cs e, s, q => mS_setf h tk q
  | .aug i op e, s, q => mS_aug h tk q
  | .augf a f cs e, s, q => mS_augf h tk q
  | .expr e, s, q => by
    cases s with
    | Expr v p =>
      unfold mS at q
      rw [Bool.and_eq_true] at q
      exact st_expr (mE_ok (o := o) e c X W v h tk q.1).ev q.2
    | _ => unfold mS at q; cases q
  | .ret e, s, q => by
    cases s with
    | Return v p =>
      cases v with
      | some v =>
        unfold mS at q
        exact st_ret (mE_ok (o := o) e c X W v h tk q).ev
      | none => unfold mS at q; cases q
    | _ => unfold mS at q; cases q
  | .retn, s, q => by
    cases s with
    | Return v p =>
      cases v with
      | none => exact st_retn
      | some v => unfold mS at q; cases q
    | _ => unfold mS at q; cases q
  | .ifs t a b, s, q => by
    cases s with
    | If t' a' b' p =>
      unfold mS at q
      simp only [Bool.and_eq_true] at q
      exact st_if (mE_ok (o := o) t c X W t' h tk q.1.1).tv (mSs_ok h tk hp a a' q.1.2) (mSs_ok h tk hp b b' q.2)
    | _ => unfold mS at q; cases q
  | .fors t it b, s, q => by
    cases s with
    | For tg iter body orelse p =>
      cases orelse with
      | nil =>
        unfold mS at q
        simp only [Bool.and_eq_true] at q
        exact st_for hp h.calm (mI_ok (o := o) it c X W tg iter h tk q.1.1.2) (mT_ok h t tg q.1.1.1) (mSs_ok h tk hp b body q.2) (fun x => noset_of q.1.2 x)
      | cons _ _ => unfold mS at q; cases q
    | _ => unfold mS at q; cases q
  | .whl t b, s, q => by
    cases s with
    | While t' body orelse p =>
      cases orelse with
      | nil =>
        unfold mS at q
        rw [Bool.and_eq_true] at q
        exact st_whl w hp (mE_ok (o := o) t c X W t' h tk q.1).tv (mSs_ok h tk hp b body q.2)
      | cons _ _ => unfold mS at q; cases q
    | _ => unfold mS at q; cases q
  | .brk, s, q => by
    cases s with
    | Break p => exact st_brk
    | _ => unfold mS at q; cases q
  | .cnt, s, q => by
    cases s with
    | Continue p => exact st_cnt
    | _ => unfold mS at q; cases q
  | .pas, s, q => by
    cases s with
    | Pass p => exact st_pas
    | _ => unfold mS at q; cases q
  | .nev, s, q => st_nev
  | .rai x es, s, q => mS_rai h tk q
theorem mSs_ok (h : Ctx X G c k C o) (tk : Takes X W) (hp : PassesOwn (model X.prog X.w) X.A X.env X.xe) : ∀ (st : Ss) (s : List Stmt), mSs c st s = true → EvSs X G W s (exSs C o w st)
  | .nil, [], q => sts_nil
  | .nil, _ :: _, q => by unfold mSs at q; cases q
  | .cons _ _, [], q => by unfold mSs at q; cases q
  | .cons s r, x :: xs, q => by
    unfold mSs at q
    rw [Bool.and_eq_true] at q
    exact sts_cons (mS_ok h tk hp s x q.1) (mSs_ok h tk hp r xs q.2)
end
end
end EV

/-! Defs, the law. -/
namespace EV
open PySem PySem.Spec PyProof.Rows L2
section
variable {G : Gw} {W : WX} {σ : L2.St} {μ τ μ' τ' : List Addr} {H H' : Hp} {m m' : Mem} {Q : VK}
/-! ### behind a call -/
mutual
theorem Rep.bel : ∀ {d : D} {v : V}, Rep G μ τ H d v → bel μ.length d = true
  | .non, _, _ => rfl
  | .bl _, _, _ => rfl
  | .int _, _, _ => rfl
  | .str _, _, _ => rfl
  | .tup ds, v, r => by
    obtain ⟨a, vs, _, _, rs⟩ := r
    exact Reps.bel rs
  | .lst ds, v, r => by
    obtain ⟨a, vs, _, _, _, _, rs⟩ := r
    exact Reps.bel rs
  | .dic ks ds, v, r => by
    obtain ⟨a, vs, _, _, _, _, _, rs⟩ := r
    exact Reps.bel rs
  | .ref n, v, r => by
    obtain ⟨a, _, q⟩ := r
    exact decide_eq_true (List.getElem?_eq_some_iff.mp q).1
  | .fn, _, _ => rfl
  | .scr _, _, _ => rfl
  | .pr x y, v, r => by
    obtain ⟨a, p, q, _, _, r1, r2⟩ := r
    show (EV.bel μ.length x && EV.bel μ.length y) = true
    rw [Rep.bel r1, Rep.bel r2]; rfl
theorem Reps.bel : ∀ {ds : List D} {vs : List V}, Reps G μ τ H ds vs → bels μ.length ds = true
  | [], _, _ => rfl
  | d :: ds, vs, r => by
    obtain ⟨v, r', _, p, rs⟩ := r
    show (EV.bel μ.length d && bels μ.length ds) = true
    rw [Rep.bel p, Reps.bel rs]; rfl
end
mutual
/-- what tells of old cells alone stands for the same with fewer cells -/
theorem Rep.less (hs : ∀ a, a ∈ μ → a ∈ μ') {k : Nat} (hp : ∀ n a, n < k → μ'[n]? = some a → μ[n]? = some a) : ∀ {d : D} {v : V}, bel k d = true → Rep G μ' τ H d v → Rep G μ τ H d v
  | .non, _, _, r => r
  | .bl _, _, _, r => r
  | .int _, _, _, r => r
  | .str _, _, _, r => r
  | .tup ds, v, b, r => by
    obtain ⟨a, vs, e, q, rs⟩ := r
    exact ⟨a, vs, e, q, Reps.less hs hp b rs⟩
  | .lst ds, v, b, r => by
    obtain ⟨a, vs, e, q, n1, n2, rs⟩ := r
    exact ⟨a, vs, e, q, fun z => n1 (hs a z), n2, Reps.less hs hp b rs⟩
  | .dic ks ds, v, b, r => by
    obtain ⟨a, vs, e, q, l, n1, n2, rs⟩ := r
    exact ⟨a, vs, e, q, l, fun z => n1 (hs a z), n2, Reps.less hs hp b rs⟩
  | .ref n, v, b, r => by
    obtain ⟨a, e, q⟩ := r
    exact ⟨a, e, hp n a (of_decide_eq_true b) q⟩
  | .fn, _, _, r => r
  | .scr ns, v, b, r => by
    obtain ⟨a, e, ⟨q, n1, n2⟩ | q⟩ := r
    · exact ⟨a, e, .inl ⟨q, fun z => n1 (hs a z), n2⟩⟩
    · exact ⟨a, e, .inr q⟩
  | .pr x y, v, b, r => by
    obtain ⟨a, p, q, e, t, r1, r2⟩ := r
    have b' : (bel k x && bel k y) = true := b
    rw [Bool.and_eq_true] at b'
    exact ⟨a, p, q, e, t, Rep.less hs hp b'.1 r1, Rep.less hs hp b'.2 r2⟩
theorem Reps.less (hs : ∀ a, a ∈ μ → a ∈ μ') {k : Nat} (hp : ∀ n a, n < k → μ'[n]? = some a → μ[n]? = some a) : ∀ {ds : List D} {vs : List V}, bels k ds = true → Reps G μ' τ H ds vs → Reps G μ τ H ds vs
  | [], _, _, r => r
  | d :: ds, vs, b, r => by
    obtain ⟨v, r', e, p, rs⟩ := r
    have b' : (bel k d && bels k ds) = true := b
    rw [Bool.and_eq_true] at b'
    exact ⟨v, r', e, Rep.less hs hp b'.1 p, Reps.less hs hp b'.2 rs⟩
end
theorem CellRep.less (hs : ∀ a, a ∈ μ → a ∈ μ') {k : Nat} (hp : ∀ n a, n < k → μ'[n]? = some a → μ[n]? = some a) {a : Addr} {c : Cell} (b : belC k c = true) (r : CellRep G μ' τ H a c) : CellRep G μ τ H a c := by
  cases c with
  | lst ds => obtain ⟨vs, h1, h2⟩ := r; exact ⟨vs, h1, h2.less hs hp b⟩
  | dic ks ds => obtain ⟨vs, h1, l, h2⟩ := r; exact ⟨vs, h1, l, h2.less hs hp b⟩
  | ins c ns ds => obtain ⟨dx, vs, h1, l, h2⟩ := r; exact ⟨dx, vs, h1, l, h2.less hs hp b⟩
theorem CellRep.bel {a : Addr} {c : Cell} (r : CellRep G μ τ H a c) : belC μ.length c = true := by
  cases c with
  | lst ds => obtain ⟨vs, h1, h2⟩ := r; exact h2.bel
  | dic ks ds => obtain ⟨vs, h1, l, h2⟩ := r; exact h2.bel
  | ins c ns ds => obtain ⟨dx, vs, h1, l, h2⟩ := r; exact h2.bel
theorem keep_inv {k : Nat} : ∀ {M m : Mem}, keepC k M m = true → M.length ≤ m.length ∧ ∀ (n : Nat) (c c' : Cell), M[n]? = some c → m[n]? = some c' → c = c' ∨ belC k c' = true
  | [], _, _ => ⟨Nat.zero_le _, fun n c c' e _ => by simp at e⟩
  | c :: M, [], h => by unfold keepC at h; cases h
  | c :: M, c' :: m, h => by
    unfold keepC at h
    rw [Bool.and_eq_true, Bool.or_eq_true, decide_eq_true_eq] at h
    obtain ⟨h1, h2⟩ := keep_inv h.2
    refine ⟨Nat.succ_le_succ h1, fun n d d' e e' => ?_⟩
    cases n with
    | zero =>
      simp at e e'
      subst e e'
      exact h.1
    | succ n => exact h2 n d d' (by simpa using e) (by simpa using e')
theorem gc_inv {r : R D} (g : Good G μ τ m H) (h : Pst G W σ μ τ H (RD G τ) (gcR m r) Q) : Pst G W σ μ τ H (RD G τ) r Q := by
  cases r with
  | bad => exact h
  | ex x p m1 => exact h
  | ok d m1 =>
    unfold gcR at h
    dsimp only at h
    by_cases hk : keepC m.length m m1 = true
    case neg => rw [if_neg hk] at h; exact h
    rw [if_pos hk] at h
    obtain ⟨hl, hkeep⟩ := keep_inv hk
    intro v H1 μ1 n1 g1 r1
    have hs : ∀ a, a ∈ μ → a ∈ μ1 := fun a z => n1.sub z
    have hp : ∀ n a, n < m.length → μ1[n]? = some a → μ[n]? = some a := fun n a hn e => by
      rw [← g.len] at hn
      have z := n1.pre n μ[n] (by simp [hn])
      rw [e] at z
      cases z
      simp [hn]
    have nx : Nxt μ τ H μ τ H1 := ⟨fun _ _ z => z, n1.keep, n1.tbl, fun a z => .inl z, fun a z => .inl z⟩
    have cells : ∀ (n : Nat) (c : Cell) (a : Addr), n < m.length → m1[n]? = some c → μ[n]? = some a → CellRep G μ τ H1 a c := fun n c a hn e1 e2 => by
      have e3 := n1.pre n a e2
      have cr := g1.cell n c a e1 e3
      refine cr.less hs hp ?_
      rcases hkeep n m[n] c (by simp [hn]) e1 with z | z
      · have := (g.cell n m[n] a (by simp [hn]) e2).bel
        rw [z, g.len] at this; exact this
      · exact z
    have g0 : Good G μ τ (m1.take m.length) H1 := by
      refine ⟨by rw [List.length_take, g.len]; omega, fun n c a e1 e2 => ?_, g.nodup, fun a z => ⟨(g.dis a z).1, (g1.dis a z).2⟩, g1.tabs⟩
      have hn : n < m.length := by rw [← g.len]; exact (List.getElem?_eq_some_iff.mp e2).1
      rw [List.getElem?_take_of_lt hn] at e1
      exact cells n c a hn e1 e2
    by_cases hb : bel m.length d = true
    · rw [if_pos hb] at h
      exact h v H1 μ nx g0 (r1.less hs hp hb)
    · rw [if_neg hb] at h
      cases d with
      | ref n =>
        dsimp only at h
        cases hc : m1[n]? with
        | none => rw [hc] at h; exact h v H1 μ1 n1 g1 r1
        | some c =>
          rw [hc] at h
          dsimp only at h
          by_cases hcc : belC m.length c = true ∧ m.length ≤ n
          · rw [if_pos hcc] at h
            obtain ⟨a, rfl, ha⟩ := r1
            have hna : a ∉ μ := fun z => by
              obtain ⟨i, hi, e⟩ := List.getElem_of_mem z
              have e2 := n1.pre i a (by simp [hi, e])
              obtain ⟨h1, e1'⟩ := List.getElem?_eq_some_iff.mp e2
              obtain ⟨h2, e2'⟩ := List.getElem?_eq_some_iff.mp ha
              have := (List.getElem_inj g1.nodup).mp (e1'.trans e2'.symm)
              have := g.len
              omega
            have am : a ∈ μ1 := List.mem_of_getElem? ha
            have nw : H a = none := (n1.newM a am).resolve_left hna
            have hs2 : ∀ b, b ∈ μ ++ [a] → b ∈ μ1 := fun b z => by
              rcases List.mem_append.mp z with z | z
              · exact hs b z
              · rw [List.mem_singleton] at z; rw [z]; exact am
            have nx2 : Nxt μ τ H (μ ++ [a]) τ H1 := ⟨fun _ _ z => pre_snoc z, n1.keep, n1.tbl, fun b z => by
              rcases List.mem_append.mp z with z | z
              · exact .inl z
              · rw [List.mem_singleton] at z; rw [z]; exact .inr nw, fun b z => .inl z⟩
            have hp2 : ∀ n b, n < m.length → μ1[n]? = some b → (μ ++ [a])[n]? = some b := fun n b hn e => pre_snoc (hp n b hn e)
            refine h (.ref a) H1 (μ ++ [a]) nx2 ⟨?_, fun k cl b e1 e2 => ?_, ?_, fun b z => ⟨?_, (g1.dis b z).2⟩, g1.tabs⟩ ⟨a, rfl, ?_⟩
            · rw [List.length_append, List.length_append, List.length_take, g.len, Nat.min_eq_left hl]; rfl
            · by_cases hk2 : k < m.length
              · have lt : k < (m1.take m.length).length := by rw [List.length_take]; omega
                rw [List.getElem?_append_left lt, List.getElem?_take_of_lt hk2] at e1
                rw [List.getElem?_append_left (by rw [g.len]; exact hk2)] at e2
                have e3 := n1.pre k b e2
                refine (g1.cell k cl b e1 e3).less hs2 hp2 ?_
                rcases hkeep k m[k] cl (by simp [hk2]) e1 with z | z
                · have := (g.cell k m[k] b (by simp [hk2]) e2).bel
                  rw [z, g.len] at this; exact this
                · exact z
              · have hk3 : k = m.length := by
                  have := (List.getElem?_eq_some_iff.mp e2).1
                  rw [List.length_append, g.len] at this
                  simp at this; omega
                subst hk3
                have hl2 : (m1.take m.length).length = m.length := by rw [List.length_take]; omega
                rw [List.getElem?_append_right (by rw [hl2]; exact Nat.le_refl _), hl2] at e1
                rw [List.getElem?_append_right (by rw [g.len]; exact Nat.le_refl _), g.len] at e2
                simp at e1 e2
                subst e1 e2
                exact (g1.cell n c a hc ha).less hs2 hp2 hcc.1
            · rw [List.nodup_append]
              refine ⟨g.nodup, by simp, fun b hb c hc => ?_⟩
              rw [List.mem_singleton] at hc
              subst hc
              exact fun z => hna (z ▸ hb)
            · rw [List.mem_append, List.mem_singleton, not_or]
              exact ⟨(g.dis b z).1, fun zz => (g1.dis b z).1 (zz ▸ am)⟩
            · rw [← g.len]; simp
          · rw [if_neg hcc] at h
            exact h v H1 μ1 n1 g1 r1
      | _ => exact h v H1 μ1 n1 g1 r1
/-! ### defs -/
theorem start_slots {n : Nat} {N : List Str} {ds : List D} {vs : List V} (rs : Reps G μ τ H ds vs) (hn : n = N.length) : Slots G μ τ H (startR n ds) (L2.start N vs) := by
  subst hn
  have l := rs.length
  refine ⟨by unfold startR L2.start; simp [l], fun i d e => ?_⟩
  unfold startR at e
  unfold L2.start
  by_cases hi : i < ds.length
  · rw [List.getElem?_append_left (by simpa using hi), List.getElem?_map] at e
    obtain ⟨d', e1, e2⟩ := Option.map_eq_some_iff.mp e
    cases e2
    obtain ⟨v, h1, h2⟩ := rs.get e1
    refine ⟨v, ?_, h2⟩
    rw [List.getElem?_append_left (by simpa [l] using hi), List.getElem?_map, h1]; rfl
  · rw [List.getElem?_append_right (by simpa using hi), List.getElem?_replicate] at e
    split at e <;> cases e
theorem ret_inv {E : XK} {o : O} (h : Pst G (fun c dd _ H' => E c dd H') [] μ τ H (RD G τ) (retO o) Q) : PstS G (fun c dd _ H' => E c dd H') μ τ H o { nx := fun _ H' => Q .non H', rt := Q } := by
  cases o with
  | nx ρ m => exact fun σ' H' μ' n g s => h .non H' μ' n g rfl
  | rt d m => exact h
  | ex x p ρ m => exact fun c dd σ' H' μ' n g e s => h c dd H' μ' n g e
  | bk ρ m => exact False.elim h
  | ct ρ m => exact False.elim h
  | bad => exact h
end
section
variable {G : Gw} {W : WX} {μ τ μa τa μb τb : List Addr} {H H1 : Hp} {m : Mem} {Q : VK}
mutual
theorem Rep.move (hs : ∀ a : Addr, a ∉ μa ∧ a ∉ τa → a ∉ μb ∧ a ∉ τb) : ∀ {d : D} {v : V}, bel 0 d = true → Rep G μa τa H d v → Rep G μb τb H d v
  | .non, _, _, r => r
  | .bl _, _, _, r => r
  | .int _, _, _, r => r
  | .str _, _, _, r => r
  | .tup ds, v, b, r => by
    obtain ⟨a, vs, e, q, rs⟩ := r
    exact ⟨a, vs, e, q, Reps.move hs b rs⟩
  | .lst ds, v, b, r => by
    obtain ⟨a, vs, e, q, n1, n2, rs⟩ := r
    exact ⟨a, vs, e, q, (hs a ⟨n1, n2⟩).1, (hs a ⟨n1, n2⟩).2, Reps.move hs b rs⟩
  | .dic ks ds, v, b, r => by
    obtain ⟨a, vs, e, q, l, n1, n2, rs⟩ := r
    exact ⟨a, vs, e, q, l, (hs a ⟨n1, n2⟩).1, (hs a ⟨n1, n2⟩).2, Reps.move hs b rs⟩
  | .ref n, v, b, r => by
    have := of_decide_eq_true (show decide (n < 0) = true from b)
    omega
  | .fn, v, b, r => r
  | .scr ns, v, b, r => by
    obtain ⟨a, e, q⟩ := r
    refine ⟨a, e, ?_⟩
    rcases q with ⟨q, n1, n2⟩ | q
    · exact .inl ⟨q, hs a ⟨n1, n2⟩⟩
    · exact .inr q
  | .pr x y, v, b, r => by
    obtain ⟨a, p, q, e, h, r1, r2⟩ := r
    have b' : (bel 0 x && bel 0 y) = true := b
    rw [Bool.and_eq_true] at b'
    exact ⟨a, p, q, e, h, Rep.move hs b'.1 r1, Rep.move hs b'.2 r2⟩
theorem Reps.move (hs : ∀ a : Addr, a ∉ μa ∧ a ∉ τa → a ∉ μb ∧ a ∉ τb) : ∀ {ds : List D} {vs : List V}, bels 0 ds = true → Reps G μa τa H ds vs → Reps G μb τb H ds vs
  | [], _, _, r => r
  | d :: ds, vs, b, r => by
    obtain ⟨v, r', e, p, rs⟩ := r
    have b' : (bel 0 d && bels 0 ds) = true := b
    rw [Bool.and_eq_true] at b'
    exact ⟨v, r', e, Rep.move hs b'.1 p, Reps.move hs b'.2 rs⟩
end
theorem move_in (a : Addr) (h : a ∉ μ ∧ a ∉ τ) : a ∉ ([] : List Addr) ∧ a ∉ μ ++ τ := ⟨by simp, by rw [List.mem_append, not_or]; exact h⟩
theorem move_out (a : Addr) (h : a ∉ μa ∧ a ∉ μ ++ τ) : a ∉ μ ∧ a ∉ τ := by
  have := h.2
  rw [List.mem_append, not_or] at this
  exact this
theorem Good.iso (g : Good G μ τ m H) : Good G [] (μ ++ τ) [] H := by
  refine ⟨rfl, fun n c a e _ => by simp at e, List.nodup_nil, fun a ha => ⟨by simp, ?_⟩, g.tabs⟩
  rcases List.mem_append.mp ha with h | h
  · obtain ⟨o, e, _⟩ := g.mut h
    rw [e]; simp
  · exact (g.dis a h).2
theorem Nxt.iso (n : Nxt [] (μ ++ τ) H μa (μ ++ τ) H1) : Nxt μ τ H μ τ H1 := ⟨fun _ _ e => e, fun a o e _ ne => n.keep a o e (by simp) ne, n.tbl, fun _ h => .inl h, fun _ h => .inl h⟩
theorem Good.back {m1 : Mem} (g : Good G μ τ m H) (n : Nxt [] (μ ++ τ) H μa (μ ++ τ) H1) (g1 : Good G μa (μ ++ τ) m1 H1) : Good G μ τ m H1 := by
  refine ⟨g.len, fun k c a e1 e2 => ?_, g.nodup, fun a ha => ⟨(g.dis a ha).1, fun z => ?_⟩, g1.tabs⟩
  · obtain ⟨o, e, mo⟩ := g.mut (List.mem_of_getElem? e2)
    have e' := n.keep a o e (by simp) (fun ps z => by subst z; exact mo)
    exact (g.cell k c a e1 e2).nxt n.iso (fun _ => g.mut) (by rw [e, e'])
  · rcases n.none_of z with z | z
    · simp at z
    · exact (g.dis a ha).2 z
theorem iso_inv {run : Mem → R D} {ds : List D} {vs : List V} (g : Good G μ τ m H) (rs : Reps G μ τ H ds vs) (h : Pst G W [] μ τ H (RD G τ) (isoR run ds m) Q) :
    ∃ m' μ' τ', Good G μ' τ' m' H ∧ Reps G μ' τ' H ds vs ∧ Pst G W [] μ' τ' H (RD G τ') (run m') Q := by
  unfold isoR at h
  split at h
  case isFalse => exact ⟨m, μ, τ, g, rs, h⟩
  rename_i hb
  rw [Bool.and_eq_true] at hb
  have rs' : Reps G [] (μ ++ τ) H ds vs := rs.move move_in hb.2
  split at h
  · rename_i d m1 hr
    split at h
    · rename_i hd
      refine ⟨[], [], μ ++ τ, g.iso, rs', ?_⟩
      rw [hr]
      intro v H1 μ1 n g1 r
      exact h v H1 μ n.iso (g.back n g1) (Rep.move move_out hd r)
    · exact ⟨m, μ, τ, g, rs, h⟩
  · rename_i x m1 hr
    refine ⟨[], [], μ ++ τ, g.iso, rs', ?_⟩
    rw [hr]
    intro c dd H1 μ1 n g1 r
    exact h c dd H1 μ n.iso (g.back n g1) r
  · rename_i x d m1 hr
    split at h
    · rename_i hd
      refine ⟨[], [], μ ++ τ, g.iso, rs', ?_⟩
      rw [hr]
      intro c dd H1 μ1 n g1 r
      obtain ⟨r1, a, v, r2, r3, r4⟩ := r
      exact h c dd H1 μ n.iso (g.back n g1) ⟨r1, a, v, r2, r3, Rep.move move_out hd r4⟩
    · exact ⟨m, μ, τ, g, rs, h⟩
  · exact ⟨m, μ, τ, g, rs, h⟩
end
/-- a tree tells a def -/
structure RowOk (xs : List Xc) (T : List Fn) (GK : List (Str × D)) (fn : Fn) (st : Stmt) (N ps : List Str) : Prop where
  np : fn.np = ps.length
  ns : fn.ns = N.length
  S : FnScope N ps (defScope st)
  body : mSs ⟨xs, T, GK, N, defScope st, fun _ => true, fn.lams⟩ fn.body (defBody st) = true
/-- a clause's text can be told -/
def hvS : Hv → Bool
  | .t s => sOk s
  | .l s => sOk s
  | .tf s => sOk s
  | .lf s => sOk s
  | _ => true
/-- a told def's text -/
def ToldRow (xs : List Xc) (st : Stmt) (ps : List Str) : Told → Prop
  | .a pre hs n => ∃ (a v : Str) (hds : List ExceptHandler) (j : Nat) (p1 p2 p3 p4 p5 p6 p7 p8 p9 : Pos), defBody st = [.Assign [.Name v p1] (.Constant (.str pre) j p2) p3, .Try [.Expr (.Call (.Name a p4) [] [] p5) p6] hds [] [] p7, .Return (some (.Name v p8)) p9] ∧
    hds ≠ [] ∧ a ≠ v ∧ ps = [a] ∧ FnScope [a, v] [a] (defScope st) ∧ (defScope st).names.lookup v = some .local ∧ dbg v = false ∧ dbg a = false ∧ mHsA (xs.map (·.name)) (defScope st) v hds hs = true ∧ hs.all (fun h => sOk h.2) = true ∧ sOk pre = true ∧ n = xs.length
  | .c hs n => ∃ (a : Str) (hds : List ExceptHandler) (p4 p5 p6 p7 : Pos), defBody st = [.Try [.Return (some (.Call (.Name a p4) [] [] p5)) p6] hds [] [] p7] ∧
    hds ≠ [] ∧ ps = [a] ∧ FnScope [a] [a] (defScope st) ∧ dbg a = false ∧ mHsC (xs.map (·.name)) (defScope st) hds hs = true ∧ hs.all (fun h => sOk h.2) = true ∧ n = xs.length
  | .d none hs n => ∃ (a : Str) (Ng : List Str) (hds : List ExceptHandler) (p4 p5 p6 p7 : Pos), defBody st = [.Try [.Return (some (.Call (.Name a p4) [] [] p5)) p6] hds [] [] p7] ∧
    hds ≠ [] ∧ ps = [a] ∧ FnScope Ng [a] (defScope st) ∧ Ng.Nodup ∧ Ng[0]? = some a ∧ dbg a = false ∧ mHsD xs Ng (defScope st) hds hs = true ∧ hs.all (fun h => hvS h.2) = true ∧ n = xs.length
  | .d (some w) hs n => ∃ (a : Str) (Ng : List Str) (hds : List ExceptHandler) (v : Expr) (p4 p5 p6 p7 p9 : Pos), defBody st = [.Try [.Expr (.Call (.Name a p4) [] [] p5) p6] hds [] [] p7, .Return (some v) p9] ∧
    hds ≠ [] ∧ ps = [a] ∧ FnScope Ng [a] (defScope st) ∧ Ng.Nodup ∧ Ng[0]? = some a ∧ dbg a = false ∧ mHsD xs Ng (defScope st) hds hs = true ∧ hs.all (fun h => hvS h.2) = true ∧ n = xs.length ∧ mHv none none w v = true ∧ hvS w = true
section
variable {P : Program} {w : World} {K : PySem.W.Frag} {mg : Str → Option Value} {base : Heap} {G : Gw} {xs : List Xc} {T : List Fn} {GK : List (Str × D)} {k wf : Nat} {C : Nat → List D → Mem → R D}
/-- where a def stands in the written part: a name of the top, or a method of a class; CC: the classes' addresses -/
def PlaceK (K : PySem.W.Frag) (CC : List Addr) (fn : Fn) (f : Addr) : Prop := match fn.own with
  | none => PySem.W.nsIn K mainGlobals fn.name = some (some (.ref f))
  | some w => ∃ Ca, CC[w.c]? = some Ca ∧ PySem.W.nsIn K mainGlobals w.cn = some (some (.ref Ca)) ∧ Cls K Ca ∧ Meth K Ca fn.name f ∧ PySem.W.makesIn K Ca = true ∧ PySem.W.keepIn K (.ref Ca) = true ∧ ∀ x ∈ w.flds, NoAttr K Ca x
/-- what a table's def is in the memory -/
def DefOk (xs : List Xc) (T : List Fn) (GK : List (Str × D)) (K : PySem.W.Frag) (CC : List Addr) (fn : Fn) : Prop := ∃ st N ps f fd, RowOk xs T GK fn st N ps ∧ Fun K fn.name fn.qual st f fd ∧ PlaceK K CC fn f ∧ (∀ us : List Value, us.length = ps.length → bindArgs fd ⟨us, []⟩ = pure (ps.zip us)) ∧ ∀ t, fn.told = some t → fn.own = none ∧ fn.qual = fn.name ∧ ToldRow xs st ps t
def AtK (P : Program) (w : World) (K : PySem.W.Frag) (mg : Str → Option Value) (base : Heap) (G : Gw) (k : Nat) (C : Nat → List D → Mem → R D) (i : Nat) (f : Fn) : Prop :=
  ∃ (a : Addr) (fd : FuncData) (ps : List Str), AtN K mg G f a ∧ PySem.W.keepIn K (.ref a) = true ∧ Binds K fd ps [] ∧ FnOk P w K mg base (CX P w) k a fd ps (spD G (C i))
theorem PlaceK.at {K : PySem.W.Frag} {mg : Str → Option Value} {base : Heap} {G : Gw} {CC : List Addr} {fn : Fn} {f : Addr} (h : PlaceK K CC fn f) (KB : K.In base) (NB : base.Ns mainGlobals mg) (hc : ∀ i Ca, CC[i]? = some Ca → G.cl i = Ca) : AtN K mg G fn f := by
  unfold PlaceK at h
  unfold AtN
  cases e : fn.own with
  | none => rw [e] at h; exact PySem.W.mg_of KB NB h
  | some w =>
    rw [e] at h
    obtain ⟨Ca, h1, h2, h3, h4, h5, h6, h7⟩ := h
    have hh := hc _ _ h1
    dsimp only
    rw [hh]
    exact ⟨PySem.W.mg_of KB NB h2, h3, h4, h5, h6, h7⟩
theorem PlaceK.ns {K : PySem.W.Frag} {CC : List Addr} {fn : Fn} {f : Addr} (h : PlaceK K CC fn f) (e : fn.own = none) : PySem.W.nsIn K mainGlobals fn.name = some (some (.ref f)) := by
  unfold PlaceK at h
  rw [e] at h
  exact h
def lamQ (x : Str) : Str := x ++ ".<locals>." ++ "<lambda>"
/-- all that is known of a table -/
structure TabEnv (P : Program) (w : World) (K : PySem.W.Frag) (mg : Str → Option Value) (base : Heap) (G : Gw) (xs : List Xc) (T : List Fn) (GK : List (Str × D)) : Prop where
  hG : G.K = K
  KB : K.In base
  NB : base.Ns mainGlobals mg
  hD : ∃ CC : List Addr, (∀ i Ca, CC[i]? = some Ca → G.cl i = Ca) ∧ ∀ (i : Nat) (fn : Fn), T[i]? = some fn → DefOk xs T GK K CC fn
  blt : ∀ x ∈ bltAll, mg (Str.ofString x) = none
  glo : ∀ p ∈ GK, GlB mg base G p.1 p.2
  xcs : ∀ (i : Nat) (x : Xc), 0 < i → xs[i]? = some x → ExcOk P w K mg base G i x
  xnm : ∀ (i : Nat) (x : Xc), xs[i]? = some x → mg x.name = some (.ref (G.xc i))
  xfl : ∀ (i : Nat) (x : Xc) (f : Str), xs[i]? = some x → x.fld = some f → G.xf i = f ∧ XfC K (G.xc i) ∧ PySem.W.findIn K (.ref (G.xc i)) f = some none
  exm : ∀ x i : Nat, x < xs.length → i < xs.length → PySem.W.exmOne K (.ref (G.xc x)) (.ref (G.xc i)) = some (i == x || i == 0)
  mks : ∀ fn ∈ T, fn.lams = true → fn.own = none ∧ fn.qual = fn.name ∧ ∃ c Pt, PySem.W.tabIn K fn.name = some (c, Pt) ∧ LamX.TabB base mg c Pt ∧ (Pt, lamQ fn.name) ∈ G.tabs ∧ ∀ p ∈ G.tabs, p.1 = Pt → p.2 = lamQ fn.name
theorem spD_len {k : List D → Mem → R D} {n : Nat} (h : ∀ ds m, ds.length ≠ n → k ds m = .bad) (vs : List V) (H : Hp) (Q : VK) (E : XK) (q : spD G k vs H Q E) : vs.length = n := by
  obtain ⟨ds, m, μ, τ, g, rs, z⟩ := q
  by_cases hl : ds.length = n
  · rw [rs.length, hl]
  · rw [h ds m hl] at z
    exact False.elim z
theorem tab_code {x : Str} {f c Pt : Addr} {oc : Value} {od : Option Addr} {fd : FuncData} {osl : Array (Option Value)} (hn : PySem.W.nsIn K mainGlobals x = some (some (.ref f))) (lk : K.lookup f = some ⟨oc, od, .func fd, osl⟩) (ht : PySem.W.tabIn K x = some (c, Pt)) : fd.code = .ref c := by
  unfold PySem.W.tabIn at ht
  rw [hn] at ht
  dsimp only at ht
  rw [lk] at ht
  dsimp only at ht
  split at ht
  · rename_i c2 hc
    split at ht
    · split at ht
      · cases ht; exact hc
      · cases ht
    · cases ht
  · cases ht
/-- what a told def makes of it is what is asked -/
theorem wA_ok {K : PySem.W.Frag} {G : Gw} {xs : List Xc} {x : Nat} {q : Str → Prop} {ys : List Str} {sc : Scope} {v : Str} (hl : ys.length = xs.length) (hx : x < xs.length) (exm : ∀ x i : Nat, x < xs.length → i < xs.length → PySem.W.exmOne K (.ref (G.xc x)) (.ref (G.xc i)) = some (i == x || i == 0)) :
    ∀ (hs : List (Nat × Str)) (hds : List ExceptHandler), mHsA ys sc v hds hs = true → (∀ h, hs.find? (fun h => h.1 == x || h.1 == 0) = some h → q h.2) → (hs.find? (fun h => h.1 == x || h.1 == 0)).isSome = true → wA K G (.ref (G.xc x)) q hs
  | [], _, _, _, h => by cases h
  | (i, s) :: r, [], h, _, _ => by unfold mHsA at h; cases h
  | (i, s) :: r, hd :: hds, h, hq, hs => by
    unfold mHsA at h
    rw [Bool.and_eq_true] at h
    obtain ⟨h1, h2⟩ := h
    have hi : i < xs.length := by
      split at h1
      · simp only [Bool.and_eq_true, decide_eq_true_eq] at h1
        have := (List.getElem?_eq_some_iff.mp h1.1.1.2).1
        omega
      · cases h1
    refine ⟨_, exm x i hx hi, fun hb => ?_, fun hb => ?_⟩
    · exact hq (i, s) (by rw [List.find?_cons, hb])
    · rw [List.find?_cons, hb] at hs
      exact wA_ok hl hx exm r hds h2 (fun h e => hq h (by rw [List.find?_cons, hb]; exact e)) hs
theorem wA_ok2 {K : PySem.W.Frag} {G : Gw} {xs : List Xc} {x : Nat} {q : Str → Prop} (hx : x < xs.length) (exm : ∀ x i : Nat, x < xs.length → i < xs.length → PySem.W.exmOne K (.ref (G.xc x)) (.ref (G.xc i)) = some (i == x || i == 0)) :
    ∀ (hs : List (Nat × Str)), hs.all (fun p => decide (p.1 < xs.length)) = true → (∀ h, hs.find? (fun h => h.1 == x || h.1 == 0) = some h → q h.2) → (hs.find? (fun h => h.1 == x || h.1 == 0)).isSome = true → wA K G (.ref (G.xc x)) q hs
  | [], _, _, h => by cases h
  | (i, s) :: r, h, hq, hs => by
    rw [List.all_cons, Bool.and_eq_true, decide_eq_true_eq] at h
    refine ⟨_, exm x i hx h.1, fun hb => ?_, fun hb => ?_⟩
    · exact hq (i, s) (by rw [List.find?_cons, hb])
    · rw [List.find?_cons, hb] at hs
      exact wA_ok2 hx exm r h.2 (fun h e => hq h (by rw [List.find?_cons, hb]; exact e)) hs
theorem wD_ok {K : PySem.W.Frag} {G : Gw} {xs : List Xc} {x : Nat} {q : Nat → Hv → Prop} (hx : x < xs.length) (exm : ∀ x i : Nat, x < xs.length → i < xs.length → PySem.W.exmOne K (.ref (G.xc x)) (.ref (G.xc i)) = some (i == x || i == 0)) :
    ∀ (hs : List (Nat × Hv)), hs.all (fun p => decide (p.1 < xs.length)) = true → (∀ h, hs.find? (fun h => h.1 == x || h.1 == 0) = some h → q h.1 h.2) → (hs.find? (fun h => h.1 == x || h.1 == 0)).isSome = true → wD K G (.ref (G.xc x)) q hs
  | [], _, _, h => by cases h
  | (i, s) :: r, h, hq, hs => by
    rw [List.all_cons, Bool.and_eq_true, decide_eq_true_eq] at h
    refine ⟨_, exm x i hx h.1, fun hb => ?_, fun hb => ?_⟩
    · exact hq (i, s) (by rw [List.find?_cons, hb])
    · rw [List.find?_cons, hb] at hs
      exact wD_ok hx exm r h.2 (fun h e => hq h (by rw [List.find?_cons, hb]; exact e)) hs
theorem mHsD_len {xs : List Xc} {Ng : List Str} {sc : Scope} : ∀ {hds : List ExceptHandler} {hs : List (Nat × Hv)}, mHsD xs Ng sc hds hs = true → hs.all (fun p => decide (p.1 < xs.length)) = true
  | [], [], _ => rfl
  | [], _ :: _, h => by unfold mHsD at h; cases h
  | _ :: _, [], _ => rfl
  | hd :: hds, (i, s) :: r, h => by
    unfold mHsD at h
    rw [Bool.and_eq_true] at h
    rw [List.all_cons, mHsD_len h.2, Bool.and_true]
    have h1 := h.1
    split at h1
    · rename_i hi
      exact decide_eq_true (List.getElem?_eq_some_iff.mp hi).1
    · cases h1
theorem hv_core {G : Gw} {i : Nat} {q : Hv} {p : Option D} {m : Mem} {μ τ : List Addr} {H : Hp} {dd : Option Addr} {Q : VK} {W : WX} {σ : L2.St} (g : Good G μ τ m H) (hs : hvS q = true)
    (hx : ∀ d, p = some d → ∃ a v, dd = some a ∧ H a = some (.xd [(G.xf i, v)]) ∧ Rep G μ τ H d v) (h : Pst G W σ μ τ H (RD G τ) (hvR p m q) Q) : gHv G i dd q H Q ∧ (hvF q = true → p.isSome = true) := by
  cases q with
  | t s => exact ⟨h (.str s) H μ .refl g ⟨rfl, hs⟩, fun z => by cases z⟩
  | i k => exact ⟨h (.int k) H μ .refl g rfl, fun z => by cases z⟩
  | l s =>
    refine ⟨fun l hl => ?_, fun z => by cases z⟩
    have nl : Nxt μ τ H μ τ (upd H l (.lst [.str s])) := (Nxt.laid hl).free
    exact h (.ref l) _ μ nl (g.laid hl).free ⟨l, [.str s], rfl, upd_same, (g.fresh hl).2, (g.fresh hl).1, .cons ⟨rfl, hs⟩ .nil⟩
  | f =>
    cases p with
    | none => exact h.elim
    | some d =>
      obtain ⟨a, v, h1, h2, h3⟩ := hx d rfl
      exact ⟨⟨a, v, h1, h2, h v H μ .refl g h3⟩, fun _ => rfl⟩
  | tf s =>
    cases p with
    | none => exact h.elim
    | some d =>
      obtain ⟨a, v, h1, h2, h3⟩ := hx d rfl
      refine ⟨⟨a, v, h1, h2, fun p o hp ho => ?_⟩, fun _ => rfl⟩
      have nl : Nxt μ τ H μ τ (upd H p (.frz o (.tup [.str s, v]))) := (Nxt.laid hp).free
      exact h (.ref p) _ μ nl (g.laid hp).free ⟨p, [.str s, v], rfl, TupS.of upd_same ho, .cons ⟨rfl, hs⟩ (.cons (h3.next nl g) .nil)⟩
  | lf s =>
    cases p with
    | none => exact h.elim
    | some d =>
      obtain ⟨a, v, h1, h2, h3⟩ := hx d rfl
      refine ⟨⟨a, v, h1, h2, fun p hp => ?_⟩, fun _ => rfl⟩
      have nl : Nxt μ τ H μ τ (upd H p (.lst [.str s, v])) := (Nxt.laid hp).free
      exact h (.ref p) _ μ nl (g.laid hp).free ⟨p, [.str s, v], rfl, upd_same, (g.fresh hp).2, (g.fresh hp).1, .cons ⟨rfl, hs⟩ (.cons (h3.next nl g) .nil)⟩
theorem pst_step {G : Gw} {W : WX} {σ : L2.St} {μ τ μ' : List Addr} {H H' : Hp} {α β : Type} {RP : List Addr → Hp → α → β → Prop} {r : R α} {Q : β → Hp → Prop} (n : Nxt μ τ H μ' τ H') (h : Pst G W σ μ τ H RP r Q) : Pst G W σ μ' τ H' RP r Q := by
  cases r with
  | ok d m => exact fun v H2 μ2 n2 => h v H2 μ2 (n.trans n2)
  | ex x p m => exact fun c dd H2 μ2 n2 => h c dd H2 μ2 (n.trans n2)
  | bad => exact h
theorem lam_ev (V : TabEnv P w K mg base G xs T GK) {fn : Fn} {st : Stmt} {N ps : List Str} {f : Addr} {cdv : Value} {A : Around} {outer : List Env} {s : Shared} {H : Hp} {E : XK} {W : WX} {hm : fn.lams = true} {c Pt : Addr}
    (hcd : cdv = .ref c) (TB : LamX.TabB base mg c Pt) (hmT : (Pt, lamQ fn.qual) ∈ G.tabs) (hu : ∀ p ∈ G.tabs, p.1 = Pt → p.2 = lamQ fn.qual) (R : RowOk xs T GK fn st N ps)
    (hr : Room (k + 2) (A.deeper (envOfC fn.qual (defScope st) s.heap.objs.size f cdv))) (fns : ∀ (i : Nat) (f : Fn), T[i]? = some f → AtK P w K mg base G k (callAt T wf k) i f)
    {i : Nat} {fn' : Fn} {e : Ex} {x : Str} {px lp p : Pos} {body : Expr} {scope : Scope} (hT : T[i]? = some fn') (hx : fn'.name = x) (ht : fn'.told.isSome = true) (hg : glB ⟨xs, T, GK, N, defScope st, fun _ => true, fn.lams⟩ x = true) (hl : LamX.lamSB (defScope st) scope = true)
    (hb : mE (lamOf ⟨xs, T, GK, N, defScope st, fun _ => true, fn.lams⟩ scope) e body = true) :
    EvE (cxOf (CX P w) P w K mg base N fn.qual (defScope st) f cdv A outer s H E) G W (.Call (.Name x px) [.Lambda ⟨[], [], none, [], [], none, []⟩ body scope lp] [] p) (fun ρ m => giveAt T (callAt T wf k) (lo0 k) i e ρ m) := by
  subst hx
  obtain ⟨t, ht⟩ := Option.isSome_iff_exists.mp ht
  obtain ⟨CC, hCC, hDD⟩ := V.hD
  obtain ⟨st', N', ps', g, fd', R', F', hn', hb', htold⟩ := hDD i fn' hT
  obtain ⟨hown, hql, row⟩ := htold t ht
  have hn' := hn'.ns hown
  rw [hql] at F'
  obtain ⟨oc, od, kV, doc, pm, an, cdv', ct, osl, rfl, lk, hcg⟩ := F'.ex
  cases t with
  | a pre hs n =>
    obtain ⟨a, v, hds, j, p1, p2, p3, p4, p5, p6, p7, p8, p9, z1, z2, z3, rfl, z4, z5, z6, z7, z8, z9, z10, rfl⟩ := row
    have hgx : (defScope st).names.lookup fn'.name = some .globalImplicit ∧ (fn'.name == ("__debug__" : Str)) = false := by
      unfold glB dbg at hg
      simp only [Bool.and_eq_true, decide_eq_true_eq, Bool.not_eq_true', Bool.or_eq_false_iff] at hg
      exact ⟨hg.1, hg.2.1⟩
    unfold dbg at z6 z7
    rw [Bool.or_eq_false_iff] at z6 z7
    have hxn : ∀ (i : Nat) (e : Str), (xs.map (·.name))[i]? = some e → mg e = some (.ref (G.xc i)) := fun i e he => by
      rw [List.getElem?_map] at he
      obtain ⟨y, e1, e2⟩ := Option.map_eq_some_iff.mp he
      rw [← e2]; exact V.xnm i y e1
    have hva : Vis (defScope st') a := by
      rcases z4.par a (by simp) with z | z
      · exact .inl z
      · exact .inr (.inl z)
    rw [z1] at lk hb'
    refine PE.imp (pe_lamG (X := cxOf (CX P w) P w K mg base N fn.qual (defScope st) f cdv A outer s H E) (T := G.tabs) (Ng := [a, v]) (k := k) (TT := TToldA K G pre hs)
      (t := fun E' => rdE G (fun cls d _ H' => E' cls d H') (evE (callAt T wf k) (lo0 k) e)) hgx.1 (PySem.W.mg_of V.KB V.NB hn') F'.kp lk hcg (.all hb') z4 rfl hva
      (told_a (X := cxOf (CX P w) P w K mg base N fn.qual (defScope st) f cdv A outer s H E) (e := "") rfl z2 z3 z5 z6.1 z6.2 hxn z8) TB hcd hmT hu hr (LamX.lamS_by hl) rfl (fun _ _ _ _ _ => rfl)
      (fun A2 outer2 s2 H2 E2 f2 c2 hr2 => ?_) hgx.2 z7.1 z7.2) fun σ H' Q hQ => ?_
    · have ctx : Ctx (LamX.lamCx (cxOf (CX P w) P w K mg base N fn.qual (defScope st) f cdv A outer s H E) A2 outer2 s2 H2 E2 scope f2 c2) G (lamOf ⟨xs, T, GK, N, defScope st, fun _ => true, fn.lams⟩ scope) k (callAt T wf k) (lo0 k) :=
        ⟨V.hG, rfl, R.S.nd, hr2, rfl, rfl, (fun _ z => nomatch z), V.blt, fun p hp => V.glo p hp, fun i f hf => fns i f hf, (fun _ z => nomatch z), fun z => of_decide_eq_true z, V.xcs, (fun z => nomatch z), (fun z => nomatch z)⟩
      have tk : Takes (LamX.lamCx (cxOf (CX P w) P w K mg base N fn.qual (defScope st) f cdv A outer s H E) A2 outer2 s2 H2 E2 scope f2 c2) (fun cls d _ H' => E2 cls d H') := takes_of rfl rfl rfl rfl
      exact (mE_ok (o := lo0 k) e _ _ _ body ctx tk hb).ev
    · obtain ⟨ρ, m, μ, τ, g0, sl, h⟩ := hQ
      refine ⟨g0.tabs, fun H1 gr t1 Q2 hQ2 => ⟨ρ, m, μ, τ, gr.good g0 t1, sl.nxt g0 gr.nxt, ?_⟩⟩
      unfold giveAt at h
      rw [hT] at h
      dsimp only at h
      rw [ht] at h
      dsimp only at h
      cases hr' : evE (callAt T wf k) (lo0 k) e ρ m with
      | bad => rw [hr'] at h; exact h.elim
      | ok d m1 =>
        rw [hr'] at h
        exact fun v H' μ' n g' r => hQ2 v H' (h (.str pre) H' μ' (gr.nxt.trans n) g' ⟨rfl, z10⟩)
      | ex y py m1 =>
        rw [hr'] at h
        unfold giveR at h
        dsimp only at h
        by_cases hy : y < xs.length
        case neg => rw [if_neg hy] at h; exact h.elim
        rw [if_pos hy] at h
        intro cc dd H' μ' n g' r
        rw [r.1]
        refine wA_ok (by rw [List.length_map]) hy V.exm hs hds z8 (fun h1 e1 => ?_) ?_
        · rw [e1] at h
          exact h (.str h1.2) H' μ' (gr.nxt.trans n) g' ⟨rfl, List.all_eq_true.mp z9 h1 (List.mem_of_find?_eq_some e1)⟩
        · cases hf : hs.find? (fun h => h.1 == y || h.1 == 0) with
          | none => rw [hf] at h; exact h.elim
          | some _ => rfl
  | c hs n =>
    obtain ⟨a, hds, p4, p5, p6, p7, z1, z2, rfl, z4, z7, z8, z9, rfl⟩ := row
    have hgx : (defScope st).names.lookup fn'.name = some .globalImplicit ∧ (fn'.name == ("__debug__" : Str)) = false := by
      unfold glB dbg at hg
      simp only [Bool.and_eq_true, decide_eq_true_eq, Bool.not_eq_true', Bool.or_eq_false_iff] at hg
      exact ⟨hg.1, hg.2.1⟩
    unfold dbg at z7
    rw [Bool.or_eq_false_iff] at z7
    have hxn : ∀ (i : Nat) (e : Str), (xs.map (·.name))[i]? = some e → mg e = some (.ref (G.xc i)) := fun i e he => by
      rw [List.getElem?_map] at he
      obtain ⟨y, e1, e2⟩ := Option.map_eq_some_iff.mp he
      rw [← e2]; exact V.xnm i y e1
    have hva : Vis (defScope st') a := by
      rcases z4.par a (by simp) with z | z
      · exact .inl z
      · exact .inr (.inl z)
    rw [z1] at lk hb'
    refine PE.imp (pe_lamG (X := cxOf (CX P w) P w K mg base N fn.qual (defScope st) f cdv A outer s H E) (T := G.tabs) (Ng := [a]) (k := k) (TT := TToldC K G hs)
      (t := fun E' => rdE G (fun cls d _ H' => E' cls d H') (evE (callAt T wf k) (lo0 k) e)) hgx.1 (PySem.W.mg_of V.KB V.NB hn') F'.kp lk hcg (.all hb') z4 rfl hva
      (told_c (X := cxOf (CX P w) P w K mg base N fn.qual (defScope st) f cdv A outer s H E) rfl z2 hxn z8) TB hcd hmT hu hr (LamX.lamS_by hl) rfl (fun _ _ _ _ _ => rfl)
      (fun A2 outer2 s2 H2 E2 f2 c2 hr2 => ?_) hgx.2 z7.1 z7.2) fun σ H' Q hQ => ?_
    · have ctx : Ctx (LamX.lamCx (cxOf (CX P w) P w K mg base N fn.qual (defScope st) f cdv A outer s H E) A2 outer2 s2 H2 E2 scope f2 c2) G (lamOf ⟨xs, T, GK, N, defScope st, fun _ => true, fn.lams⟩ scope) k (callAt T wf k) (lo0 k) :=
        ⟨V.hG, rfl, R.S.nd, hr2, rfl, rfl, (fun _ z => nomatch z), V.blt, fun p hp => V.glo p hp, fun i f hf => fns i f hf, (fun _ z => nomatch z), fun z => of_decide_eq_true z, V.xcs, (fun z => nomatch z), (fun z => nomatch z)⟩
      have tk : Takes (LamX.lamCx (cxOf (CX P w) P w K mg base N fn.qual (defScope st) f cdv A outer s H E) A2 outer2 s2 H2 E2 scope f2 c2) (fun cls d _ H' => E2 cls d H') := takes_of rfl rfl rfl rfl
      exact (mE_ok (o := lo0 k) e _ _ _ body ctx tk hb).ev
    · obtain ⟨ρ, m, μ, τ, g0, sl, h⟩ := hQ
      refine ⟨g0.tabs, fun H1 gr t1 => ⟨ρ, m, μ, τ, gr.good g0 t1, sl.nxt g0 gr.nxt, ?_⟩⟩
      unfold giveAt at h
      rw [hT] at h
      dsimp only at h
      rw [ht] at h
      dsimp only at h
      cases hr' : evE (callAt T wf k) (lo0 k) e ρ m with
      | bad => rw [hr'] at h; exact h.elim
      | ok d m1 =>
        rw [hr'] at h
        exact fun v H' μ' n g' r => h v H' μ' (gr.nxt.trans n) g' r
      | ex y py m1 =>
        rw [hr'] at h
        unfold giveR at h
        dsimp only at h
        by_cases hy : y < xs.length
        case neg => rw [if_neg hy] at h; exact h.elim
        rw [if_pos hy] at h
        intro cc dd H' μ' n g' r
        rw [r.1]
        refine wA_ok2 hy V.exm hs (by have := mHsC_len z8; rw [List.length_map] at this; exact this) (fun h1 e1 l hl => ?_) ?_
        · rw [e1] at h
          have nl : Nxt μ' τ H' μ' τ (upd H' l (.lst [.str h1.2])) := (Nxt.laid hl).free
          refine h (.ref l) (upd H' l (.lst [.str h1.2])) μ' ((gr.nxt.trans n).trans nl) (g'.laid hl).free ⟨l, [.str h1.2], rfl, upd_same, ?_, ?_, .cons ⟨rfl, List.all_eq_true.mp z9 h1 (List.mem_of_find?_eq_some e1)⟩ .nil⟩
          · exact (g'.fresh hl).2
          · exact (g'.fresh hl).1
        · cases hf : hs.find? (fun h => h.1 == y || h.1 == 0) with
          | none => rw [hf] at h; exact h.elim
          | some _ => rfl
  | d fin hs n =>
    cases fin with
    | none =>
      obtain ⟨a, Ng, hds, p4, p5, p6, p7, z1, z2, rfl, z4, zn, zn0, z7, z8, z9, rfl⟩ := row
      have hgx : (defScope st).names.lookup fn'.name = some .globalImplicit ∧ (fn'.name == ("__debug__" : Str)) = false := by
        unfold glB dbg at hg
        simp only [Bool.and_eq_true, decide_eq_true_eq, Bool.not_eq_true', Bool.or_eq_false_iff] at hg
        exact ⟨hg.1, hg.2.1⟩
      unfold dbg at z7
      rw [Bool.or_eq_false_iff] at z7
      have hva : Vis (defScope st') a := by
        rcases z4.par a (by simp) with z | z
        · exact .inl z
        · exact .inr (.inl z)
      rw [z1] at lk hb'
      refine PE.imp (pe_lamG (X := cxOf (CX P w) P w K mg base N fn.qual (defScope st) f cdv A outer s H E) (T := G.tabs) (Ng := Ng) (k := k) (TT := TToldD K G (none) hs)
        (t := fun E' => rdE G (fun cls d _ H' => E' cls d H') (evE (callAt T wf k) (lo0 k) e)) hgx.1 (PySem.W.mg_of V.KB V.NB hn') F'.kp lk hcg (.all hb') z4 zn0 hva
        (told_dr (X := cxOf (CX P w) P w K mg base N fn.qual (defScope st) f cdv A outer s H E) rfl zn z2 V.xnm V.xfl z8) TB hcd hmT hu hr (LamX.lamS_by hl) rfl (fun _ _ _ _ _ => rfl)
        (fun A2 outer2 s2 H2 E2 f2 c2 hr2 => ?_) hgx.2 z7.1 z7.2) fun σ H' Q hQ => ?_
      · have ctx : Ctx (LamX.lamCx (cxOf (CX P w) P w K mg base N fn.qual (defScope st) f cdv A outer s H E) A2 outer2 s2 H2 E2 scope f2 c2) G (lamOf ⟨xs, T, GK, N, defScope st, fun _ => true, fn.lams⟩ scope) k (callAt T wf k) (lo0 k) :=
          ⟨V.hG, rfl, R.S.nd, hr2, rfl, rfl, (fun _ z => nomatch z), V.blt, fun p hp => V.glo p hp, fun i f hf => fns i f hf, (fun _ z => nomatch z), fun z => of_decide_eq_true z, V.xcs, (fun z => nomatch z), (fun z => nomatch z)⟩
        have tk : Takes (LamX.lamCx (cxOf (CX P w) P w K mg base N fn.qual (defScope st) f cdv A outer s H E) A2 outer2 s2 H2 E2 scope f2 c2) (fun cls d _ H' => E2 cls d H') := takes_of rfl rfl rfl rfl
        exact (mE_ok (o := lo0 k) e _ _ _ body ctx tk hb).ev
      · obtain ⟨ρ, m, μ, τ, g0, sl, h⟩ := hQ
        refine ⟨g0.tabs, fun H1 gr t1 => ?_⟩
        refine ⟨ρ, m, μ, τ, gr.good g0 t1, sl.nxt g0 gr.nxt, ?_⟩
        unfold giveAt at h
        rw [hT] at h
        dsimp only at h
        rw [ht] at h
        dsimp only at h
        cases hr' : evE (callAt T wf k) (lo0 k) e ρ m with
        | bad => rw [hr'] at h; exact h.elim
        | ok d m1 =>
          rw [hr'] at h
          exact fun v H' μ' n g' r => h v H' μ' (gr.nxt.trans n) g' r
        | ex y py m1 =>
          rw [hr'] at h
          unfold giveR at h
          dsimp only at h
          by_cases hy : y < xs.length
          case neg => rw [if_neg hy] at h; exact h.elim
          rw [if_pos hy] at h
          intro cc dd H' μ' n g' r
          obtain ⟨rfl, rp⟩ := r
          refine wD_ok hy V.exm hs (mHsD_len z8) (fun h1 e1 => ?_) ?_
          · rw [e1] at h
            dsimp only at h
            have hk := hv_core (i := h1.1) (dd := dd) g' (List.all_eq_true.mp z9 h1 (List.mem_of_find?_eq_some e1)) (fun d hd => ?_) (pst_step (gr.nxt.trans n) h)
            · refine ⟨fun z => ?_, hk.1⟩
              have := hk.2 z
              split at this
              · rename_i e; rw [eq_of_beq e]
              · cases this
            · split at hd
              · rename_i e
                subst hd
                rw [eq_of_beq e]
                exact rp
              · cases hd
          · cases hf : hs.find? (fun h => h.1 == y || h.1 == 0) with
            | none => rw [hf] at h; exact h.elim
            | some _ => rfl
    | some w9 =>
      obtain ⟨a, Ng, hds, v9, p4, p5, p6, p7, p9, z1, z2, rfl, z4, zn, zn0, z7, z8, z9, rfl, zv, zw⟩ := row
      have hgx : (defScope st).names.lookup fn'.name = some .globalImplicit ∧ (fn'.name == ("__debug__" : Str)) = false := by
        unfold glB dbg at hg
        simp only [Bool.and_eq_true, decide_eq_true_eq, Bool.not_eq_true', Bool.or_eq_false_iff] at hg
        exact ⟨hg.1, hg.2.1⟩
      unfold dbg at z7
      rw [Bool.or_eq_false_iff] at z7
      have hva : Vis (defScope st') a := by
        rcases z4.par a (by simp) with z | z
        · exact .inl z
        · exact .inr (.inl z)
      rw [z1] at lk hb'
      refine PE.imp (pe_lamG (X := cxOf (CX P w) P w K mg base N fn.qual (defScope st) f cdv A outer s H E) (T := G.tabs) (Ng := Ng) (k := k) (TT := TToldD K G (some w9) hs)
        (t := fun E' => rdE G (fun cls d _ H' => E' cls d H') (evE (callAt T wf k) (lo0 k) e)) hgx.1 (PySem.W.mg_of V.KB V.NB hn') F'.kp lk hcg (.all hb') z4 zn0 hva
        (told_df (X := cxOf (CX P w) P w K mg base N fn.qual (defScope st) f cdv A outer s H E) rfl zn z2 V.xnm V.xfl z8 zv) TB hcd hmT hu hr (LamX.lamS_by hl) rfl (fun _ _ _ _ _ => rfl)
        (fun A2 outer2 s2 H2 E2 f2 c2 hr2 => ?_) hgx.2 z7.1 z7.2) fun σ H' Q hQ => ?_
      · have ctx : Ctx (LamX.lamCx (cxOf (CX P w) P w K mg base N fn.qual (defScope st) f cdv A outer s H E) A2 outer2 s2 H2 E2 scope f2 c2) G (lamOf ⟨xs, T, GK, N, defScope st, fun _ => true, fn.lams⟩ scope) k (callAt T wf k) (lo0 k) :=
          ⟨V.hG, rfl, R.S.nd, hr2, rfl, rfl, (fun _ z => nomatch z), V.blt, fun p hp => V.glo p hp, fun i f hf => fns i f hf, (fun _ z => nomatch z), fun z => of_decide_eq_true z, V.xcs, (fun z => nomatch z), (fun z => nomatch z)⟩
        have tk : Takes (LamX.lamCx (cxOf (CX P w) P w K mg base N fn.qual (defScope st) f cdv A outer s H E) A2 outer2 s2 H2 E2 scope f2 c2) (fun cls d _ H' => E2 cls d H') := takes_of rfl rfl rfl rfl
        exact (mE_ok (o := lo0 k) e _ _ _ body ctx tk hb).ev
      · obtain ⟨ρ, m, μ, τ, g0, sl, h⟩ := hQ
        refine ⟨g0.tabs, fun H1 gr t1 => ?_⟩
        intro Q2 hQ2
        refine ⟨ρ, m, μ, τ, gr.good g0 t1, sl.nxt g0 gr.nxt, ?_⟩
        unfold giveAt at h
        rw [hT] at h
        dsimp only at h
        rw [ht] at h
        dsimp only at h
        cases hr' : evE (callAt T wf k) (lo0 k) e ρ m with
        | bad => rw [hr'] at h; exact h.elim
        | ok d m1 =>
          rw [hr'] at h
          exact fun v H' μ' n g' r => hQ2 v H' (hv_core (i := 0) (dd := none) (p := none) g' zw (fun _ hd => by cases hd) (pst_step (gr.nxt.trans n) h)).1
        | ex y py m1 =>
          rw [hr'] at h
          unfold giveR at h
          dsimp only at h
          by_cases hy : y < xs.length
          case neg => rw [if_neg hy] at h; exact h.elim
          rw [if_pos hy] at h
          intro cc dd H' μ' n g' r
          obtain ⟨rfl, rp⟩ := r
          refine wD_ok hy V.exm hs (mHsD_len z8) (fun h1 e1 => ?_) ?_
          · rw [e1] at h
            dsimp only at h
            have hk := hv_core (i := h1.1) (dd := dd) g' (List.all_eq_true.mp z9 h1 (List.mem_of_find?_eq_some e1)) (fun d hd => ?_) (pst_step (gr.nxt.trans n) h)
            · refine ⟨fun z => ?_, hk.1⟩
              have := hk.2 z
              split at this
              · rename_i e; rw [eq_of_beq e]
              · cases this
            · split at hd
              · rename_i e
                subst hd
                rw [eq_of_beq e]
                exact rp
              · cases hd
          · cases hf : hs.find? (fun h => h.1 == y || h.1 == 0) with
            | none => rw [hf] at h; exact h.elim
            | some _ => rfl
theorem fn_level (V : TabEnv P w K mg base G xs T GK) {i : Nat} {fn : Fn} {st : Stmt} {N ps : List Str} {f : Addr} {fd : FuncData} (hT : T[i]? = some fn) (R : RowOk xs T GK fn st N ps) (F : Fun K fn.name fn.qual st f fd) (hn : fn.own = none → PySem.W.nsIn K mainGlobals fn.name = some (some (.ref f)))
    (fns : ∀ k', k' ≤ k → ∀ (i : Nat) (f : Fn), T[i]? = some f → AtK P w K mg base G k' (callAt T wf k') i f) :
    FnOk P w K mg base (CX P w) (k + 1) f fd ps (spD G (callAt T wf (k + 1) i)) := by
  have e : ∀ ds m, callAt T wf (k + 1) i ds m = runFn (callAt T wf k) (loAt T wf k) wf fn ds m := fun ds m => by
    rw [callAt_succ, hT]
  have hl : ∀ ds m, ds.length ≠ ps.length → callAt T wf (k + 1) i ds m = .bad := fun ds m z => by
    rw [e]
    unfold runFn
    rw [if_neg (by rw [R.np]; exact z)]
  obtain ⟨oc, od, kV, doc, pm, an, cdv, ct, osl, rfl, lk, hcd⟩ := F.ex
  refine fn_of lk hcd R.S (spD_len hl) fun A outer s H vs Q E hr ⟨ds, m, μ, τ, g, rs, h⟩ => ?_
  have ctx : Ctx (cxOf (CX P w) P w K mg base N fn.qual (defScope st) f cdv A outer s H E) G ⟨xs, T, GK, N, defScope st, fun _ => true, fn.lams⟩ k (callAt T wf k) (loAt T wf k) := by
    refine ⟨V.hG, rfl, R.S.nd, hr, rfl, rfl, fun _ _ => rfl, V.blt, fun p hp => V.glo p hp, fun i f hf => fns k (Nat.le_refl _) i f hf, fun Kc hKc i f hf => ?_, fun z => ?_, V.xcs, fun hm => ?_, fun hm W j fn' e x px body scope lp p h1 h2 h3 h4 h5 h6 => ?_⟩
    · match k, hKc, fns with
      | 0, z, _ => exact nomatch z
      | 1, z, _ => exact nomatch z
      | k + 2, z, fns =>
        cases (show some (callAt T wf (k + 1)) = some Kc from z)
        obtain ⟨a, fd, ps, f1, f2, f3, f4⟩ := fns (k + 1) (by omega) i f hf
        exact ⟨k + 1, a, fd, ps, rfl, f1, f3, f4⟩
    · match k, z with
      | 0, z => exact nomatch z
      | 1, z => exact nomatch z
      | k + 2, z => exact Nat.le_add_left _ _
    · obtain ⟨o1, o2, c, Pt, t1, t2, t3, t4⟩ := V.mks fn (List.mem_of_getElem? hT) hm
      rw [← o2] at t3 t4
      exact ⟨c, Pt, t2, tab_code (hn o1) lk t1, t3, t4⟩
    · obtain ⟨o1, o2, c, Pt, t1, t2, t3, t4⟩ := V.mks fn (List.mem_of_getElem? hT) hm
      rw [← o2] at t3 t4
      match k, hr, fns with
      | 0, _, _ => exact PE.imp ⟨fun pins s σ H Q I (z : False) => z.elim⟩ fun σ H Q ⟨ρ, m, μ, τ, g, s, z⟩ => (z : False)
      | 1, _, _ => exact PE.imp ⟨fun pins s σ H Q I (z : False) => z.elim⟩ fun σ H Q ⟨ρ, m, μ, τ, g, s, z⟩ => (z : False)
      | k + 2, hr, fns => exact lam_ev V (hm := hm) (tab_code (hn o1) lk t1) t2 t3 t4 R hr (fns k (by omega)) h1 h2 h3 h4 h5 h6
  have tk : Takes (cxOf (CX P w) P w K mg base N fn.qual (defScope st) f cdv A outer s H E) (fun cls d _ H' => E cls d H') := takes_of rfl rfl rfl rfl
  have hp := passes_of (X := cxOf (CX P w) P w K mg base N fn.qual (defScope st) f cdv A outer s H E) rfl
  rw [e] at h
  unfold runFn at h
  by_cases hn : ds.length = fn.np
  · rw [if_pos hn] at h
    obtain ⟨m', μ', τ', g', rs', h'⟩ := iso_inv g rs h
    exact ⟨_, mSs_ok (o := loAt T wf k) (w := wf) ctx tk hp fn.body (defBody st) R.body, startR fn.ns ds, m', μ', τ', g', start_slots rs' R.ns, ret_inv (gc_inv g' h')⟩
  · rw [if_neg hn] at h
    exact False.elim h
theorem fns_ok (V : TabEnv P w K mg base G xs T GK) : ∀ (k : Nat) (i : Nat) (fn : Fn), T[i]? = some fn → AtK P w K mg base G k (callAt T wf k) i fn := by
  intro k
  induction k using Nat.strongRecOn with
  | ind k ih =>
    intro i fn hT
    obtain ⟨CC, hCC, hDD⟩ := V.hD
    obtain ⟨st, N, ps, f, fd, R, F, hn, hb, _⟩ := hDD i fn hT
    match k, ih with
    | 0, _ => exact ⟨f, fd, ps, hn.at V.KB V.NB hCC, F.kp, .all hb, ⟨fun vs H Q E ⟨ds, m, μ, τ, g, rs, z⟩ => False.elim z, fun A outer s H args us vs Q E hr e0 hbi hv ⟨ds, m, μ, τ, g, rs, z⟩ => False.elim z⟩⟩
    | k + 1, ih => exact ⟨f, fd, ps, hn.at V.KB V.NB hCC, F.kp, .all hb, fn_level V hT R F hn.ns fun k' hk => ih k' (Nat.lt_succ_of_le hk)⟩
def AllR (p : Fn → Prop) : List Fn → Prop
  | [] => True
  | a :: l => p a ∧ AllR p l
theorem AllR.get {p : Fn → Prop} : ∀ {l : List Fn} {i : Nat} {a : Fn}, AllR p l → l[i]? = some a → p a
  | [], _, _, _, h => by simp at h
  | x :: l, 0, a, h, e => by simp at e; subst e; exact h.1
  | x :: l, i + 1, a, h, e => AllR.get h.2 (by simpa using e)
variable {CC : List Addr}
theorem defOk_mk {fn : Fn} {st : Stmt} {N ps : List Str} {f : Addr} {oc : Value} {od an : Option Addr} {osl : Array (Option Value)} {kV doc pm cdv ct : Value} (R : RowOk xs T GK fn st N ps) (ho : fn.own = none) (hq : fn.qual = fn.name)
    (hb : ∀ (kV doc pm : Value) (an : Option Addr) (cdv ct : Value) (us : List Value), us.length = ps.length → bindArgs (PySem.W.fnOf fn.name fn.name (defArgs st) (defBody st) (defScope st) .none kV doc pm an cdv ct) ⟨us, []⟩ = pure (ps.zip us)) (ht : ∀ t, fn.told = some t → ToldRow xs st ps t)
    (a : PySem.W.nsIn K mainGlobals fn.name = some (some (.ref f))) (l : K.lookup f = some ⟨oc, od, .func (PySem.W.fnOf fn.name fn.name (defArgs st) (defBody st) (defScope st) .none kV doc pm an cdv ct), osl⟩) (c : PySem.W.codeIn K cdv fn.name = true) (k : PySem.W.keepIn K (.ref f) = true) : DefOk xs T GK K CC fn := by
  have F := fun_mk (st := st) l c k
  refine ⟨st, N, ps, f, _, R, by rw [hq]; exact F, ?_, fun us hl => hb kV doc pm an cdv ct us hl, fun t e => ⟨ho, hq, ht t e⟩⟩
  unfold PlaceK
  rw [ho]
  exact a
/-- a method -/
theorem defOk_own {fn : Fn} {w : Own} {st : Stmt} {N ps : List Str} {f Ca : Addr} {oc : Value} {od an : Option Addr} {osl : Array (Option Value)} {kV doc pm cdv ct : Value} (R : RowOk xs T GK fn st N ps) (ho : fn.own = some w) (hto : fn.told = none)
    (hb : ∀ (kV doc pm : Value) (an : Option Addr) (cdv ct : Value) (us : List Value), us.length = ps.length → bindArgs (PySem.W.fnOf fn.name fn.qual (defArgs st) (defBody st) (defScope st) .none kV doc pm an cdv ct) ⟨us, []⟩ = pure (ps.zip us))
    (hC : CC[w.c]? = some Ca) (hcls : PySem.W.nsIn K mainGlobals w.cn = some (some (.ref Ca)) ∧ Cls K Ca ∧ PySem.W.makesIn K Ca = true ∧ PySem.W.keepIn K (.ref Ca) = true ∧ ∀ x ∈ w.flds, NoAttr K Ca x)
    (a : PySem.W.findIn K (.ref Ca) fn.name = some (some (.ref f))) (fi : PySem.W.isFn K (.ref f) = true) (l : K.lookup f = some ⟨oc, od, .func (PySem.W.fnOf fn.name fn.qual (defArgs st) (defBody st) (defScope st) .none kV doc pm an cdv ct), osl⟩) (c : PySem.W.codeIn K cdv fn.qual = true) (k : PySem.W.keepIn K (.ref f) = true) : DefOk xs T GK K CC fn := by
  have F := fun_mk (st := st) l c k
  refine ⟨st, N, ps, f, _, R, F, ?_, fun us hl => hb kV doc pm an cdv ct us hl, fun t e => by rw [hto] at e; cases e⟩
  unfold PlaceK
  rw [ho]
  exact ⟨Ca, hC, hcls.1, hcls.2.1, ⟨a, fi, k⟩, hcls.2.2.1, hcls.2.2.2.1, hcls.2.2.2.2⟩
/-- a constant of the top -/
def GVal (K : PySem.W.Frag) (mg : Str → Option Value) (x : Str) (d : D) : Prop := ∃ u v, mg x = some u ∧ RelV v u ∧ ∀ (G : Gw) μ τ H, G.K = K → Rep G μ τ H d v
/-- a constant of the top, or a tuple of texts that stands nowhere in the written part -/
def GRow (K : PySem.W.Frag) (mg : Str → Option Value) (h : Heap) (x : Str) (d : D) : Prop := match isMk d with
  | some ds => LooH mg h x ds
  | none => GVal K mg x d
theorem grow_of {h : Heap} {x : Str} {d : D} (e : isMk d = none) (v : GVal K mg x d) : GRow K mg h x d := by
  unfold GRow
  rw [e]
  exact v
theorem grow_loo {h : Heap} {x : Str} {ds : List D} (v : LooH mg h x ds) : GRow K mg h x (.pr (.tup ds) .fn) := v
def AllG (K : PySem.W.Frag) (mg : Str → Option Value) (h : Heap) : List (Str × D) → Prop
  | [] => True
  | a :: l => GRow K mg h a.1 a.2 ∧ AllG K mg h l
/-- the objects that stand nowhere in the written part, and what they make of a base that has them -/
theorem AllG.get {h : Heap} {l : List (Str × D)} (hl : AllG K mg h l) : ∃ E : PySem.W.Frag, (∀ q ∈ E, h.get? q.1 = some q.2 ∧ q.2.cls = .type "tuple") ∧ ∀ (base : Heap) (G : Gw), G.K = K → (∀ q ∈ E, base.get? q.1 = some q.2) → ∀ p ∈ l, GlB mg base G p.1 p.2 := by
  induction l with
  | nil => exact ⟨[], fun q hq => by simp at hq, fun base G _ _ p hp => by simp at hp⟩
  | cons a l ih =>
    obtain ⟨E, h1, h2⟩ := ih hl.2
    have h0 := hl.1
    unfold GRow at h0
    cases e : isMk a.2 with
    | none =>
      rw [e] at h0
      refine ⟨E, h1, fun base G hG hE p hp => ?_⟩
      rcases List.mem_cons.mp hp with rfl | hp
      · unfold GlB
        rw [e]
        obtain ⟨u, v, z1, z2, z3⟩ := h0
        exact ⟨u, v, z1, z2, fun μ τ H => z3 G μ τ H hG⟩
      · exact h2 base G hG hE p hp
    | some ds =>
      rw [e] at h0
      obtain ⟨ad, o, its, n, ys, z1, z2, z3, z4, z5, z6, z7⟩ := h0
      refine ⟨(ad, o) :: E, fun q hq => ?_, fun base G hG hE p hp => ?_⟩
      · rcases List.mem_cons.mp hq with rfl | hq
        · exact ⟨z2, z3⟩
        · exact h1 q hq
      · rcases List.mem_cons.mp hp with rfl | hp
        · unfold GlB
          rw [e]
          exact ⟨ad, o, its, n, ys, z1, hE (ad, o) List.mem_cons_self, z3, z4, z5, z6, z7⟩
        · exact h2 base G hG (fun q hq => hE q (List.mem_cons_of_mem _ hq)) p hp
theorem vals_of_reads {R : PySem.W.WRecords} {cl : Str → Option Addr} {h : Heap} : ∀ {ys : List Str} {vs : List Value} {as : List Addr}, PySem.W.ReadsAllW R cl h vs (ys.map PySem.W.WData.str) as → Vals (ys.map V.str) vs
  | [], vs, as, r => by cases r; exact .nil
  | y :: ys, vs, as, r => by
    cases (show PySem.W.ReadsAllW R cl h vs (.str y :: ys.map PySem.W.WData.str) as from r) with
    | cons r1 r2 =>
      cases r1 with
      | str x t => exact .cons ⟨_, rfl⟩ (vals_of_reads r2)
theorem gloo_L {q : Program} {lv : List (Str × PySem.W.WData)} {h : Heap} {x : Str} {ys : List Str} (X : PySem.W.XL q lv mg h) (e : (x, PySem.W.WData.tuple (ys.map PySem.W.WData.str)) ∈ lv) (hs : ys.all sOk = true) : LooH mg h x (ys.map .str) := by
  obtain ⟨v, h1, h2⟩ := X.2.val _ e
  cases h2 with
  | @tuple a o vs n _ _ e1 e2 e3 rs => exact ⟨a, o, vs, n, ys, h1, e1, e2, e3, rfl, List.all_eq_true.mp hs, vals_of_reads rs⟩
/-- a promise for a part is one for a larger part -/
theorem fn_big {P : Program} {w : World} {K K' : PySem.W.Frag} {base : Heap} {CX : CXT} {k : Nat} {f : Addr} {fd : FuncData} {ps : List Str} {sp : Sp} (hk : ∀ h : Heap, K'.In h → K.In h) (F : FnOk P w K mg base CX k f fd ps sp) : FnOk P w K' mg base CX k f fd ps sp :=
  ⟨F.len, fun A outer s H args us vs Q E hr he hb hv hs => F.run A outer s H args us vs Q E hr ⟨he.frames, ⟨hk _ he.mod.kin, he.mod.glob, he.mod.blt, he.mod.nolimit⟩, he.bs, he.bsz, he.funs, he.frf, he.hok, he.bare⟩ hb hv hs⟩
theorem look_mem : ∀ {E : PySem.W.Frag} {a : Addr} {o : Obj}, E.lookup a = some o → (a, o) ∈ E
  | [], _, _, h => by cases h
  | (b, u) :: E, a, o, h => by
    rw [List.lookup_cons] at h
    cases e : a == b with
    | true =>
      rw [e] at h
      cases h
      rw [beq_iff_eq.mp e]
      exact List.mem_cons_self
    | false => rw [e] at h; exact List.mem_cons_of_mem _ (look_mem h)
theorem look_of_mem : ∀ {E : PySem.W.Frag} {a : Addr} {o : Obj}, (a, o) ∈ E → ∃ u, E.lookup a = some u
  | [], _, _, h => by simp at h
  | (b, u) :: E, a, o, h => by
    rw [List.lookup_cons]
    cases e : a == b with
    | true => exact ⟨u, rfl⟩
    | false =>
      rcases List.mem_cons.mp h with h | h
      · cases h
        simp at e
      · exact look_of_mem h
theorem look_app {K E : PySem.W.Frag} {a : Addr} {o : Obj} : (K ++ E).lookup a = some o → K.lookup a = some o ∨ (K.lookup a = none ∧ (a, o) ∈ E) := by
  induction K with
  | nil => exact fun h => .inr ⟨rfl, look_mem h⟩
  | cons p K ih =>
    obtain ⟨b, u⟩ := p
    intro h
    rw [List.cons_append, List.lookup_cons] at h
    rw [List.lookup_cons]
    cases e : a == b with
    | true => rw [e] at h; exact .inl h
    | false => rw [e] at h; exact ih h
theorem look_left {K E : PySem.W.Frag} {a : Addr} {o : Obj} : K.lookup a = some o → (K ++ E).lookup a = some o := by
  induction K with
  | nil => intro h; cases h
  | cons p K ih =>
    obtain ⟨b, u⟩ := p
    intro h
    rw [List.cons_append, List.lookup_cons]
    rw [List.lookup_cons] at h
    cases e : a == b with
    | true => rw [e] at h; exact h
    | false => rw [e] at h; exact ih h
theorem look_right {K E : PySem.W.Frag} {a : Addr} {o : Obj} : K.lookup a = none → (a, o) ∈ E → ∃ u, (K ++ E).lookup a = some u := by
  induction K with
  | nil => exact fun _ h => look_of_mem h
  | cons p K ih =>
    obtain ⟨b, u⟩ := p
    intro h hm
    rw [List.lookup_cons] at h
    rw [List.cons_append, List.lookup_cons]
    cases e : a == b with
    | true => rw [e] at h; cases h
    | false => rw [e] at h; exact ih h hm
def AllB (mg : Str → Option Value) : List String → Prop
  | [] => True
  | a :: l => mg (Str.ofString a) = none ∧ AllB mg l
theorem AllB.get {l : List String} (h : AllB mg l) : ∀ x ∈ l, mg (Str.ofString x) = none := by
  induction l with
  | nil => intro p hp; simp at hp
  | cons a l ih =>
    intro p hp
    rcases List.mem_cons.mp hp with rfl | hp
    · exact h.1
    · exact ih h.2 p hp
end
theorem cx_none {P : Program} {w : World} {outer : List Env} {H : Hp} {s : Shared} {e : Value} {s' : Shared} (h : L2.CX P w outer H s (fun _ _ _ => False) e s') : False := by
  obtain ⟨_, _, _, _, _, _, _, _, _, _, _, _, z⟩ := h
  exact z
mutual
/-- the written part's value u is the data d -/
def repK (K : PySem.W.Frag) : D → Value → Bool
  | .non, .none => true
  | .bl b, .bool c => b == c
  | .int i, .int j _ => decide (i = j)
  | .str x, .str y _ => decide (x = y) && sOk x
  | .tup ds, .ref a => match K.lookup a with
    | some o => (match o.cls with
      | .type n => decide (n = "tuple")
      | _ => false) && o.dict.isNone && (match o.data with
      | .seq its _ => decide (its.size ≤ 100000) && repKs K ds its.toList
      | _ => false)
    | none => false
  | _, _ => false
def repKs (K : PySem.W.Frag) : List D → List Value → Bool
  | [], [] => true
  | d :: ds, u :: us => repK K d u && repKs K ds us
  | _, _ => false
end
mutual
theorem repK_ok {K : PySem.W.Frag} : ∀ (d : D) (u : Value), repK K d u = true → ∃ v, RelV v u ∧ ∀ (G : Gw) μ τ H, G.K = K → Rep G μ τ H d v
  | .non, u, h => by
    cases u <;> first | exact ⟨.non, rfl, fun _ _ _ _ _ => rfl⟩ | (unfold repK at h; cases h)
  | .bl b, u, h => by
    cases u with
    | bool c =>
      have e : b = c := by simpa [repK] using h
      subst e
      exact ⟨.bl b, rfl, fun _ _ _ _ _ => rfl⟩
    | _ => unfold repK at h; cases h
  | .int i, u, h => by
    cases u with
    | int j t =>
      have e : i = j := by simpa [repK] using h
      subst e
      exact ⟨.int i, ⟨t, rfl⟩, fun _ _ _ _ _ => rfl⟩
    | _ => unfold repK at h; cases h
  | .str x, u, h => by
    cases u with
    | str y t =>
      have e : x = y ∧ sOk x = true := by simpa [repK] using h
      obtain ⟨rfl, e⟩ := e
      exact ⟨.str x, ⟨t, rfl⟩, fun _ _ _ _ _ => ⟨rfl, e⟩⟩
    | _ => unfold repK at h; cases h
  | .tup ds, u, h => by
    cases u with
    | ref a =>
      unfold repK at h
      cases hk : K.lookup a with
      | none => rw [hk] at h; cases h
      | some o =>
        rw [hk] at h
        simp only [Bool.and_eq_true] at h
        obtain ⟨⟨h1, h0⟩, h2⟩ := h
        have hdn : o.dict = none := by
          cases hdd : o.dict with
          | none => rfl
          | some _ => rw [hdd] at h0; cases h0
        cases hc : o.cls with
        | type n =>
          rw [hc] at h1
          have e := of_decide_eq_true h1
          subst e
          cases hd : o.data with
          | seq its n =>
            rw [hd] at h2
            simp only [Bool.and_eq_true, decide_eq_true_eq] at h2
            obtain ⟨vs, r1, r2⟩ := repKs_ok ds its.toList h2.2
            refine ⟨.ref a, rfl, fun G μ τ H e => ⟨a, vs, rfl, .inr ⟨o, its, n, e ▸ hk, hdn, hc, hd, ?_, r1⟩, r2 G μ τ H e⟩⟩
            have := h2.1
            rw [sizeLine_eq]; omega
          | _ => rw [hd] at h2; cases h2
        | _ => rw [hc] at h1; cases h1
    | _ => unfold repK at h; cases h
  | .lst _, u, h => by unfold repK at h; cases h
  | .dic _ _, u, h => by unfold repK at h; cases h
  | .ref _, u, h => by unfold repK at h; cases h
  | .fn, u, h => by unfold repK at h; cases h
  | .scr _, u, h => by unfold repK at h; cases h
  | .pr _ _, u, h => by unfold repK at h; cases h
theorem repKs_ok {K : PySem.W.Frag} : ∀ (ds : List D) (us : List Value), repKs K ds us = true → ∃ vs, Vals vs us ∧ ∀ (G : Gw) μ τ H, G.K = K → Reps G μ τ H ds vs
  | [], [], _ => ⟨[], .nil, fun _ _ _ _ _ => rfl⟩
  | [], _ :: _, h => by unfold repKs at h; cases h
  | _ :: _, [], h => by unfold repKs at h; cases h
  | d :: ds, u :: us, h => by
    unfold repKs at h
    rw [Bool.and_eq_true] at h
    obtain ⟨v, r1, r2⟩ := repK_ok d u h.1
    obtain ⟨vs, r3, r4⟩ := repKs_ok ds us h.2
    exact ⟨v :: vs, .cons r1 r3, fun G μ τ H e => .cons (r2 G μ τ H e) (r4 G μ τ H e)⟩
end
theorem gval_K {K : PySem.W.Frag} {mg : Str → Option Value} {h : Heap} {x : Str} {d : D} {u : Value} (X : K.In h) (N : h.Ns mainGlobals mg) (a : PySem.W.nsIn K mainGlobals x = some (some u)) (r : repK K d u = true) : GVal K mg x d := by
  obtain ⟨v, r1, r2⟩ := repK_ok d u r
  exact ⟨u, v, PySem.W.mg_of X N a, r1, r2⟩
theorem gval_L {K : PySem.W.Frag} {q : Program} {lv : List (Str × PySem.W.WData)} {mg : Str → Option Value} {h : Heap} {x : Str} {i : Int} (X : PySem.W.XL q lv mg h) (e : (x, PySem.W.WData.int i) ∈ lv) : GVal K mg x (.int i) := by
  obtain ⟨v, h1, h2⟩ := X.2.val _ e
  cases h2
  exact ⟨_, .int i, h1, ⟨_, rfl⟩, fun _ _ _ _ _ => rfl⟩
theorem gval_LS {K : PySem.W.Frag} {q : Program} {lv : List (Str × PySem.W.WData)} {mg : Str → Option Value} {h : Heap} {x y : Str} (X : PySem.W.XL q lv mg h) (e : (x, PySem.W.WData.str y) ∈ lv) (hs : sOk y = true) : GVal K mg x (.str y) := by
  obtain ⟨v, h1, h2⟩ := X.2.val _ e
  cases h2
  exact ⟨_, .str y, h1, ⟨_, rfl⟩, fun _ _ _ _ _ => ⟨rfl, hs⟩⟩
/-- what the written part says of a class of exceptions -/
structure XDef (K : PySem.W.Frag) (CB : Addr) (b : Str) (x : Xc) (C : Addr) : Prop where
  ns : PySem.W.nsIn K mainGlobals x.name = some (some (.ref C))
  lk : ∃ nm q N bs sn sub ab col dd k0 k1 k2 k3 k5, K.lookup C = some (excClassObj nm q C N bs (.ref CB :: PySem.HandSPX.veTail) true sn sub ab col dd k0 k1 k2 k3 k5 "ValueError.__new__")
  sa : PySem.W.findIn K (.ref C) "__setattr__" = some (some (.builtin "object.__setattr__"))
  exC : PySem.W.subIn K (.ref C) (.type "BaseException") = some true
  tyC : PySem.W.typeIn K (.ref C) = some (.type "type")
  kC : PySem.W.keepIn K (.ref C) = true
  init : ∃ fI fd st q, PySem.W.findIn K (.ref C) "__init__" = some (some (.ref fI)) ∧ PySem.W.typeIn K (.ref fI) = some (.type "function") ∧ Fun K "__init__" q st fI fd ∧ match x.fld with
    | none => Init0 b st ∧ ∀ us : List Value, us.length = 1 → bindArgs fd ⟨us, []⟩ = pure ((["self"] : List Str).zip us)
    | some f => Init1 b f st ∧ PySem.W.findIn K (.ref C) f = some none ∧ XfC K C ∧ ∀ us : List Value, us.length = 2 → bindArgs fd ⟨us, []⟩ = pure ((["self", f] : List Str).zip us)
theorem refsVE_own {CB : Addr} : PySem.HandSPX.refsVE (.ref CB :: PySem.HandSPX.veTail) = true := by kernel_rfl
theorem XDef.oex {K : PySem.W.Frag} {CB : Addr} {b : Str} {x : Xc} {C : Addr} (h : XDef K CB b x C) : OexC K C := by
  obtain ⟨nm, q, N, bs, sn, sub, ab, col, dd, k0, k1, k2, k3, k5, e⟩ := h.lk
  exact ⟨⟨nm, q, N, bs, _, sn, sub, ab, col, dd, k0, k1, k2, k3, k5, e, refsVE_own⟩, h.sa, h.exC, h.tyC, h.kC⟩
theorem XDef.ok {P : Program} {w : World} {K : PySem.W.Frag} {mg : Str → Option Value} {base : Heap} {G : Gw} {CB : Addr} {b : Str} {mc : Value} {x : Xc} {i : Nat} (h : XDef K CB b x (G.xc i)) (B : BaseTxt K mg b CB mc) (KB : K.In base) (NB : base.Ns mainGlobals mg) (hf : ∀ f, x.fld = some f → G.xf i = f) : ExcOk P w K mg base G i x := by
  obtain ⟨fI, fd, st, q, h1, h2, F, h3⟩ := h.init
  refine ⟨PySem.W.mg_of KB NB h.ns, h.oex, fI, fd, h1, h2, ?_⟩
  cases e : x.fld with
  | none =>
    rw [e] at h3
    exact ⟨init0_ok F B h3.1, .all h3.2⟩
  | some f =>
    rw [e] at h3
    exact ⟨hf f e, h3.2.1, init1_ok F B h3.1, .all h3.2.2.2⟩
/-- what the written part says of the base of all -/
structure BDef (K : PySem.W.Frag) (b : Str) (CB : Addr) (mc : Value) : Prop where
  ns : PySem.W.nsIn K mainGlobals b = some (some (.ref CB))
  rd : PySem.W.readsIn K CB mc = true
  fd : PySem.W.findCls K (.ref CB) mc "__init__" = some (.val (.builtin "ValueError.__init__"))
  ga : PySem.W.specialIn K (.ref CB) "__getattribute__" = some (some (.builtin "type.__getattribute__"))
  lk : ∃ nm q N bs sn sub ab col dd k0 k1 k2 k3 k5, K.lookup CB = some (excClassObj nm q CB N bs PySem.HandSPX.veTail true sn sub ab col dd k0 k1 k2 k3 k5 "ValueError.__new__")
  exC : PySem.W.subIn K (.ref CB) (.type "BaseException") = some true
  tyC : PySem.W.typeIn K (.ref CB) = some (.type "type")
theorem exm_row {K : PySem.W.Frag} {a c : Addr} {l : List Value} (hc : PySem.W.subIn K (.ref c) (.type "BaseException") = some true) (tc : PySem.W.typeIn K (.ref c) = some (.type "type")) (kc : (PySem.W.clsIn K c).isSome = true)
    (ha : ∃ nm q N bs sn sub ab col dd k0 k1 k2 k3 k5, K.lookup a = some (excClassObj nm q a N bs l true sn sub ab col dd k0 k1 k2 k3 k5 "ValueError.__new__")) : PySem.W.exmOne K (.ref a) (.ref c) = some ((Value.ref a :: l).contains (.ref c)) := by
  obtain ⟨nm, q, N, bs, sn, sub, ab, col, dd, k0, k1, k2, k3, k5, e⟩ := ha
  unfold PySem.W.exmOne
  rw [hc, if_pos (by rfl)]
  unfold PySem.W.kitCls
  dsimp only
  rw [kc, tc, if_pos (by rfl)]
  unfold PySem.W.subIn
  dsimp only
  unfold PySem.W.mroIn PySem.W.clsIn
  rw [e]
  rfl
theorem cls_some {K : PySem.W.Frag} {a : Addr} {l : List Value} (ha : ∃ nm q N bs sn sub ab col dd k0 k1 k2 k3 k5, K.lookup a = some (excClassObj nm q a N bs l true sn sub ab col dd k0 k1 k2 k3 k5 "ValueError.__new__")) : (PySem.W.clsIn K a).isSome = true := by
  obtain ⟨nm, q, N, bs, sn, sub, ab, col, dd, k0, k1, k2, k3, k5, e⟩ := ha
  unfold PySem.W.clsIn
  rw [e]
  rfl
def AllX (K : PySem.W.Frag) (CB : Addr) (b : Str) : List Xc → List Addr → Prop
  | [], [] => True
  | x :: r, C :: Cs => XDef K CB b x C ∧ AllX K CB b r Cs
  | _, _ => False
theorem AllX.get {K : PySem.W.Frag} {CB : Addr} {b : Str} : ∀ {r : List Xc} {Cs : List Addr} {i : Nat} {x : Xc}, AllX K CB b r Cs → r[i]? = some x → XDef K CB b x (Cs.getD i 0)
  | [], _, _, _, _, h => by simp at h
  | _ :: _, [], _, _, h, _ => h.elim
  | x :: r, C :: Cs, 0, y, h, e => by simp at e; subst e; exact h.1
  | x :: r, C :: Cs, i + 1, y, h, e => by
    have := AllX.get (i := i) h.2 (by simpa using e)
    simpa using this
theorem AllX.len {K : PySem.W.Frag} {CB : Addr} {b : Str} : ∀ {r : List Xc} {Cs : List Addr}, AllX K CB b r Cs → r.length = Cs.length
  | [], [], _ => rfl
  | [], _ :: _, h => h.elim
  | _ :: _, [], h => h.elim
  | _ :: r, _ :: Cs, h => by rw [List.length_cons, List.length_cons, h.2.len]
/-- the makers of lambdas: name, code object, its table -/
abbrev Mks := List (Str × Addr × Addr)
def theG (K : PySem.W.Frag) (CC : List Addr) (CB : Addr) (Cs : List Addr) (xs : List Xc) (M : Mks) : Gw :=
  ⟨K, fun i => CC.getD i 0, fun i => (CB :: Cs).getD i 0, fun i => ((xs[i]?.bind (·.fld)).getD (Str.ofString "")), M.map fun p => (p.2.2, lamQ p.1)⟩
/-- nothing of exceptions -/
def XAll (K : PySem.W.Frag) (xs : List Xc) (CB : Addr) (Cs : List Addr) : Prop := match xs with
  | [] => Cs = []
  | b :: r => (∃ mc, BDef K b.name CB mc) ∧ AllX K CB b.name r Cs ∧ (CB :: Cs).Nodup ∧ b.fld = none
open PySem.W in
/-- THE LAW: what k_head leaves, from the table and from what the law's tree comes to -/
theorem law_by {l : OpenLaw} {n k iL wf : Nat} {q : Program} {loose : List Str} {XP : (Str → Option Value) → Heap → Prop} {YP : World → Heap → Prop} {d : DefRec} {K : Params → Frag} {xs : List Xc} {T : List Fn} {GK : List (Str × D)} {fnL : Fn}
    (hn : l.most = some n) (hn2 : n ≤ sizeLine) (hdf : d.params.defaults = []) (hr : Room k callerA) (hY : ∀ (w : World) (h : Heap), YP w h → (K w.params).In h) (hL : T[iL]? = some fnL) (hLn : fnL.name = d.name) (hL1 : fnL.np = 1) (hLo : fnL.own = none) (hlo : (T.all fun fn => !fn.lams || (fn.own.isNone && decide (fn.qual = fn.name))) = true)
    (F : ∀ (w : World) (mg : Str → Option Value) (h : Heap), (K w.params).In h → h.Ns mainGlobals mg → XP mg h → (∃ CC : List Addr, AllR (DefOk xs T GK (K w.params) CC) T) ∧ AllB mg bltAll ∧ AllG (K w.params) mg h GK ∧ (∃ CB Cs, XAll (K w.params) xs CB Cs) ∧
      ∃ M : Mks, M.map (·.1) = (T.filter (·.lams)).map (·.name) ∧ (∀ p ∈ M, tabIn (K w.params) p.1 = some p.2 ∧ (K w.params).lookup p.2.2 = none ∧ ((recsOf q).find? (fun e => e.name == p.1)).isSome = true) ∧ (M.map (·.2.2)).Nodup)
    (law : ∀ ns : List Int, ns.length ≤ n → ∃ m, callAt T wf k iL [.scr ns] [] = .ok (.bl true) m) : WalkO q loose XP YP l.row.toRowW d [] (fun f vs => PySem.call f vs) := by
  refine Att.attach_call hn hdf fun w s₀ s₁ mg mb fa o pm cd doc a vs ns Gr Yh ho hd hcd hmg hobj hints hlen hg => ?_
  have KX := hY w _ Yh
  obtain ⟨⟨CC, hD⟩, hB, hGl, ⟨CB, Cs, hX⟩, M, hM, hM2, hM3⟩ := F w mg s₁.heap KX Gr.T.g Gr.X
  obtain ⟨EE, hE1, hE2⟩ := hGl.get
  have KX' : Frag.In (K w.params ++ EE) s₁.heap := fun a o e => by
    rcases look_app e with e | ⟨_, e⟩
    · exact KX a o e
    · exact (hE1 _ e).1
  have inK : ∀ h : Heap, Frag.In (K w.params ++ EE) h → (K w.params).In h := fun h z a o e => z a o (look_left e)
  have inE : ∀ h : Heap, Frag.In (K w.params ++ EE) h → ∀ q ∈ EE, h.get? q.1 = some q.2 := fun h z q hq => by
    cases e : (K w.params).lookup q.1 with
    | some o =>
      have h1 := KX _ _ e
      rw [(hE1 q hq).1] at h1
      cases h1
      exact z _ _ (look_left e)
    | none =>
      obtain ⟨u, hu⟩ := look_right (o := q.2) e hq
      have h1 := KX' _ _ hu
      rw [(hE1 q hq).1] at h1
      cases h1
      exact z _ _ hu
  have tab : ∀ p ∈ M, CodeHd s₁.heap p.2.1 p.2.2 ∧ s₁.heap.get? p.2.2 = some (tabObj #[]) := fun p hp => by
    obtain ⟨h1, _, h3⟩ := hM2 p hp
    obtain ⟨d, h3⟩ := Option.isSome_iff_exists.mp h3
    exact tab_of Gr.T KX h3 h1
  -- the classes
  have root : ∀ x, xs[0]? = some x → (∃ mc, BDef (K w.params) x.name CB mc) ∧ AllX (K w.params) CB x.name (xs.drop 1) Cs ∧ (CB :: Cs).Nodup ∧ x.fld = none := fun x hx => by
    cases xs with
    | nil => simp at hx
    | cons b r =>
      simp at hx
      subst hx
      exact hX
  have own : ∀ (i : Nat) (x : Xc), 0 < i → xs[i]? = some x → ∃ b, xs[0]? = some b ∧ XDef (K w.params) CB b.name x ((CB :: Cs).getD i 0) := fun i x hi hx => by
    cases xs with
    | nil => simp at hx
    | cons b r =>
      refine ⟨b, rfl, ?_⟩
      cases i with
      | zero => omega
      | succ i =>
        have := (root b rfl).2.1.get (i := i) (x := x) (by simpa using hx)
        simpa using this
  have venv : ∀ base : Heap, (K w.params).In base → (∀ q ∈ EE, base.get? q.1 = some q.2) → base.Ns mainGlobals mg → (∀ p ∈ M.map (·.2), LamX.TabB base mg p.1 p.2) → TabEnv l.prog w (K w.params) mg base (theG (K w.params) CC CB Cs xs M) xs T GK := fun base KB EB NB TB => by
    refine ⟨rfl, KB, NB, ⟨CC, fun i Ca e => by show CC.getD i 0 = Ca; rw [List.getD_eq_getElem?_getD, e]; rfl, fun i fn e => hD.get e⟩, hB.get, hE2 base (theG (K w.params) CC CB Cs xs M) rfl EB, fun i x hi hx => ?_, fun i x hx => ?_, fun i x f hx hf => ?_, fun x i hx hi => ?_, fun fn hfn hl => ?_⟩
    · obtain ⟨b, hb, hxd⟩ := own i x hi hx
      obtain ⟨⟨mc, B⟩, _, _⟩ := root b hb
      exact hxd.ok (G := theG (K w.params) CC CB Cs xs M) ⟨PySem.W.mg_of KB NB B.ns, B.rd, B.fd, B.ga⟩ KB NB fun f hf => by
        show ((xs[i]?.bind (·.fld)).getD _) = f
        rw [hx, Option.bind_some, hf]; rfl
    · cases i with
      | zero =>
        obtain ⟨⟨mc, B⟩, _, _⟩ := root x hx
        exact PySem.W.mg_of KB NB B.ns
      | succ i =>
        obtain ⟨b, hb, hxd⟩ := own (i + 1) x (by omega) hx
        exact PySem.W.mg_of KB NB hxd.ns
    · cases i with
      | zero =>
        obtain ⟨_, _, _, q⟩ := root x hx
        rw [q] at hf; cases hf
      | succ i =>
        obtain ⟨b, hb, hxd⟩ := own (i + 1) x (by omega) hx
        obtain ⟨fI, fd, st, q, h1, h2, F, h3⟩ := hxd.init
        rw [hf] at h3
        refine ⟨?_, h3.2.2.1, h3.2.1⟩
        show ((xs[i + 1]?.bind (·.fld)).getD _) = f
        rw [hx, Option.bind_some, hf]; rfl
    · cases xs with
      | nil => simp at hx
      | cons b r =>
        obtain ⟨⟨mc, B⟩, hall, nd, _⟩ := root b rfl
        have hlen : r.length = Cs.length := hall.len
        have lkOf : ∀ i, i < (b :: r).length → ∃ nm q N bs sn sub ab col dd k0 k1 k2 k3 k5, (K w.params).lookup ((CB :: Cs).getD i 0) = some (excClassObj nm q ((CB :: Cs).getD i 0) N bs (if i = 0 then PySem.HandSPX.veTail else .ref CB :: PySem.HandSPX.veTail) true sn sub ab col dd k0 k1 k2 k3 k5 "ValueError.__new__") := fun i hi => by
          cases i with
          | zero => exact B.lk
          | succ i =>
            have hi' : i < r.length := by simpa using hi
            have := (hall.get (i := i) (x := r[i]) (by simp [hi'])).lk
            simpa using this
        have exOf : ∀ i, i < (b :: r).length → subIn (K w.params) (.ref ((CB :: Cs).getD i 0)) (.type "BaseException") = some true ∧ typeIn (K w.params) (.ref ((CB :: Cs).getD i 0)) = some (.type "type") := fun i hi => by
          cases i with
          | zero => exact ⟨B.exC, B.tyC⟩
          | succ i =>
            have hi' : i < r.length := by simpa using hi
            have := hall.get (i := i) (x := r[i]) (by simp [hi'])
            exact ⟨by simpa using this.exC, by simpa using this.tyC⟩
        have key := exm_row (a := (CB :: Cs).getD x 0) (c := (CB :: Cs).getD i 0) (exOf i hi).1 (exOf i hi).2 (cls_some (lkOf i hi)) (lkOf x hx)
        show exmOne (K w.params) (.ref ((CB :: Cs).getD x 0)) (.ref ((CB :: Cs).getD i 0)) = _
        rw [key]
        have hl2 : (CB :: Cs).length = (b :: r).length := by rw [List.length_cons, List.length_cons, hlen]
        have inj : ∀ {u v : Nat}, u < (b :: r).length → v < (b :: r).length → (CB :: Cs).getD u 0 = (CB :: Cs).getD v 0 → u = v := fun {u v} hu hv e => by
          rw [← hl2] at hu hv
          have e' : (CB :: Cs)[u]'hu = (CB :: Cs)[v]'hv := by
            rw [List.getD_eq_getElem?_getD, List.getD_eq_getElem?_getD, List.getElem?_eq_getElem hu, List.getElem?_eq_getElem hv] at e
            exact e
          exact (List.getElem_inj nd).mp e'
        congr 1
        rw [Bool.eq_iff_iff, List.contains_iff_mem, List.mem_cons]
        simp only [Bool.or_eq_true, beq_iff_eq]
        constructor
        · rintro (e | e)
          · left
            exact inj hi hx (by injection e)
          · right
            have z0 : (0 : Nat) < (b :: r).length := by simp
            by_cases hx0 : x = 0
            · rw [if_pos hx0] at e
              simp [PySem.HandSPX.veTail] at e
            · rw [if_neg hx0] at e
              rcases List.mem_cons.mp e with e | e
              · exact inj hi z0 (by injection e)
              · simp [PySem.HandSPX.veTail] at e
        · rintro (rfl | rfl)
          · exact .inl rfl
          · by_cases hx0 : x = 0
            · subst hx0; exact .inl rfl
            · right
              rw [if_neg hx0]
              exact List.mem_cons_self
    · have : fn.name ∈ M.map (·.1) := by
        rw [hM]
        exact List.mem_map.mpr ⟨fn, List.mem_filter.mpr ⟨hfn, hl⟩, rfl⟩
      obtain ⟨p, hp, hpn⟩ := List.mem_map.mp this
      have hl2 := List.all_eq_true.mp hlo fn hfn
      rw [hl] at hl2
      simp only [Bool.not_true, Bool.false_or, Bool.and_eq_true, decide_eq_true_eq, Option.isNone_iff_eq_none] at hl2
      refine ⟨hl2.1, hl2.2, p.2.1, p.2.2, by rw [← hpn]; exact (hM2 p hp).1, TB p.2 (List.mem_map.mpr ⟨p, hp, rfl⟩), List.mem_map.mpr ⟨p, hp, by rw [hpn]⟩, fun y hy e => ?_⟩
      obtain ⟨p2, hp2, rfl⟩ := List.mem_map.mp hy
      have : p2 = p := by
        obtain ⟨u, hu, eu⟩ := List.getElem_of_mem hp
        obtain ⟨v, hv, ev⟩ := List.getElem_of_mem hp2
        have : (M.map (·.2.2))[v]'(by simpa using hv) = (M.map (·.2.2))[u]'(by simpa using hu) := by
          simp only [List.getElem_map, eu, ev]
          exact e
        have := (List.getElem_inj hM3).mp this
        subst this
        rw [← ev, ← eu]
      rw [this, hpn]
  obtain ⟨st, N, ps, f, fd, R, Fu, hnf0, hbf, _⟩ := hD.get hL
  have hnf := hnf0.ns hLo
  have hf : mg fnL.name = some (.ref f) := PySem.W.mg_of KX Gr.T.g hnf
  have efa : f = fa := by
    rw [hLn, hmg] at hf
    cases hf; rfl
  subst efa
  obtain ⟨x, hps⟩ : ∃ x, ps = [x] := by
    have h1 : ps.length = 1 := by rw [← R.np]; exact hL1
    match ps, h1 with
    | [x], _ => exact ⟨x, rfl⟩
  subst hps
  have hbind : ∀ (s : Shared) (u : Value), BindsTo s fd ⟨[u], []⟩ [(x, u)] := fun s u => .of_eq (hbf [u] rfl)
  cases k with
  | zero =>
    obtain ⟨m, z⟩ := law [] (Nat.zero_le _)
    cases z
  | succ k =>
    refine LamX.law_callTs (cs := M.map (·.2)) (sp := spD (theG (K w.params) CC CB Cs xs M) (callAt T wf (k + 1) iL)) KX' Gr.T.g Gr.T.b Gr.T.builtins Gr.T.nolimit hg (fun p hp => ?_) (fun p hp => ?_) (fun p hp => ?_) Gr.T.bmain hobj hints (Nat.le_trans hlen hn2) hr (fun base KB NB TB => fn_big inK (fn_level (venv base (inK base KB) (inE base KB) NB TB) hL R Fu (fun _ => hnf) fun k' _ => fns_ok (venv base (inK base KB) (inE base KB) NB TB) k')) hbind (fun H hH hS => ?_) fun H e s' h => cx_none h
    · obtain ⟨y, hy, rfl⟩ := List.mem_map.mp hp
      exact (tab y hy).2
    · obtain ⟨y, hy, rfl⟩ := List.mem_map.mp hp
      cases e : (K w.params ++ EE).lookup y.2.2 with
      | none => rfl
      | some o =>
        rcases look_app e with z | ⟨_, z⟩
        · rw [(hM2 y hy).2.1] at z; cases z
        · obtain ⟨z1, z2⟩ := hE1 _ z
          rw [(tab y hy).2] at z1
          cases z1
          cases z2
    · obtain ⟨y, hy, rfl⟩ := List.mem_map.mp hp
      exact (tab y hy).1
    · obtain ⟨m, z⟩ := law ns hlen
      refine ⟨[.scr ns], [], [], [], ⟨rfl, fun n c a h => by simp at h, List.nodup_nil, fun a h => by simp at h, fun p hp => ?_⟩, ?_, ?_⟩
      · obtain ⟨y, hy, rfl⟩ := List.mem_map.mp hp
        exact LamX.TabS.nil (hH y.2 (List.mem_map.mpr ⟨y, hy, rfl⟩))
      · refine .cons ⟨a, rfl, ?_⟩ .nil
        rcases hS with hS | hS
        · exact .inl ⟨hS, by simp, by simp⟩
        · obtain ⟨o, its, n', q1, q2, q3⟩ := hS
          refine .inr fun H' => .inr ?_
          rcases look_app q1 with z | ⟨_, z⟩
          · exact ⟨o, its, n', z, q2, q3⟩
          · have := (hE1 _ z).2
            rw [q2] at this
            exact absurd this (by decide)
      · rw [z]
        intro v H' μ' _ _ r
        exact r
end EV

/-! What a law's own part has to show of its classes of exceptions, in the order in which the questions are answered. -/
namespace EV
open PySem PySem.Spec PyProof.Rows L2
def initS : Stmt → Stmt
  | .ClassDef _ _ _ body _ _ _ _ _ _ _ => body.getD 0 (.Pass ⟨0, 0, 0, 0⟩)
  | s => s
/-- a def within a class -/
def bodyS (n : Nat) : Stmt → Stmt
  | .ClassDef _ _ _ body _ _ _ _ _ _ _ => body.getD n (.Pass ⟨0, 0, 0, 0⟩)
  | s => s
/-- what is asked of a class whose instances are cells -/
theorem cls_row {K : PySem.W.Frag} {cn : Str} {Ca : Addr} {flds : List Str} (ns : PySem.W.nsIn K mainGlobals cn = some (some (.ref Ca))) (g : PySem.W.plainGet K Ca Str.empty = true) (h : PySem.W.hasDictIn K Ca = true) (p : PySem.W.plainOver K Ca = true)
    (s : PySem.W.findIn K (.ref Ca) "__setattr__" = some (some (.builtin "object.__setattr__"))) (m : PySem.W.makesIn K Ca = true) (k : PySem.W.keepIn K (.ref Ca) = true) (n : ∀ x ∈ flds, PySem.W.findIn K (.ref Ca) x = some none) :
    PySem.W.nsIn K mainGlobals cn = some (some (.ref Ca)) ∧ Cls K Ca ∧ PySem.W.makesIn K Ca = true ∧ PySem.W.keepIn K (.ref Ca) = true ∧ ∀ x ∈ flds, NoAttr K Ca x := ⟨ns, ⟨g, h, p, s⟩, m, k, n⟩
theorem tab_mk {K : PySem.W.Frag} {x : Str} {f c P : Addr} {oc oc2 : Value} {od od2 : Option Addr} {osl osl2 : Array (Option Value)} {fd : FuncData} {vs : Array Value} (a : PySem.W.nsIn K mainGlobals x = some (some (.ref f))) (l : K.lookup f = some ⟨oc, od, .func fd, osl⟩) (hc : fd.code = .ref c)
    (l2 : K.lookup c = some ⟨oc2, od2, .fields vs, osl2⟩) (hv : (vs[11]? : Option Value) = some (.ref P)) : PySem.W.tabIn K x = some (c, P) := by
  unfold PySem.W.tabIn
  rw [a]
  dsimp only
  rw [l]
  dsimp only
  rw [hc]
  dsimp only
  rw [l2]
  dsimp only
  rw [hv]
section
variable {K : PySem.W.Frag} {CB C fI : Addr} {b x f q : Str} {st : Stmt} {oc : Value} {od an : Option Addr} {osl : Array (Option Value)} {kV doc pm cdv ct : Value}
theorem bdef_mk {nm q : Str} {N : Addr} {bs : List Value} {sn sub ab col dd k0 k1 k2 k3 k5} (ns : PySem.W.nsIn K mainGlobals b = some (some (.ref CB)))
    (lk : K.lookup CB = some (excClassObj nm q CB N bs PySem.HandSPX.veTail true sn sub ab col dd k0 k1 k2 k3 k5 "ValueError.__new__"))
    (rd : PySem.W.readsIn K CB (.type "type") = true) (fd : PySem.W.findCls K (.ref CB) (.type "type") "__init__" = some (.val (.builtin "ValueError.__init__"))) (ga : PySem.W.specialIn K (.ref CB) "__getattribute__" = some (some (.builtin "type.__getattribute__")))
    (ex : PySem.W.subIn K (.ref CB) (.type "BaseException") = some true) (ty : PySem.W.typeIn K (.ref CB) = some (.type "type")) : ∃ mc, BDef K b CB mc :=
  ⟨.type "type", ns, rd, fd, ga, ⟨nm, q, N, bs, sn, sub, ab, col, dd, k0, k1, k2, k3, k5, lk⟩, ex, ty⟩
theorem xdef_mk0 {nm q0 : Str} {N : Addr} {bs : List Value} {sn sub ab col dd k0 k1 k2 k3 k5} (I : Init0 b st) (hb : ∀ (kV doc pm : Value) (an : Option Addr) (cdv ct : Value) (us : List Value), us.length = 1 → bindArgs (PySem.W.fnOf "__init__" q (defArgs st) (defBody st) (defScope st) .none kV doc pm an cdv ct) ⟨us, []⟩ = pure ((["self"] : List Str).zip us))
    (ns : PySem.W.nsIn K mainGlobals x = some (some (.ref C)))
    (lk : K.lookup C = some (excClassObj nm q0 C N bs (.ref CB :: PySem.HandSPX.veTail) true sn sub ab col dd k0 k1 k2 k3 k5 "ValueError.__new__"))
    (sa : PySem.W.findIn K (.ref C) "__setattr__" = some (some (.builtin "object.__setattr__"))) (ex : PySem.W.subIn K (.ref C) (.type "BaseException") = some true) (ty : PySem.W.typeIn K (.ref C) = some (.type "type")) (kC : PySem.W.keepIn K (.ref C) = true)
    (fi : PySem.W.findIn K (.ref C) "__init__" = some (some (.ref fI))) (ti : PySem.W.typeIn K (.ref fI) = some (.type "function"))
    (l : K.lookup fI = some ⟨oc, od, .func (PySem.W.fnOf "__init__" q (defArgs st) (defBody st) (defScope st) .none kV doc pm an cdv ct), osl⟩) (c : PySem.W.codeIn K cdv q = true) (k : PySem.W.keepIn K (.ref fI) = true) : XDef K CB b ⟨x, none⟩ C :=
  ⟨ns, ⟨nm, q0, N, bs, sn, sub, ab, col, dd, k0, k1, k2, k3, k5, lk⟩, sa, ex, ty, kC, fI, _, st, q, fi, ti, fun_mk (st := st) l c k, I, fun us hl => hb _ _ _ _ _ _ us hl⟩
theorem xdef_mk1 {nm q0 : Str} {N : Addr} {bs : List Value} {sn sub ab col dd k0 k1 k2 k3 k5} (I : Init1 b f st) (hb : ∀ (kV doc pm : Value) (an : Option Addr) (cdv ct : Value) (us : List Value), us.length = 2 → bindArgs (PySem.W.fnOf "__init__" q (defArgs st) (defBody st) (defScope st) .none kV doc pm an cdv ct) ⟨us, []⟩ = pure ((["self", f] : List Str).zip us))
    (ns : PySem.W.nsIn K mainGlobals x = some (some (.ref C)))
    (lk : K.lookup C = some (excClassObj nm q0 C N bs (.ref CB :: PySem.HandSPX.veTail) true sn sub ab col dd k0 k1 k2 k3 k5 "ValueError.__new__"))
    (sa : PySem.W.findIn K (.ref C) "__setattr__" = some (some (.builtin "object.__setattr__"))) (ex : PySem.W.subIn K (.ref C) (.type "BaseException") = some true) (ty : PySem.W.typeIn K (.ref C) = some (.type "type")) (kC : PySem.W.keepIn K (.ref C) = true)
    (nf : PySem.W.findIn K (.ref C) f = some none) (ga : PySem.W.findIn K (.ref C) "__getattribute__" = some (some (.builtin "BaseException.__getattribute__"))) (gg : PySem.W.findIn K (.ref C) "__getattr__" = some none) (hd : PySem.W.hasDictIn K C = true)
    (fi : PySem.W.findIn K (.ref C) "__init__" = some (some (.ref fI))) (ti : PySem.W.typeIn K (.ref fI) = some (.type "function"))
    (l : K.lookup fI = some ⟨oc, od, .func (PySem.W.fnOf "__init__" q (defArgs st) (defBody st) (defScope st) .none kV doc pm an cdv ct), osl⟩) (c : PySem.W.codeIn K cdv q = true) (k : PySem.W.keepIn K (.ref fI) = true) : XDef K CB b ⟨x, some f⟩ C :=
  ⟨ns, ⟨nm, q0, N, bs, sn, sub, ab, col, dd, k0, k1, k2, k3, k5, lk⟩, sa, ex, ty, kC, fI, _, st, q, fi, ti, fun_mk (st := st) l c k, I, nf, ⟨ga, gg, ex, hd⟩, fun us hl => hb _ _ _ _ _ _ us hl⟩
end
end EV

/-! What a tree comes to, by what is wanted behind it. -/
namespace EV
open PySem PySem.Spec PyProof.Rows L2
/-- the result is there, as wanted -/
def Wr {α : Type} (r : R α) (Q : α → Mem → Prop) : Prop := match r with
  | .ok a m => Q a m
  | _ => False
@[simp] theorem Wr_ok {α : Type} (a : α) (m : Mem) (Q : α → Mem → Prop) : Wr (.ok a m) Q = Q a m := rfl
@[simp] theorem Wr_bad {α : Type} (Q : α → Mem → Prop) : Wr (.bad : R α) Q = False := rfl
@[simp] theorem Wr_ex {α : Type} (x : Nat) (p : Option D) (m : Mem) (Q : α → Mem → Prop) : Wr (.ex x p m : R α) Q = False := rfl
@[simp] theorem Wr_bind {α β : Type} (r : R α) (k : α → Mem → R β) (Q : β → Mem → Prop) : Wr (r.bind k) Q = Wr r fun a m => Wr (k a m) Q := by cases r <;> rfl
theorem Wr.imp {α : Type} {r : R α} {Q Q' : α → Mem → Prop} (h : Wr r Q) (q : ∀ a m, Q a m → Q' a m) : Wr r Q' := by
  cases r with
  | ok a m => exact q a m h
  | _ => exact h
@[simp] theorem Wr_of {α : Type} (o : Option α) (m : Mem) (Q : α → Mem → Prop) : Wr (R.of o m) Q = ∃ a, o = some a ∧ Q a m := by
  cases o <;> simp
@[simp] theorem Wr_calm {α : Type} (r : R α) (Q : α → Mem → Prop) : Wr (calmR r) Q = Wr r Q := by cases r <;> rfl
theorem Wr_if {α : Type} {c : Prop} [Decidable c] (a b : R α) (Q : α → Mem → Prop) : Wr (if c then a else b) Q = if c then Wr a Q else Wr b Q := by split <;> rfl
/-- of a statement: what is wanted where it goes on (N) and where it returns (T) -/
def Wo (o : O) (N : Rho → Mem → Prop) (T : D → Mem → Prop) : Prop := match o with
  | .nx ρ m => N ρ m
  | .rt d m => T d m
  | _ => False
@[simp] theorem Wo_nx (ρ : Rho) (m : Mem) (N : Rho → Mem → Prop) (T : D → Mem → Prop) : Wo (.nx ρ m) N T = N ρ m := rfl
@[simp] theorem Wo_rt (d : D) (m : Mem) (N : Rho → Mem → Prop) (T : D → Mem → Prop) : Wo (.rt d m) N T = T d m := rfl
@[simp] theorem Wo_bad (N : Rho → Mem → Prop) (T : D → Mem → Prop) : Wo .bad N T = False := rfl
@[simp] theorem Wo_go {α : Type} (r : R α) (ρ : Rho) (k : α → Mem → O) (N : Rho → Mem → Prop) (T : D → Mem → Prop) : Wo (r.go ρ k) N T = Wr r fun a m => Wo (k a m) N T := by cases r <;> rfl
@[simp] theorem Wo_then (o : O) (k : Rho → Mem → O) (N : Rho → Mem → Prop) (T : D → Mem → Prop) : Wo (o.then k) N T = Wo o (fun ρ m => Wo (k ρ m) N T) T := by cases o <;> rfl
@[simp] theorem Wo_test (r : R D) (ρ : Rho) (k : Bool → Mem → O) (N : Rho → Mem → Prop) (T : D → Mem → Prop) : Wo (O.test r ρ k) N T = Wr (tst r) fun b m => Wo (k b m) N T := by unfold O.test; exact Wo_go _ _ _ _ _
@[simp] theorem Wo_ofR (o : Option Rho) (m : Mem) (N : Rho → Mem → Prop) (T : D → Mem → Prop) : Wo (O.ofR o m) N T = ∃ ρ, o = some ρ ∧ N ρ m := by
  cases o <;> simp
@[simp] theorem Wo_ofM (o : Option Mem) (k : Mem → O) (N : Rho → Mem → Prop) (T : D → Mem → Prop) : Wo (O.ofM o k) N T = ∃ m, o = some m ∧ Wo (k m) N T := by
  cases o <;> simp
theorem Wo.imp {o : O} {N N' : Rho → Mem → Prop} {T T' : D → Mem → Prop} (h : Wo o N T) (hn : ∀ ρ m, N ρ m → N' ρ m) (ht : ∀ d m, T d m → T' d m) : Wo o N' T' := by
  cases o with
  | nx ρ m => exact hn ρ m h
  | rt d m => exact ht d m h
  | _ => exact h
@[simp] theorem Wr_tst (r : R D) (Q : Bool → Mem → Prop) : Wr (tst r) Q = Wr r fun d m => ∃ b, d = .bl b ∧ Q b m := by
  cases r with
  | ok d m =>
    cases d with
    | bl b => exact propext ⟨fun h => ⟨b, rfl, h⟩, fun ⟨_, e, h⟩ => by cases e; exact h⟩
    | _ => exact propext ⟨fun h => False.elim h, fun ⟨_, e, _⟩ => by cases e⟩
  | _ => rfl
@[simp] theorem Wr_both {α : Type} (r : R D) (k : Bool → Mem → R α) (Q : α → Mem → Prop) : Wr (bothD r k) Q = Wr r fun d m => ∃ b, d = .bl b ∧ Wr (k b m) Q := by
  unfold bothD
  rw [Wr_bind, Wr_tst]
theorem Wr_ret (o : O) (Q : D → Mem → Prop) (h : Wo o (fun _ m => Q .non m) Q) : Wr (retO o) Q := by
  cases o <;> exact h
theorem isoR_run {run : Mem → R D} {ds : List D} {m : Mem} (hm : m = [] ∨ bels 0 ds = false) : isoR run ds m = run m := by
  unfold isoR
  rcases hm with rfl | hm
  · rw [if_neg (by simp)]
  · rw [if_neg (by rw [hm]; simp)]
/-- a call by its body, the cells as they were -/
theorem Wr_call {T : List Fn} {w k i : Nat} {fn : Fn} {ds : List D} {m : Mem} {Q : D → Mem → Prop} (hm : m = [] ∨ bels 0 ds = false) (hT : T[i]? = some fn) (hl : ds.length = fn.np) (h : Wo (exSs (callAt T w k) (loAt T w k) w fn.body (startR fn.ns ds) m) (fun _ m' => Wr (gcR m (.ok .non m')) Q) (fun d m' => Wr (gcR m (.ok d m')) Q)) : Wr (callAt T w (k + 1) i ds m) Q := by
  rw [callAt_succ, hT]
  show Wr (runFn (callAt T w k) (loAt T w k) w fn ds m) Q
  unfold runFn
  rw [if_pos hl, isoR_run hm]
  have : Wr (retO (exSs (callAt T w k) (loAt T w k) w fn.body (startR fn.ns ds) m)) (fun d m' => Wr (gcR m (.ok d m')) Q) := Wr_ret _ _ h
  revert this
  cases retO (exSs (callAt T w k) (loAt T w k) w fn.body (startR fn.ns ds) m) with
  | ok d m' => exact id
  | _ => exact id
theorem keepC_same : ∀ (n : Nat) (M more : Mem), keepC n M (M ++ more) = true
  | _, [], _ => rfl
  | n, c :: M, more => by
    show ((decide (c = c) || belC n c) && keepC n M (M ++ more)) = true
    rw [keepC_same n M more, decide_eq_true rfl]; rfl
/-- an immediate result, the cells as they were -/
theorem gc_same {m more : Mem} {d : D} {Q : D → Mem → Prop} (hb : bel m.length d = true) (h : Q d m) : Wr (gcR m (.ok d (m ++ more))) Q := by
  unfold gcR
  dsimp only
  rw [if_pos (keepC_same _ _ _), if_pos hb, Wr_ok, List.take_left']
  · exact h
  · rfl
theorem gc_same0 {m : Mem} {d : D} {Q : D → Mem → Prop} (hb : bel m.length d = true) (h : Q d m) : Wr (gcR m (.ok d m)) Q := by
  have := gc_same (m := m) (more := []) hb h
  rwa [List.append_nil] at this
theorem gc_self {m : Mem} {d : D} (hb : bel m.length d = true) : gcR m (.ok d m) = .ok d m := by
  unfold gcR
  have h1 := keepC_same m.length m []
  rw [List.append_nil] at h1
  dsimp only
  rw [if_pos h1, if_pos hb, List.take_length]
/-- a call whose body returns with the cells as they were -/
theorem isoR_ok {run : Mem → R D} {ds : List D} {d : D} {m m' : Mem} (hd : bel 0 d = true) (hb : bels 0 ds = true) (h : run [] = .ok d m') (h0 : m = [] → m' = []) : isoR run ds m = .ok d m := by
  unfold isoR
  cases m with
  | nil => rw [if_neg (by simp), h, h0 rfl]
  | cons c ms => rw [if_pos (by rw [hb]; rfl), h]; dsimp only; rw [if_pos hd]
theorem call_eq {T : List Fn} {w k i : Nat} {fn : Fn} {ds : List D} {d : D} {m : Mem} (hT : T[i]? = some fn) (hl : ds.length = fn.np) (hb : bel 0 d = true) (hds : bels 0 ds = true) (h : exSs (callAt T w k) (loAt T w k) w fn.body (startR fn.ns ds) [] = .rt d []) : callAt T w (k + 1) i ds m = .ok d m := by
  rw [callAt_succ, hT]
  show runFn (callAt T w k) (loAt T w k) w fn ds m = _
  unfold runFn
  rw [if_pos hl]
  refine isoR_ok hb hds (m' := []) ?_ fun _ => rfl
  rw [h]
  exact gc_self hb
/-- what a call without cells comes to, whatever cells there are -/
theorem call_any {T : List Fn} {w k i : Nat} {ds : List D} {d : D} (m : Mem) (hb : bel 0 d = true) (hds : bels 0 ds = true) (h : callAt T w (k + 1) i ds [] = .ok d []) : callAt T w (k + 1) i ds m = .ok d m := by
  rw [callAt_succ] at h ⊢
  cases hT : T[i]? with
  | none => rw [hT] at h; cases h
  | some fn =>
    rw [hT] at h
    dsimp only at h ⊢
    unfold runFn at h ⊢
    split at h
    · rename_i hl
      rw [if_pos hl]
      refine isoR_ok hb hds (m' := []) ?_ fun _ => rfl
      unfold isoR at h
      rw [if_neg (by simp)] at h
      exact h
    · cases h
theorem call_exc {T : List Fn} {w k i : Nat} {ds : List D} {x : Nat} (m : Mem) (hds : bels 0 ds = true) (h : callAt T w (k + 1) i ds [] = .ex x none []) : callAt T w (k + 1) i ds m = .ex x none m := by
  rw [callAt_succ] at h ⊢
  cases hT : T[i]? with
  | none => rw [hT] at h; cases h
  | some fn =>
    rw [hT] at h
    dsimp only at h ⊢
    unfold runFn at h ⊢
    split at h
    · rename_i hl
      rw [if_pos hl]
      unfold isoR at h ⊢
      rw [if_neg (by simp)] at h
      cases m with
      | nil => rw [if_neg (by simp)]; exact h
      | cons c ms => rw [if_pos (by rw [hds]; rfl), h]
    · cases h
theorem call_exd {T : List Fn} {w k i : Nat} {ds : List D} {x : Nat} {d : D} (m : Mem) (hb : bel 0 d = true) (hds : bels 0 ds = true) (h : callAt T w (k + 1) i ds [] = .ex x (some d) []) : callAt T w (k + 1) i ds m = .ex x (some d) m := by
  rw [callAt_succ] at h ⊢
  cases hT : T[i]? with
  | none => rw [hT] at h; cases h
  | some fn =>
    rw [hT] at h
    dsimp only at h ⊢
    unfold runFn at h ⊢
    split at h
    · rename_i hl
      rw [if_pos hl]
      unfold isoR at h ⊢
      rw [if_neg (by simp)] at h
      cases m with
      | nil => rw [if_neg (by simp)]; exact h
      | cons c ms => rw [if_pos (by rw [hds]; rfl), h]; dsimp only; rw [if_pos hb]
    · cases h
/-- a comprehension whose turns keep the cells -/
theorem lcp_pure {q : Option (Nat × List D)} {tg : D → Rho → Option Rho} {cd : Rho → Mem → R Bool} {el : Rho → Mem → R D} {ρ : Rho} {m : Mem} {f : D → D} (hq : ckD q m = true) : ∀ (xs acc : List D), (∀ x ∈ xs, ∃ ρ', tg x ρ = some ρ' ∧ cd ρ' m = .ok true m ∧ el ρ' m = .ok (f x) m) → lcpL q tg cd el ρ xs acc m = .ok (.lst (acc ++ xs.map f)) m
  | [], acc, _ => by
    unfold lcpL
    rw [if_pos hq, List.map_nil, List.append_nil]
  | x :: xs, acc, h => by
    obtain ⟨ρ', h1, h2, h3⟩ := h x List.mem_cons_self
    unfold lcpL
    rw [if_pos hq, h1]
    dsimp only
    rw [h2]
    dsimp only [R.bind]
    rw [if_pos rfl, h3]
    dsimp only [R.bind]
    rw [lcp_pure hq xs (acc ++ [f x]) fun y hy => h y (List.mem_cons_of_mem _ hy), List.append_assoc]
    rfl
theorem allOf_map {α : Type} {f : D → Option α} {g : α → D} (h : ∀ a, f (g a) = some a) : ∀ as : List α, allOf f (as.map g) = some as
  | [] => rfl
  | a :: as => by
    rw [List.map_cons]
    unfold allOf
    rw [h a, allOf_map h as]
theorem allD_map {m : Mem} (bs : List Bool) : allD [.lst (bs.map .bl)] m = .ok (.bl (bs.all id)) m := by
  unfold allD
  dsimp only [lstOf, Option.bind]
  rw [allOf_map (f := isB) (g := .bl) fun _ => rfl]
theorem anyD_map {m : Mem} (bs : List Bool) : anyD [.lst (bs.map .bl)] m = .ok (.bl (bs.any id)) m := by
  unfold anyD
  dsimp only [lstOf, Option.bind]
  rw [allOf_map (f := isB) (g := .bl) fun _ => rfl]
theorem R.bind_assoc {α β γ : Type} (r : R α) (f : α → Mem → R β) (g : β → Mem → R γ) : (r.bind f).bind g = r.bind fun a m => (f a m).bind g := by cases r <;> rfl
theorem go_bind {α β : Type} (r : R α) (f : α → Mem → R β) (ρ : Rho) (g : β → Mem → O) : (r.bind f).go ρ g = r.go ρ fun a m => (f a m).go ρ g := by cases r <;> rfl
theorem then_go {α : Type} (r : R α) (ρ : Rho) (k : α → Mem → O) (h : Rho → Mem → O) : (r.go ρ k).then h = r.go ρ fun a m => (k a m).then h := by cases r <;> rfl
theorem then_then (o : O) (k h : Rho → Mem → O) : (o.then k).then h = o.then fun ρ m => (k ρ m).then h := by cases o <;> rfl
theorem tst_bindL {α : Type} (r : R α) (f : α → Mem → R D) : tst (r.bind f) = r.bind fun a m => tst (f a m) := by cases r <;> rfl
theorem both_bindL {α β : Type} (r : R α) (f : α → Mem → R D) (k : Bool → Mem → R β) : bothD (r.bind f) k = r.bind fun a m => bothD (f a m) k := by cases r <;> rfl
section
variable {C : Nat → List D → Mem → R D} {o : Lo}
theorem rng_nat {i : Int} (n : Nat) (h : i.toNat = n) (h1 : -1 ≤ i) (h2 : i ≤ lim) : rngD 0 i = some ((List.range n).map fun (j : Nat) => D.int (0 + (j : Int))) := by
  unfold rngD
  have : (i : Int) ≤ 16777216 := h2
  rw [if_pos (by omega), Int.sub_zero, h]
/-- a comprehension over a range, its turns not looked into -/
theorem ev_lcpR {own : List (Str × Nat)} {t : Tg} {a e : Ex} {ρ : Rho} {m : Mem} {i : Int} (n : Nat) (ha : evE C o a ρ m = .ok (.int i) m) (hi : i.toNat = n) (h1 : -1 ≤ i) (h2 : i ≤ lim) :
    evE C o (.lcp own t (.rng1 a) .no e) ρ m = lcpL none (tgD t) (fun _ m => .ok true m) (fun ρ' m => calmR (evE C o e ρ' m)) (wipeR ρ (own.map (·.2))) ((List.range n).map fun (j : Nat) => D.int (0 + (j : Int))) [] m := by
  have e1 : evE C o (.lcp own t (.rng1 a) .no e) ρ m = ((evE C o a ρ m).bind fun d m1 => match d with | .int i => R.of ((rngD 0 i).map fun xs => (xs, none)) m1 | _ => .bad).bind fun xs m1 => if lim < xs.1.length then .bad else lcpL xs.2 (tgD t) (fun _ m => .ok true m) (fun ρ' m => calmR (evE C o e ρ' m)) (wipeR ρ (own.map (·.2))) xs.1 [] m1 := rfl
  rw [e1, ha]
  dsimp only [R.bind]
  rw [rng_nat n hi h1 h2]
  show (if lim < ((List.range n).map fun (j : Nat) => D.int (0 + (j : Int))).length then R.bad else _) = _
  rw [if_neg]
  rw [List.length_map, List.length_range]
  have : (i : Int) ≤ 16777216 := h2
  show ¬ 16777216 < n
  omega
/-- a comprehension over a list or a tuple -/
theorem ev_lcpS {own : List (Str × Nat)} {t : Tg} {a e : Ex} {ρ : Rho} {m : Mem} {d : D} {xs : List D} (ha : evE C o a ρ m = .ok d m) (hd : itsD m d = some xs) (hr : ∀ n, d ≠ .ref n) (hl : xs.length ≤ lim) :
    evE C o (.lcp own t (.ex a) .no e) ρ m = lcpL none (tgD t) (fun _ m => .ok true m) (fun ρ' m => calmR (evE C o e ρ' m)) (wipeR ρ (own.map (·.2))) xs [] m := by
  have e1 : evE C o (.lcp own t (.ex a) .no e) ρ m = ((evE C o a ρ m).bind fun d m1 => match d with
    | .ref n => match m1[n]? with
      | some (.lst xs) => .ok (xs, some (n, xs)) m1
      | _ => .bad
    | d => R.of ((itsD m1 d).map fun xs => (xs, none)) m1).bind fun xs m1 => if lim < xs.1.length then .bad else lcpL xs.2 (tgD t) (fun _ m => .ok true m) (fun ρ' m => calmR (evE C o e ρ' m)) (wipeR ρ (own.map (·.2))) xs.1 [] m1 := rfl
  rw [e1, ha]
  dsimp only [R.bind]
  have e2 : (match d with
    | .ref n => match m[n]? with
      | some (.lst xs) => R.ok (xs, some (n, xs)) m
      | _ => .bad
    | d => R.of ((itsD m d).map fun xs => (xs, (none : Option (Nat × List D)))) m) = R.ok (xs, none) m := by
    cases d with
    | ref n => exact absurd rfl (hr n)
    | _ => dsimp only; rw [hd]; rfl
  rw [e2]
  dsimp only
  rw [if_neg (Nat.not_lt.mpr hl)]
/-- ''.join(..) -/
theorem ev_join {es : Exs} {ρ : Rho} {m : Mem} : evE C o (.bm .join (.lit (.str (Str.ofString ""))) es) ρ m = (evEs C o es ρ m).bind fun ds m2 => joinD (.str (Str.ofString "")) ds m2 := by
  have e : evE C o (.bm .join (.lit (.str (Str.ofString ""))) es) ρ m = (evE C o (.lit (.str (Str.ofString ""))) ρ m).bind fun d m1 => if tyM .join d m1 then (evEs C o es ρ m1).bind fun ds m2 => bmD .join d ds m2 else .bad := rfl
  have e2 : evE C o (.lit (.str (Str.ofString ""))) ρ m = .ok (.str (Str.ofString "")) m := by
    show R.of (litD (.str (Str.ofString ""))) m = _
    rw [show litD (.str (Str.ofString "")) = some (.str (Str.ofString "")) from if_pos (sOk_of "")]
    rfl
  rw [e, e2]
  rfl
end
theorem Wo_turn {o : O} {k : Rho → Mem → O} {N : Rho → Mem → Prop} {T : D → Mem → Prop} (h : Wo o (fun ρ m => Wo (k ρ m) N T) T) : Wo (o.turn k) N T := by
  cases o <;> first | exact h | exact False.elim h
/-- a loop by its invariant -/
theorem for_wo {tg : D → Rho → Option Rho} {body : Rho → Mem → O} {T : D → Mem → Prop} {N : Rho → Mem → Prop} : ∀ (xs : List D) (I : Nat → Rho → Mem → Prop) (ρ : Rho) (m : Mem), I 0 ρ m → (∀ i x ρ m, xs[i]? = some x → I i ρ m → ∃ ρ', tg x ρ = some ρ' ∧ Wo (body ρ' m) (I (i + 1)) T) → (∀ ρ m, I xs.length ρ m → N ρ m) → Wo (forL none tg body xs ρ m) N T
  | [], I, ρ, m, h0, _, hn => by
    unfold forL
    exact hn ρ m h0
  | x :: xs, I, ρ, m, h0, hs, hn => by
    obtain ⟨ρ', h1, h2⟩ := hs 0 x ρ m rfl h0
    unfold forL
    rw [if_pos (show ckD none m = true from rfl), h1]
    refine Wo_turn (h2.imp (fun ρ2 m2 h => ?_) fun _ _ h => h)
    exact for_wo xs (fun i => I (i + 1)) ρ2 m2 h (fun i y ρ m e hi => hs (i + 1) y ρ m (by simpa using e) hi) fun ρ m h => hn ρ m h
section
variable {C : Nat → List D → Mem → R D} {o : Lo} {w : Nat}
theorem ex_forS {t : Tg} {a : Ex} {b : Ss} {ρ : Rho} {m m1 : Mem} {d : D} {xs : List D} (ha : evE C o a ρ m = .ok d m1) (hd : itsD m1 d = some xs) (hr : ∀ n, d ≠ .ref n) :
    exS C o w (.fors t (.ex a) b) ρ m = forL none (tgD t) (fun ρ' m' => exSs C o w b ρ' m') xs ρ m1 := by
  have e1 : exS C o w (.fors t (.ex a) b) ρ m = ((evE C o a ρ m).bind fun d m1 => match d with
    | .ref n => match m1[n]? with
      | some (.lst xs) => .ok (xs, some (n, xs)) m1
      | _ => .bad
    | d => R.of ((itsD m1 d).map fun xs => (xs, none)) m1).go ρ fun xs m1 => forL xs.2 (tgD t) (fun ρ' m' => exSs C o w b ρ' m') xs.1 ρ m1 := rfl
  rw [e1, ha]
  dsimp only [R.bind]
  have e2 : (match d with
    | .ref n => match m1[n]? with
      | some (.lst xs) => R.ok (xs, some (n, xs)) m1
      | _ => .bad
    | d => R.of ((itsD m1 d).map fun xs => (xs, (none : Option (Nat × List D)))) m1) = R.ok (xs, none) m1 := by
    cases d with
    | ref n => exact absurd rfl (hr n)
    | _ => dsimp only; rw [hd]; rfl
  rw [e2]
  rfl
theorem wo_forS {t : Tg} {a : Ex} {b : Ss} {ρ : Rho} {m : Mem} {N : Rho → Mem → Prop} {T : D → Mem → Prop} (h : Wr (evE C o a ρ m) fun d m1 => ∃ xs, itsD m1 d = some xs ∧ (∀ n, d ≠ .ref n) ∧ Wo (forL none (tgD t) (fun ρ' m' => exSs C o w b ρ' m') xs ρ m1) N T) : Wo (exS C o w (.fors t (.ex a) b) ρ m) N T := by
  cases he : evE C o a ρ m with
  | bad => rw [he] at h; exact False.elim h
  | ex _ _ _ => rw [he] at h; exact False.elim h
  | ok d m1 =>
    rw [he] at h
    obtain ⟨xs, h1, h2, h3⟩ := h
    rw [ex_forS he h1 h2]
    exact h3
theorem wo_forR {t : Tg} {a : Ex} {b : Ss} {ρ : Rho} {m : Mem} {N : Rho → Mem → Prop} {T : D → Mem → Prop} {i : Int} (n : Nat) (ha : evE C o a ρ m = .ok (.int i) m) (hi : i.toNat = n) (h1 : -1 ≤ i) (h2 : i ≤ lim) (h : Wo (forL none (tgD t) (fun ρ' m' => exSs C o w b ρ' m') ((List.range n).map fun (j : Nat) => D.int (0 + (j : Int))) ρ m) N T) : Wo (exS C o w (.fors t (.rng1 a) b) ρ m) N T := by
  have e1 : exS C o w (.fors t (.rng1 a) b) ρ m = ((evE C o a ρ m).bind fun d m1 => match d with | .int i => R.of ((rngD 0 i).map fun xs => (xs, none)) m1 | _ => .bad).go ρ fun xs m1 => forL xs.2 (tgD t) (fun ρ' m' => exSs C o w b ρ' m') xs.1 ρ m1 := rfl
  rw [e1, ha]
  dsimp only [R.bind]
  rw [rng_nat n hi h1 h2]
  exact h
end
end EV

/-! What is wanted behind a tree, node by node. -/
namespace EV
open PySem PySem.Spec PyProof.Rows L2
section
variable {C : Nat → List D → Mem → R D} {o : Lo} {w : Nat} {ρ : Rho} {m : Mem} {Q : D → Mem → Prop} {a b c e : Ex} {es : Exs} {N : Rho → Mem → Prop} {T : D → Mem → Prop} {Qs : List D → Mem → Prop}
theorem w_var {i : Nat} : Wr (evE C o (.var i) ρ m) Q = (match ρ[i]? with | some (some d) => Q d m | _ => False) := by
  show Wr (match ρ[i]? with | some (some d) => R.ok d m | _ => .bad) Q = _
  cases ρ[i]? with
  | none => rfl
  | some d => cases d <;> rfl
theorem w_int {i : Int} : Wr (evE C o (.lit (.int i)) ρ m) Q = Q (.int i) m := rfl
theorem w_bool {i : Bool} : Wr (evE C o (.lit (.bool i)) ρ m) Q = Q (.bl i) m := rfl
theorem w_none : Wr (evE C o (.lit .none) ρ m) Q = Q .non m := rfl
theorem w_str {s : String} : Wr (evE C o (.lit (.str (Str.ofString s))) ρ m) Q = Q (.str (Str.ofString s)) m := by
  show Wr (R.of (litD (.str (Str.ofString s))) m) Q = _
  rw [show litD (.str (Str.ofString s)) = some (.str (Str.ofString s)) from if_pos (sOk_of s)]
  rfl
theorem w_glo {x : Str} {d : D} : Wr (evE C o (.glo x d) ρ m) Q = Q d m := rfl
theorem w_bin {op : Operator} : Wr (evE C o (.bin op a b) ρ m) Q = Wr (evE C o a ρ m) fun d m1 => Wr (evE C o b ρ m1) fun e m2 => Wr (binD op d e m2) Q := by
  show Wr ((evE C o a ρ m).bind fun d m1 => (evE C o b ρ m1).bind fun e m2 => binD op d e m2) Q = _
  simp only [Wr_bind]
theorem w_not : Wr (evE C o (.not a) ρ m) Q = Wr (evE C o a ρ m) fun d m1 => ∃ v, d = .bl v ∧ Q (.bl (!v)) m1 := by
  show Wr (bothD (evE C o a ρ m) fun b m1 => .ok (.bl (!b)) m1) Q = _
  simp only [Wr_both, Wr_ok]
theorem w_cmp {op : CmpOp} : Wr (evE C o (.cmp op a b) ρ m) Q = Wr (evE C o a ρ m) fun d m1 => Wr (evE C o b ρ m1) fun e m2 => ∃ v, cmpD op d e m2 = some v ∧ Q (.bl v) m2 := by
  show Wr ((evE C o a ρ m).bind fun d m1 => (evE C o b ρ m1).bind fun e m2 => R.of ((cmpD op d e m2).map .bl) m2) Q = _
  simp only [Wr_bind, Wr_of, Option.map_eq_some_iff]
  congr 1; funext d m1; congr 1; funext e m2
  refine propext ⟨?_, ?_⟩
  · rintro ⟨_, ⟨v, h, rfl⟩, q⟩; exact ⟨v, h, q⟩
  · rintro ⟨v, h, q⟩; exact ⟨_, ⟨v, h, rfl⟩, q⟩
theorem w_and : Wr (evE C o (.and a b) ρ m) Q = Wr (evE C o a ρ m) fun d m1 => ∃ v, d = .bl v ∧ if v then Wr (evE C o b ρ m1) Q else Q (.bl false) m1 := by
  show Wr (bothD (evE C o a ρ m) fun k m1 => if k then evE C o b ρ m1 else .ok (.bl false) m1) Q = _
  simp only [Wr_both, Wr_if, Wr_ok]
theorem w_or : Wr (evE C o (.or a b) ρ m) Q = Wr (evE C o a ρ m) fun d m1 => ∃ v, d = .bl v ∧ if v then Q (.bl true) m1 else Wr (evE C o b ρ m1) Q := by
  show Wr (bothD (evE C o a ρ m) fun k m1 => if k then .ok (.bl true) m1 else evE C o b ρ m1) Q = _
  simp only [Wr_both, Wr_if, Wr_ok]
theorem w_ife : Wr (evE C o (.ife c a b) ρ m) Q = Wr (evE C o c ρ m) fun d m1 => ∃ v, d = .bl v ∧ if v then Wr (evE C o a ρ m1) Q else Wr (evE C o b ρ m1) Q := by
  show Wr (bothD (evE C o c ρ m) fun k m1 => if k then evE C o a ρ m1 else evE C o b ρ m1) Q = _
  simp only [Wr_both, Wr_if]
theorem w_tup : Wr (evE C o (.tup es) ρ m) Q = Wr (evEs C o es ρ m) fun ds m1 => Q (.tup ds) m1 := by
  show Wr ((evEs C o es ρ m).bind fun ds m1 => .ok (.tup ds) m1) Q = _
  simp only [Wr_bind, Wr_ok]
theorem w_lst : Wr (evE C o (.lst es) ρ m) Q = Wr (evEs C o es ρ m) fun ds m1 => Q (.lst ds) m1 := by
  show Wr ((evEs C o es ρ m).bind fun ds m1 => .ok (.lst ds) m1) Q = _
  simp only [Wr_bind, Wr_ok]
theorem w_idx : Wr (evE C o (.idx a b) ρ m) Q = Wr (evE C o a ρ m) fun d m1 => Wr (evE C o b ρ m1) fun e m2 => ∃ v, idxD d e m2 = some v ∧ Q v m2 := by
  show Wr ((evE C o a ρ m).bind fun d m1 => (evE C o b ρ m1).bind fun e m2 => R.of (idxD d e m2) m2) Q = _
  simp only [Wr_bind, Wr_of]
theorem w_slc {lo hi : Op} : Wr (evE C o (.slc a lo hi) ρ m) Q = Wr (evE C o a ρ m) fun d m1 => Wr (evO C o lo ρ m1) fun l m2 => Wr (evO C o hi ρ m2) fun h m3 => ∃ v, slcD d l h m3 = some v ∧ Q v m3 := by
  show Wr ((evE C o a ρ m).bind fun d m1 => (evO C o lo ρ m1).bind fun l m2 => (evO C o hi ρ m2).bind fun h m3 => R.of (slcD d l h m3) m3) Q = _
  simp only [Wr_bind, Wr_of]
theorem w_no {Qo : Option Int → Mem → Prop} : Wr (evO C o .no ρ m) Qo = Qo none m := rfl
theorem w_yes {Qo : Option Int → Mem → Prop} : Wr (evO C o (.yes a) ρ m) Qo = Wr (evE C o a ρ m) fun d m1 => ∃ i, d = .int i ∧ Qo (some i) m1 := by
  show Wr ((evE C o a ρ m).bind fun d m1 => R.of (optI d) m1) Qo = _
  simp only [Wr_bind, Wr_of]
  congr 1; funext d m1
  refine propext ⟨?_, ?_⟩
  · rintro ⟨v, h, q⟩
    cases d <;> cases h
    exact ⟨_, rfl, q⟩
  · rintro ⟨i, rfl, q⟩; exact ⟨_, rfl, q⟩
theorem w_rev : Wr (evE C o (.rev a) ρ m) Q = Wr (evE C o a ρ m) fun d m1 => ∃ v, revD d m1 = some v ∧ Q v m1 := by
  show Wr ((evE C o a ρ m).bind fun d m1 => R.of (revD d m1) m1) Q = _
  simp only [Wr_bind, Wr_of]
theorem w_call {f : Nat} : Wr (evE C o (.call f es) ρ m) Q = Wr (evEs C o es ρ m) fun ds m1 => Wr (C f ds m1) Q := by
  show Wr ((evEs C o es ρ m).bind fun ds m1 => C f ds m1) Q = _
  simp only [Wr_bind]
theorem w_bi {f : Bi} : Wr (evE C o (.bi f es) ρ m) Q = Wr (evEs C o es ρ m) fun ds m1 => Wr (biD f ds m1) Q := by
  show Wr ((evEs C o es ρ m).bind fun ds m1 => biD f ds m1) Q = _
  simp only [Wr_bind]
theorem w_itm : Wr (evE C o (.itm a) ρ m) Q = Wr (evE C o a ρ m) fun d m1 => Wr (sortedItemsD [d] m1) Q := by
  show Wr ((evE C o a ρ m).bind fun d m1 => sortedItemsD [d] m1) Q = _
  simp only [Wr_bind]
theorem w_isi {ts : List Ty} : Wr (evE C o (.isi a ts) ρ m) Q = Wr (evE C o a ρ m) fun d m1 => ∃ v, isiD m1 d ts = some v ∧ Q (.bl v) m1 := by
  show Wr ((evE C o a ρ m).bind fun d m1 => R.of ((isiD m1 d ts).map .bl) m1) Q = _
  simp only [Wr_bind, Wr_of, Option.map_eq_some_iff]
  congr 1; funext d m1
  refine propext ⟨?_, ?_⟩
  · rintro ⟨_, ⟨v, h, rfl⟩, q⟩; exact ⟨v, h, q⟩
  · rintro ⟨v, h, q⟩; exact ⟨_, ⟨v, h, rfl⟩, q⟩
theorem w_alc : Wr (evE C o (.alc a) ρ m) Q = Wr (evE C o a ρ m) fun d m1 => Wr (alcD d m1) Q := by
  show Wr ((evE C o a ρ m).bind alcD) Q = _
  simp only [Wr_bind]
theorem w_nil : Wr (evEs C o .nil ρ m) Qs = Qs [] m := rfl
theorem w_cons : Wr (evEs C o (.cons e es) ρ m) Qs = Wr (evE C o e ρ m) fun d m1 => Wr (evEs C o es ρ m1) fun ds m2 => Qs (d :: ds) m2 := by
  show Wr ((evE C o e ρ m).bind fun d m1 => (evEs C o es ρ m1).bind fun ds m2 => .ok (d :: ds) m2) Qs = _
  simp only [Wr_bind, Wr_ok]
theorem w_lcpR {own : List (Str × Nat)} {t : Tg} (h : Wr (evE C o a ρ m) fun d m1 => ∃ i : Int, d = .int i ∧ -1 ≤ i ∧ i ≤ lim ∧ Wr (lcpL none (tgD t) (fun _ m => .ok true m) (fun ρ' m => calmR (evE C o e ρ' m)) (wipeR ρ (own.map (·.2))) ((List.range i.toNat).map fun (j : Nat) => D.int (0 + (j : Int))) [] m1) Q) : Wr (evE C o (.lcp own t (.rng1 a) .no e) ρ m) Q := by
  have e1 : evE C o (.lcp own t (.rng1 a) .no e) ρ m = ((evE C o a ρ m).bind fun d m1 => match d with | .int i => R.of ((rngD 0 i).map fun xs => (xs, none)) m1 | _ => .bad).bind fun xs m1 => if lim < xs.1.length then .bad else lcpL xs.2 (tgD t) (fun _ m => .ok true m) (fun ρ' m => calmR (evE C o e ρ' m)) (wipeR ρ (own.map (·.2))) xs.1 [] m1 := rfl
  rw [e1]
  cases he : evE C o a ρ m with
  | bad => rw [he] at h; exact False.elim h
  | ex _ _ _ => rw [he] at h; exact False.elim h
  | ok d m1 =>
    rw [he] at h
    obtain ⟨i, rfl, h1, h2, h3⟩ := h
    dsimp only [R.bind]
    rw [rng_nat i.toNat rfl h1 h2]
    show Wr (if lim < ((List.range i.toNat).map fun (j : Nat) => D.int (0 + (j : Int))).length then R.bad else _) Q
    rw [if_neg]
    · exact h3
    · rw [List.length_map, List.length_range]
      have : (i : Int) ≤ 16777216 := h2
      show ¬ 16777216 < i.toNat
      omega
theorem w_lcpS {own : List (Str × Nat)} {t : Tg} (h : Wr (evE C o a ρ m) fun d m1 => ∃ xs, itsD m1 d = some xs ∧ (∀ n, d ≠ .ref n) ∧ xs.length ≤ lim ∧ Wr (lcpL none (tgD t) (fun _ m => .ok true m) (fun ρ' m => calmR (evE C o e ρ' m)) (wipeR ρ (own.map (·.2))) xs [] m1) Q) : Wr (evE C o (.lcp own t (.ex a) .no e) ρ m) Q := by
  have e1 : evE C o (.lcp own t (.ex a) .no e) ρ m = ((evE C o a ρ m).bind fun d m1 => match d with
    | .ref n => match m1[n]? with
      | some (.lst xs) => .ok (xs, some (n, xs)) m1
      | _ => .bad
    | d => R.of ((itsD m1 d).map fun xs => (xs, none)) m1).bind fun xs m1 => if lim < xs.1.length then .bad else lcpL xs.2 (tgD t) (fun _ m => .ok true m) (fun ρ' m => calmR (evE C o e ρ' m)) (wipeR ρ (own.map (·.2))) xs.1 [] m1 := rfl
  rw [e1]
  cases he : evE C o a ρ m with
  | bad => rw [he] at h; exact False.elim h
  | ex _ _ _ => rw [he] at h; exact False.elim h
  | ok d m1 =>
    rw [he] at h
    obtain ⟨xs, h1, h2, h3, h4⟩ := h
    dsimp only [R.bind]
    have e2 : (match d with
      | .ref n => match m1[n]? with
        | some (.lst xs) => R.ok (xs, some (n, xs)) m1
        | _ => .bad
      | d => R.of ((itsD m1 d).map fun xs => (xs, (none : Option (Nat × List D)))) m1) = R.ok (xs, none) m1 := by
      cases d with
      | ref n => exact absurd rfl (h2 n)
      | _ => dsimp only; rw [h1]; rfl
    rw [e2]
    dsimp only
    rw [if_neg (Nat.not_lt.mpr h3)]
    exact h4
/-! statements -/
theorem w_asg {t : Tg} : Wo (exS C o w (.asg t e) ρ m) N T = Wr (evE C o e ρ m) fun d m1 => ∃ ρ', tgD t d ρ = some ρ' ∧ N ρ' m1 := by
  show Wo ((evE C o e ρ m).go ρ fun d m1 => O.ofR (tgD t d ρ) m1) N T = _
  simp only [Wo_go, Wo_ofR]
theorem w_par {is : List Nat} : Wo (exS C o w (.par is es) ρ m) N T = Wr (evEs C o es ρ m) fun ds m1 => ∃ ρ', setAll is ds ρ = some ρ' ∧ N ρ' m1 := by
  show Wo ((evEs C o es ρ m).go ρ fun ds m1 => O.ofR (setAll is ds ρ) m1) N T = _
  simp only [Wo_go, Wo_ofR]
theorem w_seti : Wo (exS C o w (.seti a b e) ρ m) N T = Wr (evE C o e ρ m) fun y m1 => Wr (evE C o a ρ m1) fun d m2 => Wr (evE C o b ρ m2) fun j m3 => ∃ m4, setD d j y m3 = some m4 ∧ N ρ m4 := by
  show Wo ((evE C o e ρ m).go ρ fun y m1 => (evE C o a ρ m1).go ρ fun d m2 => (evE C o b ρ m2).go ρ fun j m3 => O.ofM (setD d j y m3) fun m4 => .nx ρ m4) N T = _
  simp only [Wo_go, Wo_ofM, Wo_nx]
theorem w_expr : Wo (exS C o w (.expr e) ρ m) N T = Wr (evE C o e ρ m) fun _ m1 => N ρ m1 := by
  show Wo ((evE C o e ρ m).go ρ fun _ m1 => .nx ρ m1) N T = _
  simp only [Wo_go, Wo_nx]
theorem w_ret : Wo (exS C o w (.ret e) ρ m) N T = Wr (evE C o e ρ m) T := by
  show Wo ((evE C o e ρ m).go ρ fun d m1 => .rt d m1) N T = _
  simp only [Wo_go, Wo_rt]
theorem w_ifs {p q : Ss} : Wo (exS C o w (.ifs c p q) ρ m) N T = Wr (evE C o c ρ m) fun d m1 => ∃ v, d = .bl v ∧ if v then Wo (exSs C o w p ρ m1) N T else Wo (exSs C o w q ρ m1) N T := by
  show Wo (O.test (evE C o c ρ m) ρ fun k m1 => if k then exSs C o w p ρ m1 else exSs C o w q ρ m1) N T = _
  simp only [Wo_test, Wr_tst]
  congr 1; funext d m1; congr 1; funext v
  cases v <;> simp
theorem w_snil : Wo (exSs C o w .nil ρ m) N T = N ρ m := rfl
theorem w_scons {s : EV.St} {r : Ss} : Wo (exSs C o w (.cons s r) ρ m) N T = Wo (exS C o w s ρ m) (fun ρ1 m1 => Wo (exSs C o w r ρ1 m1) N T) T := by
  show Wo ((exS C o w s ρ m).then fun ρ1 m1 => exSs C o w r ρ1 m1) N T = _
  rw [Wo_then]
end
end EV

/-! More weakest preconditions: while, append, get, a[i], x = .., filters; calls whose own cells are forgotten. -/
namespace EV
open PySem PySem.Spec PyProof.Rows L2
section
variable {C : Nat → List D → Mem → R D} {o : Lo} {w : Nat} {ρ : Rho} {m : Mem} {Q : D → Mem → Prop} {N : Rho → Mem → Prop} {T : D → Mem → Prop} {a b c e : Ex} {es : Exs}
theorem w_whl {p : Ss} : Wo (exS C o w (.whl c p) ρ m) N T = Wo (whlL (evE C o c) (fun ρ' m' => exSs C o w p ρ' m') w ρ m) N T := rfl
theorem whl_step {cc : Rho → Mem → R D} {body : Rho → Mem → O} {n : Nat} (h : Wr (cc ρ m) fun d m1 => ∃ v, d = .bl v ∧ if v then Wo (body ρ m1) (fun ρ2 m2 => Wo (whlL cc body n ρ2 m2) N T) T else N ρ m1) : Wo (whlL cc body (n + 1) ρ m) N T := by
  unfold whlL
  rw [Wo_test, Wr_tst]
  refine h.imp fun d m1 ⟨v, e, z⟩ => ⟨v, e, ?_⟩
  cases v with
  | true => exact Wo_turn z
  | false => exact z
theorem w_app : Wr (evE C o (.bm .append a es) ρ m) Q = Wr (evE C o a ρ m) fun d m1 => tyM .append d m1 = true ∧ Wr (evEs C o es ρ m1) fun ds m2 => Wr (appendD d ds m2) Q := by
  have e1 : evE C o (.bm .append a es) ρ m = (evE C o a ρ m).bind fun d m1 => if tyM .append d m1 then (evEs C o es ρ m1).bind fun ds m2 => appendD d ds m2 else .bad := rfl
  rw [e1, Wr_bind]
  congr 1
  funext d m1
  rw [Wr_if, Wr_bind]
  by_cases h : tyM .append d m1 = true
  · rw [if_pos h]; exact propext ⟨fun z => ⟨h, z⟩, fun z => z.2⟩
  · rw [if_neg h]; exact propext ⟨fun z => z.elim, fun z => absurd z.1 h⟩
theorem w_dget : Wr (evE C o (.dget a b c) ρ m) Q = Wr (evE C o a ρ m) fun d m1 => isDic d m1 = true ∧ Wr (evE C o b ρ m1) fun q m2 => Wr (evE C o c ρ m2) fun y m3 => Wr (dgetD d q y m3) Q := by
  have e1 : evE C o (.dget a b c) ρ m = (evE C o a ρ m).bind fun d m1 => if isDic d m1 then (evE C o b ρ m1).bind fun q m2 => (evE C o c ρ m2).bind fun y m3 => dgetD d q y m3 else .bad := rfl
  rw [e1, Wr_bind]
  congr 1
  funext d m1
  rw [Wr_if, Wr_bind]
  by_cases h : isDic d m1 = true
  · rw [if_pos h]
    refine propext ⟨fun z => ⟨h, z.imp fun q m2 z => by rw [Wr_bind] at z; exact z⟩, fun z => z.2.imp fun q m2 z => by rw [Wr_bind]; exact z⟩
  · rw [if_neg h]; exact propext ⟨fun z => z.elim, fun z => absurd z.1 h⟩
theorem w_sasg {j : Nat} (h : Wr (evEs C o es ρ m) fun ds m1 => ∃ y z, ds = [y, z] ∧ Wr (evE C o a ρ m1) fun d m2 => Wr (evE C o b ρ m2) fun k m3 => ∃ m4, setD d k y m3 = some m4 ∧ j < ρ.length ∧ N (ρ.set j (some z)) m4) : Wo (exS C o w (.sasg a b j es) ρ m) N T := by
  show Wo ((evEs C o es ρ m).go ρ fun ds m1 => match ds with
    | [y, z] => (evE C o a ρ m1).go ρ fun d m2 => (evE C o b ρ m2).go ρ fun k m3 => O.ofM (setD d k y m3) fun m4 => if j < ρ.length then .nx (ρ.set j (some z)) m4 else .bad
    | _ => .bad) N T
  rw [Wo_go]
  refine h.imp fun ds m1 ⟨y, z, e, q⟩ => ?_
  subst e
  dsimp only
  rw [Wo_go]
  refine q.imp fun d m2 q => ?_
  rw [Wo_go]
  refine q.imp fun k m3 ⟨m4, h1, h2, h3⟩ => ?_
  rw [h1, Wo_ofM]
  refine ⟨m4, rfl, ?_⟩
  rw [if_pos h2]
  exact h3
/-- a comprehension with a filter -/
theorem lcp_filter {tg : D → Rho → Option Rho} {cd : Rho → Mem → R Bool} {el : Rho → Mem → R D} {p : D → Bool} : ∀ (xs acc : List D), (∀ x ∈ xs, ∃ ρ', tg x ρ = some ρ' ∧ cd ρ' m = .ok (p x) m ∧ el ρ' m = .ok x m) → lcpL none tg cd el ρ xs acc m = .ok (.lst (acc ++ xs.filter p)) m
  | [], acc, _ => by
    unfold lcpL
    rw [if_pos (show ckD none m = true from rfl), List.filter_nil, List.append_nil]
  | x :: xs, acc, h => by
    obtain ⟨ρ', h1, h2, h3⟩ := h x List.mem_cons_self
    unfold lcpL
    rw [if_pos (show ckD none m = true from rfl), h1]
    dsimp only
    rw [h2, R.bind_ok]
    cases hp : p x with
    | true =>
      rw [if_pos rfl, h3, R.bind_ok, lcp_filter xs (acc ++ [x]) fun y hy => h y (List.mem_cons_of_mem _ hy), List.filter_cons, if_pos hp, List.append_assoc]; rfl
    | false =>
      rw [if_neg (by decide), lcp_filter xs acc fun y hy => h y (List.mem_cons_of_mem _ hy), List.filter_cons, if_neg (by rw [hp]; decide)]
theorem w_lcpF {own : List (Str × Nat)} {t : Tg} (h : Wr (evE C o a ρ m) fun d m1 => ∃ xs, itsD m1 d = some xs ∧ (∀ n, d ≠ .ref n) ∧ xs.length ≤ lim ∧ Wr (lcpL none (tgD t) (fun ρ' m => calmR (tst (evE C o c ρ' m))) (fun ρ' m => calmR (evE C o e ρ' m)) (wipeR ρ (own.map (·.2))) xs [] m1) Q) : Wr (evE C o (.lcp own t (.ex a) (.yes c) e) ρ m) Q := by
  have e1 : evE C o (.lcp own t (.ex a) (.yes c) e) ρ m = (((evE C o a ρ m).bind fun d m1 => match d with
    | .ref n => match m1[n]? with
      | some (.lst xs) => .ok (xs, some (n, xs)) m1
      | _ => .bad
    | d => R.of ((itsD m1 d).map fun xs => (xs, none)) m1).bind fun xs m1 => if lim < xs.1.length then .bad else lcpL xs.2 (tgD t) (fun ρ' m => calmR (tst (evE C o c ρ' m))) (fun ρ' m => calmR (evE C o e ρ' m)) (wipeR ρ (own.map (·.2))) xs.1 [] m1) := rfl
  rw [e1, Wr_bind, Wr_bind]
  refine h.imp fun d m1 ⟨xs, h1, h2, h3, h4⟩ => ?_
  cases d with
  | ref n => exact absurd rfl (h2 n)
  | _ =>
    dsimp only
    rw [h1, Option.map_some, R.of_some, Wr_ok]
    dsimp only
    rw [if_neg (by omega)]
    exact h4
end
/-- a call whose own cells are forgotten -/
theorem call_eqG {T : List Fn} {w k i : Nat} {fn : Fn} {ds : List D} {d : D} {m : Mem} (hT : T[i]? = some fn) (hl : ds.length = fn.np) (hb : bel 0 d = true) (hds : bels 0 ds = true) (h : Wo (exSs (callAt T w k) (loAt T w k) w fn.body (startR fn.ns ds) []) (fun _ _ => d = .non) fun e _ => e = d) : callAt T w (k + 1) i ds m = .ok d m := by
  rw [callAt_succ, hT]
  show runFn (callAt T w k) (loAt T w k) w fn ds m = _
  unfold runFn
  rw [if_pos hl]
  refine isoR_ok hb hds (m' := []) ?_ fun _ => rfl
  revert h
  cases exSs (callAt T w k) (loAt T w k) w fn.body (startR fn.ns ds) [] with
  | rt e m' =>
    intro h
    obtain rfl : e = d := h
    show gcR [] (.ok e m') = _
    unfold gcR
    dsimp only
    rw [if_pos (show keepC ([] : Mem).length [] m' = true from rfl), if_pos (show bel ([] : Mem).length e = true from hb)]
    rfl
  | nx ρ' m' =>
    intro h
    have h : d = .non := h
    subst h
    show gcR [] (.ok .non m') = _
    unfold gcR
    dsimp only
    rw [if_pos (show keepC ([] : Mem).length [] m' = true from rfl), if_pos (show bel ([] : Mem).length .non = true from rfl)]
    rfl
  | bk _ _ => exact fun h => False.elim h
  | ct _ _ => exact fun h => False.elim h
  | ex _ _ _ _ => exact fun h => False.elim h
  | bad => exact fun h => False.elim h
/-- the same with cells told -/
theorem call_eqM {T : List Fn} {w k i : Nat} {fn : Fn} {ds : List D} {d : D} {m : Mem} (hT : T[i]? = some fn) (hl : ds.length = fn.np) (hb : bel m.length d = true) (hds : bels 0 ds = false) (h : Wo (exSs (callAt T w k) (loAt T w k) w fn.body (startR fn.ns ds) m) (fun _ _ => False) fun e m' => e = d ∧ ∃ more, m' = m ++ more) : callAt T w (k + 1) i ds m = .ok d m := by
  rw [callAt_succ, hT]
  show runFn (callAt T w k) (loAt T w k) w fn ds m = _
  unfold runFn
  rw [if_pos hl, isoR_run (.inr hds)]
  revert h
  cases exSs (callAt T w k) (loAt T w k) w fn.body (startR fn.ns ds) m with
  | rt e m' =>
    rintro ⟨rfl, more, rfl⟩
    show gcR m (.ok e (m ++ more)) = _
    unfold gcR
    dsimp only
    rw [if_pos (keepC_same _ _ _), if_pos hb, List.take_left]
  | nx _ _ => exact fun h => False.elim h
  | bk _ _ => exact fun h => False.elim h
  | ct _ _ => exact fun h => False.elim h
  | ex _ _ _ _ => exact fun h => False.elim h
  | bad => exact fun h => False.elim h
section
variable {C : Nat → List D → Mem → R D} {o : Lo} {w : Nat}
/-- range of what is reckoned, cells changing -/
theorem wo_forRW {t : Tg} {a : Ex} {b : Ss} {ρ : Rho} {m : Mem} {N : Rho → Mem → Prop} {T : D → Mem → Prop} (h : Wr (evE C o a ρ m) fun d m1 => ∃ i : Int, d = .int i ∧ -1 ≤ i ∧ i ≤ lim ∧ Wo (forL none (tgD t) (fun ρ' m' => exSs C o w b ρ' m') ((List.range i.toNat).map fun (j : Nat) => D.int (0 + (j : Int))) ρ m1) N T) : Wo (exS C o w (.fors t (.rng1 a) b) ρ m) N T := by
  have e1 : exS C o w (.fors t (.rng1 a) b) ρ m = ((evE C o a ρ m).bind fun d m1 => match d with | .int i => R.of ((rngD 0 i).map fun xs => (xs, none)) m1 | _ => .bad).go ρ fun xs m1 => forL xs.2 (tgD t) (fun ρ' m' => exSs C o w b ρ' m') xs.1 ρ m1 := rfl
  rw [e1, Wo_go, Wr_bind]
  refine h.imp fun d m1 ⟨i, e, h1, h2, h3⟩ => ?_
  subst e
  dsimp only
  rw [rng_nat i.toNat rfl h1 h2, Option.map_some, R.of_some, Wr_ok]
  exact h3
theorem w_join {es : Exs} {ρ : Rho} {m : Mem} {Q : D → Mem → Prop} : Wr (evE C o (.bm .join (.lit (.str (Str.ofString ""))) es) ρ m) Q = Wr (evEs C o es ρ m) fun ds m2 => Wr (joinD (.str (Str.ofString "")) ds m2) Q := by rw [ev_join, Wr_bind]
end
end EV

namespace K02
open PySem PySem.Spec PyProof.Rows L2 EV
def topS (n : Nat) : Stmt := PySem.Challenge.pw_chainclaims_k02_whole_roads_and_lost_cel.main.body.getD n (.Pass ⟨0, 0, 0, 0⟩)
def b0 : Ss := (.cons (.ret (.and (.isi (.var 0) [.int]) (.not (.isi (.var 0) [.bool])))) .nil)
def b1 : Ss := (.cons (.ret (.and (.call 0 (.cons (.var 0) .nil)) (.cmp2 .LtE .LtE (.var 1) (.var 0) (.var 2)))) .nil)
def b2 : Ss := (.cons (.ifs (.or (.not (.isi (.var 0) [.str])) (.or (.not (.cmp2 .LtE .LtE (.lit (.int 1)) (.bi .len (.cons (.var 0) .nil)) (.glo (Str.ofString "MOST_LETTERS") (.int 8)))) (.cmp .In (.var 0) (.glo (Str.ofString "BOUND_WORDS") (.tup [(.str (Str.ofString "nil")), (.str (Str.ofString "new")), (.str (Str.ofString "free")), (.str (Str.ofString "if")), (.str (Str.ofString "else")), (.str (Str.ofString "while")), (.str (Str.ofString "keep")), (.str (Str.ofString "emp"))]))))) (.cons (.ret (.lit (.bool false))) .nil) .nil) (.cons (.ret (.bi .all (.cons (.lcp [((Str.ofString "sign"), 1)] (.nm 1) (.ex (.var 0)) .no (.cmp .In (.var 1) (.glo (Str.ofString "LETTERS") (.str (Str.ofString "abcdefghijklmnopqrstuvwxyz"))))) .nil))) .nil))
def b3 : Ss := (.cons (.ret (.or (.call 2 (.cons (.var 0) .nil)) (.and (.isi (.var 0) [.str]) (.cmp .Eq (.var 0) (.glo (Str.ofString "NIL") (.str (Str.ofString "nil"))))))) .nil)
def b4 : Ss := (.cons (.ret (.call 1 (.cons (.var 0) (.cons (.lit (.int 0)) (.cons (.bin .Sub (.glo (Str.ofString "MOST_PLACE") (.int 1000000000)) (.lit (.int 1))) .nil))))) .nil)
def b5 : Ss := (.cons (.ret (.and (.isi (.var 0) [.tuple]) (.cmp2 .LtE .LtE (.var 1) (.bi .len (.cons (.var 0) .nil)) (.var 2)))) .nil)
def b6 : Ss := (.cons (.ret (.bi .all (.cons (.lcp [((Str.ofString "at"), 1)] (.nm 1) (.rng1 (.bin .Sub (.bi .len (.cons (.var 0) .nil)) (.lit (.int 1)))) .no (.cmp .Lt (.idx (.var 0) (.var 1)) (.idx (.var 0) (.bin .Add (.var 1) (.lit (.int 1)))))) .nil))) .nil)
def b7 : Ss := (.cons (.ifs (.or (.not (.call 5 (.cons (.var 0) (.cons (.lit (.int 0)) (.cons (.glo (Str.ofString "MOST_NAMES") (.int 8)) .nil))))) (.not (.bi .all (.cons (.lcp [((Str.ofString "pair"), 1)] (.nm 1) (.ex (.var 0)) .no (.call 5 (.cons (.var 1) (.cons (.lit (.int 2)) (.cons (.lit (.int 2)) .nil))))) .nil)))) (.cons (.ret (.lit (.bool false))) .nil) .nil) (.cons (.ifs (.not (.bi .all (.cons (.lcp [((Str.ofString "pair"), 1)] (.nm 1) (.ex (.var 0)) .no (.and (.call 2 (.cons (.idx (.var 1) (.lit (.int 0))) .nil)) (.call 4 (.cons (.idx (.var 1) (.lit (.int 1))) .nil)))) .nil))) (.cons (.ret (.lit (.bool false))) .nil) .nil) (.cons (.ret (.call 6 (.cons (.lcp [((Str.ofString "pair"), 1)] (.nm 1) (.ex (.var 0)) .no (.idx (.var 1) (.lit (.int 0)))) .nil))) .nil)))
def b8 : Ss := (.cons (.ifs (.or (.not (.call 5 (.cons (.var 0) (.cons (.lit (.int 0)) (.cons (.glo (Str.ofString "MOST_CELLS") (.int 60)) .nil))))) (.not (.bi .all (.cons (.lcp [((Str.ofString "pair"), 1)] (.nm 1) (.ex (.var 0)) .no (.call 5 (.cons (.var 1) (.cons (.lit (.int 2)) (.cons (.lit (.int 2)) .nil))))) .nil)))) (.cons (.ret (.lit (.bool false))) .nil) .nil) (.cons (.ifs (.not (.bi .all (.cons (.lcp [((Str.ofString "pair"), 1)] (.nm 1) (.ex (.var 0)) .no (.and (.call 4 (.cons (.idx (.var 1) (.lit (.int 0))) .nil)) (.and (.call 4 (.cons (.idx (.var 1) (.lit (.int 1))) .nil)) (.cmp .Gt (.idx (.var 1) (.lit (.int 0))) (.lit (.int 0)))))) .nil))) (.cons (.ret (.lit (.bool false))) .nil) .nil) (.cons (.ret (.call 6 (.cons (.lcp [((Str.ofString "pair"), 1)] (.nm 1) (.ex (.var 0)) .no (.idx (.var 1) (.lit (.int 0)))) .nil))) .nil)))
def b9 : Ss := (.cons (.ret (.and (.call 5 (.cons (.var 0) (.cons (.lit (.int 2)) (.cons (.lit (.int 2)) .nil)))) (.and (.call 7 (.cons (.idx (.var 0) (.lit (.int 0))) .nil)) (.call 8 (.cons (.idx (.var 0) (.lit (.int 1))) .nil))))) .nil)
def b10 : Ss := (.cons (.ifs (.not (.call 9 (.cons (.var 0) .nil))) (.cons (.rai 5 .nil) .nil) .nil) .nil)
def b11 : Ss := (.cons (.ret (.ife (.cmp .Eq (.var 1) (.glo (Str.ofString "NIL") (.str (Str.ofString "nil")))) (.lit (.int 0)) (.idx (.var 0) (.var 1)))) .nil)
def b12 : Ss := (.cons (.ifs (.not (.call 7 (.cons (.var 0) .nil))) (.cons (.rai 1 .nil) .nil) .nil) (.cons (.ifs (.not (.call 3 (.cons (.var 1) .nil))) (.cons (.rai 2 .nil) .nil) .nil) (.cons (.asg (.nm 2) (.bi .dict (.cons (.var 0) .nil))) (.cons (.ifs (.and (.cmp .NotEq (.var 1) (.glo (Str.ofString "NIL") (.str (Str.ofString "nil")))) (.cmp .NotIn (.var 1) (.var 2))) (.cons (.rai 6 (.cons (.var 1) .nil)) .nil) .nil) (.cons (.ret (.call 11 (.cons (.var 2) (.cons (.var 1) .nil)))) .nil)))))
def b13 : Ss := (.cons (.ifs (.not (.call 8 (.cons (.var 0) .nil))) (.cons (.rai 3 .nil) .nil) .nil) (.cons (.ifs (.not (.call 4 (.cons (.var 1) .nil))) (.cons (.rai 4 .nil) .nil) .nil) .nil))
def b14 : Ss := (.cons (.expr (.call 13 (.cons (.var 0) (.cons (.var 1) .nil)))) (.cons (.ret (.dget (.bi .dict (.cons (.var 0) .nil)) (.var 1) (.lit .none))) .nil))
def b15 : Ss := (.cons (.par [2, 3] (.cons (.alc (.dsp .nil)) (.cons (.var 1) .nil))) (.cons (.whl (.and (.cmp .In (.var 3) (.var 0)) (.cmp .NotIn (.var 3) (.var 2))) (.cons (.seti (.var 2) (.var 3) (.lit (.bool true))) (.cons (.asg (.nm 3) (.idx (.var 0) (.var 3))) .nil))) (.cons (.ret (.tup (.cons (.bi .list (.cons (.var 2) .nil)) (.cons (.var 3) .nil)))) .nil)))
def b16 : Ss := (.cons (.expr (.call 13 (.cons (.var 0) (.cons (.var 1) .nil)))) (.cons (.asg (.tp (.cons (.nm 2) (.cons (.nm 3) .nil))) (.call 15 (.cons (.bi .dict (.cons (.var 0) .nil)) (.cons (.var 1) .nil)))) (.cons (.ret (.tup (.cons (.bi .tuple (.cons (.var 2) .nil)) (.cons (.var 3) .nil)))) .nil)))
def b17 : Ss := (.cons (.asg (.tp (.cons (.nm 1) (.cons (.nm 2) .nil))) (.tup (.cons (.bi .dict (.cons (.idx (.var 0) (.lit (.int 1))) .nil)) (.cons (.alc (.dsp .nil)) .nil)))) (.cons (.fors (.tp (.cons (.nm 3) (.cons (.nm 4) .nil))) (.ex (.idx (.var 0) (.lit (.int 0)))) (.cons (.fors (.nm 5) (.ex (.idx (.call 15 (.cons (.var 1) (.cons (.var 4) .nil))) (.lit (.int 0)))) (.cons (.seti (.var 2) (.var 5) (.lit (.bool true))) .nil)) .nil)) (.cons (.ret (.lcp [((Str.ofString "place"), 4)] (.nm 4) (.ex (.bi .sorted (.cons (.var 1) .nil))) (.yes (.cmp .NotIn (.var 4) (.var 2))) (.var 4))) .nil)))
def b18 : Ss := (.cons (.expr (.call 10 (.cons (.var 0) .nil))) (.cons (.ret (.bi .tuple (.cons (.call 17 (.cons (.var 0) .nil)) .nil))) .nil))
def b19 : Ss := (.cons (.asg (.nm 1) (.lcp [((Str.ofString "cell"), 2)] (.nm 2) (.ex (.slc (.var 0) .no (.yes (.lit (.int 63))))) .no (.bin .Mod (.bi .abs (.cons (.bi .int (.cons (.var 2) .nil)) .nil)) (.bin .Pow (.lit (.int 10)) (.lit (.int 60)))))) (.cons (.ret (.alc (.lst (.cons (.var 1) (.cons (.lit (.int 0)) (.cons (.lit (.int 0)) (.cons (.bin .Add (.lit (.int 7013)) (.bin .Mult (.lit (.int 17)) (.bi .len (.cons (.var 1) .nil)))) (.cons (.lit (.int 0)) .nil)))))))) .nil))
def b20 : Ss := (.cons (.ifs (.and (.cmp .Eq (.idx (.var 0) (.lit (.int 2))) (.lit (.int 0))) (.cmp .Lt (.idx (.var 0) (.lit (.int 1))) (.bi .len (.cons (.idx (.var 0) (.lit (.int 0))) .nil)))) (.cons (.asg (.nm 3) (.idx (.idx (.var 0) (.lit (.int 0))) (.idx (.var 0) (.lit (.int 1))))) (.cons (.seti (.var 0) (.lit (.int 1)) (.bin .Add (.idx (.var 0) (.lit (.int 1))) (.lit (.int 1)))) (.cons (.seti (.var 0) (.lit (.int 3)) (.bin .Mod (.bi .int (.cons (.bin .Add (.bin .Add (.bin .Mult (.idx (.var 0) (.lit (.int 3))) (.lit (.int 69621))) (.bin .Mult (.var 3) (.lit (.int 48271)))) (.lit (.int 53))) .nil)) (.lit (.int 2147483629)))) (.cons (.ifs (.cmp .GtE (.var 3) (.bin .Pow (.lit (.int 10)) (.lit (.int 18)))) (.cons (.seti (.var 0) (.lit (.int 2)) (.var 3)) .nil) .nil) .nil)))) .nil) (.cons (.ifs (.cmp .Gt (.idx (.var 0) (.lit (.int 2))) (.lit (.int 0))) (.cons (.asg (.nm 4) (.bin .Mod (.bi .int (.cons (.idx (.var 0) (.lit (.int 2))) .nil)) (.var 1))) (.cons (.seti (.var 0) (.lit (.int 2)) (.bin .FloorDiv (.idx (.var 0) (.lit (.int 2))) (.var 1))) (.cons (.ret (.var 4)) .nil))) .nil) (.cons (.seti (.var 0) (.lit (.int 4)) (.bin .Add (.idx (.var 0) (.lit (.int 4))) (.lit (.int 1)))) (.cons (.asg (.nm 2) (.bin .Mod (.bi .int (.cons (.bin .Mult (.bi .int (.cons (.bin .Add (.idx (.var 0) (.lit (.int 3))) (.bin .Mult (.lit (.int 7919)) (.idx (.var 0) (.lit (.int 4))))) .nil)) (.lit (.int 40692))) .nil)) (.lit (.int 2147483647)))) (.cons (.asg (.nm 2) (.bin .Mod (.bi .int (.cons (.bin .Mult (.var 2) (.bin .Add (.bin .FloorDiv (.var 2) (.lit (.int 1009))) (.lit (.int 69621)))) .nil)) (.lit (.int 2147483647)))) (.cons (.asg (.nm 2) (.bin .Mod (.bi .int (.cons (.bin .Mult (.var 2) (.bin .Add (.bin .FloorDiv (.var 2) (.lit (.int 2003))) (.lit (.int 40014)))) .nil)) (.lit (.int 2147483563)))) (.cons (.ret (.bin .Mod (.bi .int (.cons (.bin .FloorDiv (.var 2) (.lit (.int 16))) .nil)) (.var 1))) .nil)))))))
def b21 : Ss := (.cons (.ret (.idx (.var 1) (.call 20 (.cons (.var 0) (.cons (.bi .len (.cons (.var 1) .nil)) .nil))))) .nil)
def b22 : Ss := (.cons (.ifs (.isi (.var 1) [.tuple, .list]) (.cons (.ifs (.or (.cmp .NotEq (.isi (.var 0) [.tuple]) (.isi (.var 1) [.tuple])) (.not (.isi (.var 0) [.tuple, .list]))) (.cons (.ret (.lit (.bool false))) .nil) .nil) (.cons (.ret (.and (.cmp .Eq (.bi .len (.cons (.var 0) .nil)) (.bi .len (.cons (.var 1) .nil))) (.bi .all (.cons (.lcp [((Str.ofString "one"), 2), ((Str.ofString "other"), 3)] (.tp (.cons (.nm 2) (.cons (.nm 3) .nil))) (.zip (.var 0) (.var 1)) .no (.call 22 (.cons (.var 2) (.cons (.var 3) .nil)))) .nil)))) .nil)) .nil) (.cons (.ifs (.or (.cmp .Is (.var 1) (.lit .none)) (.isi (.var 1) [.bool])) (.cons (.ret (.ife (.cmp .Is (.var 1) (.lit .none)) (.cmp .Is (.var 0) (.lit .none)) (.and (.isi (.var 0) [.bool]) (.cmp .Eq (.bi .repr (.cons (.var 0) .nil)) (.bi .repr (.cons (.var 1) .nil)))))) .nil) .nil) (.cons (.ifs (.isi (.var 1) [.str]) (.cons (.ret (.and (.isi (.var 0) [.str]) (.cmp .Eq (.bi .repr (.cons (.var 0) .nil)) (.bi .repr (.cons (.var 1) .nil))))) .nil) .nil) (.cons (.ret (.and (.isi (.var 0) [.int]) (.and (.not (.isi (.var 0) [.bool])) (.cmp .Eq (.bi .repr (.cons (.var 0) .nil)) (.bi .repr (.cons (.var 1) .nil)))))) .nil))))
def b23 : Ss := (.cons (.ret (.bin .Add (.lit (.int 1)) (.call 20 (.cons (.var 0) (.cons (.bin .Sub (.bin .Pow (.lit (.int 10)) (.lit (.int 9))) (.lit (.int 1))) .nil))))) .nil)
def b24 : Ss := (.cons (.par [2, 3, 4] (.cons (.alc (.dsp .nil)) (.cons (.alc (.lst (.cons (.lit (.int 0)) .nil))) (.cons (.call 21 (.cons (.var 0) (.cons (.lst (.cons (.lit (.int 0)) (.cons (.lit (.int 1)) (.cons (.lit (.int 3)) (.cons (.lit (.int 6)) (.cons (.lit (.int 20)) (.cons (.lit (.int 60)) .nil))))))) .nil))) .nil)))) (.cons (.fors (.nm 1) (.rng1 (.lit (.int 8))) (.cons (.asg (.nm 5) (.ife (.cmp .Gt (.call 20 (.cons (.var 0) (.cons (.lit (.int 4)) .nil))) (.lit (.int 0))) (.call 23 (.cons (.var 0) .nil)) (.call 21 (.cons (.var 0) (.cons (.var 3) .nil))))) (.cons (.fors (.nm 6) (.rng1 (.call 21 (.cons (.var 0) (.cons (.lst (.cons (.lit (.int 0)) (.cons (.lit (.int 1)) (.cons (.lit (.int 2)) (.cons (.lit (.int 5)) (.cons (.var 4) .nil)))))) .nil)))) (.cons (.ifs (.and (.cmp .Gt (.var 5) (.lit (.int 0))) (.and (.cmp .NotIn (.var 5) (.var 2)) (.cmp .Lt (.bi .len (.cons (.var 2) .nil)) (.var 4)))) (.cons (.asg (.nm 7) (.ife (.cmp .Gt (.call 20 (.cons (.var 0) (.cons (.lit (.int 6)) .nil))) (.lit (.int 0))) (.call 23 (.cons (.var 0) .nil)) (.call 21 (.cons (.var 0) (.cons (.bin .Add (.var 3) (.lst (.cons (.var 5) .nil))) .nil))))) (.cons (.sasg (.var 2) (.var 5) 5 (.cons (.var 7) (.cons (.var 7) .nil))) (.cons (.expr (.bm .append (.var 3) (.cons (.var 7) .nil))) .nil))) .nil) .nil)) .nil))) (.cons (.ret (.tup (.cons (.var 2) (.cons (.var 3) .nil)))) .nil)))
def b25 : Ss := (.cons (.asg (.nm 3) (.alc (.dsp .nil))) (.cons (.fors (.nm 4) (.rng1 (.call 20 (.cons (.var 0) (.cons (.lit (.int 9)) .nil)))) (.cons (.asg (.nm 5) (.bin .Add (.lit (.int 1)) (.call 20 (.cons (.var 0) (.cons (.lit (.int 8)) .nil))))) (.cons (.asg (.nm 6) (.bm .join (.lit (.str (Str.ofString ""))) (.cons (.lcp [((Str.ofString "k"), 8)] (.nm 8) (.rng1 (.var 5)) .no (.idx (.lit (.str (Str.ofString "abcdefghijklmnopqrstuvwxyz"))) (.call 20 (.cons (.var 0) (.cons (.lit (.int 26)) .nil))))) .nil))) (.cons (.asg (.nm 7) (.lst (.cons (.lit (.int 0)) (.cons (.call 23 (.cons (.var 0) .nil)) (.cons (.call 21 (.cons (.var 0) (.cons (.var 2) .nil))) (.cons (.call 21 (.cons (.var 0) (.cons (.bin .Add (.bi .sorted (.cons (.var 1) .nil)) (.lst (.cons (.lit (.int 5)) .nil))) .nil))) .nil)))))) (.cons (.ifs (.cmp .NotIn (.var 6) (.lst (.cons (.lit (.str (Str.ofString "nil"))) (.cons (.lit (.str (Str.ofString "new"))) (.cons (.lit (.str (Str.ofString "free"))) (.cons (.lit (.str (Str.ofString "if"))) (.cons (.lit (.str (Str.ofString "else"))) (.cons (.lit (.str (Str.ofString "while"))) (.cons (.lit (.str (Str.ofString "keep"))) (.cons (.lit (.str (Str.ofString "emp"))) .nil)))))))))) (.cons (.seti (.var 3) (.var 6) (.call 21 (.cons (.var 0) (.cons (.var 7) .nil)))) .nil) .nil) .nil))))) (.cons (.ret (.var 3)) .nil)))
def b26 : Ss := (.cons (.asg (.nm 2) (.alc (.lst .nil))) (.cons (.fors (.nm 3) (.rng1 (.bin .Add (.bi .len (.cons (.var 0) .nil)) (.lit (.int 1)))) (.cons (.ifs (.or (.cmp .NotIn (.var 1) (.var 0)) (.cmp .In (.var 1) (.var 2))) (.cons (.ret (.tup (.cons (.bi .tuple (.cons (.var 2) .nil)) (.cons (.var 1) .nil)))) .nil) .nil) (.cons (.expr (.bm .append (.var 2) (.cons (.var 1) .nil))) (.cons (.asg (.nm 1) (.idx (.var 0) (.var 1))) .nil)))) (.cons (.ret (.tup (.cons (.bi .tuple (.cons (.var 2) .nil)) (.cons (.var 1) .nil)))) .nil)))
def b27 : Ss := (.cons .nev (.cons (.ret (.lit (.str (Str.ofString "none")))) .nil))
def b28 : Ss := (.cons (.asg (.nm 3) (.bi .tuple (.cons (.itm (.var 1)) .nil))) (.cons (.fors (.nm 4) (.ex (.bin .Add (.bin .Add (.bi .sorted (.cons (.var 1) .nil)) (.var 2)) (.lst (.cons (.call 23 (.cons (.var 0) .nil)) (.cons (.lit (.int 0)) (.cons (.bin .Sub (.bin .Pow (.lit (.int 10)) (.lit (.int 9))) (.lit (.int 1))) .nil)))))) (.cons (.ifs (.not (.call 22 (.cons (.call 14 (.cons (.var 3) (.cons (.var 4) .nil))) (.cons (.dget (.var 1) (.var 4) (.lit .none)) .nil)))) (.cons (.ret (.lit (.bool false))) .nil) .nil) (.cons (.ifs (.not (.call 22 (.cons (.call 16 (.cons (.var 3) (.cons (.var 4) .nil))) (.cons (.call 26 (.cons (.var 1) (.cons (.var 4) .nil))) .nil)))) (.cons (.ret (.lit (.bool false))) .nil) .nil) .nil))) (.cons (.ret (.lit (.bool true))) .nil)))
def b29 : Ss := (.cons (.asg (.tp (.cons (.nm 6) (.cons (.nm 7) .nil))) (.tup (.cons (.bi .tuple (.cons (.itm (.var 1)) .nil)) (.cons (.lst .nil) .nil)))) (.cons (.asg (.nm 3) (.bi .tuple (.cons (.itm (.var 2)) .nil))) (.cons (.fors (.nm 4) (.ex (.bi .sorted (.cons (.var 1) .nil))) (.cons (.ifs (.not (.call 22 (.cons (.call 12 (.cons (.var 6) (.cons (.var 4) .nil))) (.cons (.idx (.var 1) (.var 4)) .nil)))) (.cons (.ret (.lit (.bool false))) .nil) .nil) (.cons (.asg (.nm 7) (.bin .Add (.var 7) (.bi .list (.cons (.idx (.call 26 (.cons (.var 2) (.cons (.idx (.var 1) (.var 4)) .nil))) (.lit (.int 0))) .nil)))) .nil))) (.cons (.asg (.nm 5) (.bi .tuple (.cons (.lcp [((Str.ofString "place"), 8)] (.nm 8) (.ex (.bi .sorted (.cons (.var 2) .nil))) (.yes (.cmp .NotIn (.var 8) (.var 7))) (.var 8)) .nil))) (.cons (.ifs (.or (.not (.call 22 (.cons (.call 18 (.cons (.tup (.cons (.var 6) (.cons (.var 3) .nil))) .nil)) (.cons (.var 5) .nil)))) (.not (.call 22 (.cons (.call 12 (.cons (.var 6) (.cons (.lit (.str (Str.ofString "nil"))) .nil))) (.cons (.lit (.int 0)) .nil))))) (.cons (.ret (.lit (.bool false))) .nil) .nil) (.cons (.asg (.nm 4) (.call 21 (.cons (.var 0) (.cons (.bin .Add (.lst (.cons (.lit (.str (Str.ofString "nilx"))) (.cons (.lit (.str (Str.ofString "m"))) (.cons (.lit (.str (Str.ofString "zzzzzzzz"))) (.cons (.lit (.str (Str.ofString "a"))) .nil))))) (.lcp [((Str.ofString "one"), 9)] (.nm 9) (.ex (.bi .sorted (.cons (.var 1) .nil))) .no (.rev (.var 9)))) .nil)))) (.cons (.ifs (.or (.cmp .In (.var 4) (.var 1)) (.cmp .In (.var 4) (.lst (.cons (.lit (.str (Str.ofString "nil"))) (.cons (.lit (.str (Str.ofString "new"))) (.cons (.lit (.str (Str.ofString "free"))) (.cons (.lit (.str (Str.ofString "if"))) (.cons (.lit (.str (Str.ofString "else"))) (.cons (.lit (.str (Str.ofString "while"))) (.cons (.lit (.str (Str.ofString "keep"))) (.cons (.lit (.str (Str.ofString "emp"))) .nil))))))))))) (.cons (.ret (.lit (.bool true))) .nil) .nil) (.cons (.ret (.call 22 (.cons (.lamc 27 (.call 12 (.cons (.var 6) (.cons (.var 4) .nil)))) (.cons (.tup (.cons (.lit (.str (Str.ofString "name"))) (.cons (.var 4) .nil))) .nil)))) .nil))))))))
def b30 : Ss := (.cons (.asg (.nm 1) (.call 19 (.cons (.var 0) .nil))) (.cons (.fors (.nm 2) (.rng1 (.lit (.int 3))) (.cons (.asg (.tp (.cons (.nm 4) (.cons (.nm 6) .nil))) (.call 24 (.cons (.var 1) .nil))) (.cons (.ifs (.not (.call 28 (.cons (.var 1) (.cons (.var 4) (.cons (.var 6) .nil))))) (.cons (.ret (.lit (.bool false))) .nil) .nil) (.cons (.fors (.nm 5) (.rng1 (.lit (.int 2))) (.cons (.ifs (.not (.call 29 (.cons (.var 1) (.cons (.call 25 (.cons (.var 1) (.cons (.var 4) (.cons (.var 6) .nil)))) (.cons (.var 4) .nil))))) (.cons (.ret (.lit (.bool false))) .nil) .nil) .nil)) .nil)))) (.cons (.asg (.nm 3) (.bin .Add (.bin .Mod (.bi .int (.cons (.call 23 (.cons (.var 1) .nil)) .nil)) (.bin .Sub (.bin .Pow (.lit (.int 10)) (.lit (.int 9))) (.lit (.int 61)))) (.lit (.int 1)))) (.cons (.asg (.nm 4) (.alc (.bi .dict (.cons (.lcp [((Str.ofString "k"), 7)] (.nm 7) (.rng1 (.lit (.int 60))) .no (.tup (.cons (.bin .Add (.var 3) (.var 7)) (.cons (.bin .Add (.bin .Add (.var 3) (.var 7)) (.lit (.int 1))) .nil)))) .nil)))) (.cons (.ifs (.cmp .Eq (.call 20 (.cons (.var 1) (.cons (.lit (.int 2)) .nil))) (.lit (.int 0))) (.cons (.seti (.var 4) (.bin .Add (.var 3) (.lit (.int 59))) (.bin .Add (.var 3) (.call 20 (.cons (.var 1) (.cons (.lit (.int 60)) .nil))))) .nil) .nil) (.cons (.ret (.and (.call 28 (.cons (.var 1) (.cons (.var 4) (.cons (.lst .nil) .nil)))) (.call 29 (.cons (.var 1) (.cons (.dsp (.cons (.lit (.str (Str.ofString "b"))) (.bin .Add (.var 3) (.lit (.int 7))) (.cons (.lit (.str (Str.ofString "c"))) (.lit (.int 0)) .nil))) (.cons (.var 4) .nil)))))) .nil))))))
def f0 : Fn := ⟨(Str.ofString "is_integer"), 1, 1, b0, none, false, (Str.ofString "is_integer"), none⟩
def f1 : Fn := ⟨(Str.ofString "is_within"), 3, 3, b1, none, false, (Str.ofString "is_within"), none⟩
def f2 : Fn := ⟨(Str.ofString "is_name"), 1, 2, b2, none, false, (Str.ofString "is_name"), none⟩
def f3 : Fn := ⟨(Str.ofString "is_term"), 1, 1, b3, none, false, (Str.ofString "is_term"), none⟩
def f4 : Fn := ⟨(Str.ofString "is_place"), 1, 1, b4, none, false, (Str.ofString "is_place"), none⟩
def f5 : Fn := ⟨(Str.ofString "is_sized"), 3, 3, b5, none, false, (Str.ofString "is_sized"), none⟩
def f6 : Fn := ⟨(Str.ofString "are_rising"), 1, 2, b6, none, false, (Str.ofString "are_rising"), none⟩
def f7 : Fn := ⟨(Str.ofString "is_stack"), 1, 2, b7, none, false, (Str.ofString "is_stack"), none⟩
def f8 : Fn := ⟨(Str.ofString "is_heap"), 1, 2, b8, none, false, (Str.ofString "is_heap"), none⟩
def f9 : Fn := ⟨(Str.ofString "is_state"), 1, 1, b9, none, false, (Str.ofString "is_state"), none⟩
def f10 : Fn := ⟨(Str.ofString "check_state"), 1, 1, b10, none, false, (Str.ofString "check_state"), none⟩
def f11 : Fn := ⟨(Str.ofString "raw_worth"), 2, 2, b11, none, false, (Str.ofString "raw_worth"), none⟩
def f12 : Fn := ⟨(Str.ofString "worth_of"), 2, 3, b12, none, false, (Str.ofString "worth_of"), none⟩
def f13 : Fn := ⟨(Str.ofString "check_heap_place"), 2, 2, b13, none, false, (Str.ofString "check_heap_place"), none⟩
def f14 : Fn := ⟨(Str.ofString "points_to"), 2, 2, b14, none, false, (Str.ofString "points_to"), none⟩
def f15 : Fn := ⟨(Str.ofString "raw_road"), 2, 4, b15, none, false, (Str.ofString "raw_road"), none⟩
def f16 : Fn := ⟨(Str.ofString "road_from"), 2, 4, b16, none, false, (Str.ofString "road_from"), none⟩
def f17 : Fn := ⟨(Str.ofString "raw_lost"), 1, 6, b17, none, false, (Str.ofString "raw_lost"), none⟩
def f18 : Fn := ⟨(Str.ofString "lost_cells"), 1, 1, b18, none, false, (Str.ofString "lost_cells"), none⟩
def f19 : Fn := ⟨(Str.ofString "_law_hand"), 1, 3, b19, none, false, (Str.ofString "_law_hand"), none⟩
def f20 : Fn := ⟨(Str.ofString "_law_draw"), 2, 5, b20, none, false, (Str.ofString "_law_draw"), none⟩
def f21 : Fn := ⟨(Str.ofString "_law_some"), 2, 2, b21, none, false, (Str.ofString "_law_some"), none⟩
def f22 : Fn := ⟨(Str.ofString "_law_is"), 2, 4, b22, none, false, (Str.ofString "_law_is"), none⟩
def f23 : Fn := ⟨(Str.ofString "_law_fresh"), 1, 1, b23, none, false, (Str.ofString "_law_fresh"), none⟩
def f24 : Fn := ⟨(Str.ofString "_law_heap"), 1, 8, b24, none, false, (Str.ofString "_law_heap"), none⟩
def f25 : Fn := ⟨(Str.ofString "_law_stack"), 3, 9, b25, none, false, (Str.ofString "_law_stack"), none⟩
def f26 : Fn := ⟨(Str.ofString "_law_road"), 2, 4, b26, none, false, (Str.ofString "_law_road"), none⟩
def f27 : Fn := ⟨(Str.ofString "_law_word"), 1, 2, b27, (some (.d (some (.t (Str.ofString "none"))) [(6, (.tf (Str.ofString "name"))), (0, (.t (Str.ofString "other")))] 7)), false, (Str.ofString "_law_word"), none⟩
def f28 : Fn := ⟨(Str.ofString "_law_are_places_right"), 3, 5, b28, none, false, (Str.ofString "_law_are_places_right"), none⟩
def f29 : Fn := ⟨(Str.ofString "_law_is_stack_right"), 3, 10, b29, none, true, (Str.ofString "_law_is_stack_right"), none⟩
def f30 : Fn := ⟨(Str.ofString "law"), 1, 8, b30, none, false, (Str.ofString "law"), none⟩
def T : List Fn := [f0, f1, f2, f3, f4, f5, f6, f7, f8, f9, f10, f11, f12, f13, f14, f15, f16, f17, f18, f19, f20, f21, f22, f23, f24, f25, f26, f27, f28, f29, f30]
def xs : List Xc := [⟨(Str.ofString "ChainError"), none⟩, ⟨(Str.ofString "NoStack"), none⟩, ⟨(Str.ofString "NoTerm"), none⟩, ⟨(Str.ofString "NoHeap"), none⟩, ⟨(Str.ofString "NoPlace"), none⟩, ⟨(Str.ofString "NoState"), none⟩, ⟨(Str.ofString "NoName"), some (Str.ofString "name")⟩]
def GK : List (Str × D) := [((Str.ofString "LETTERS"), (.str (Str.ofString "abcdefghijklmnopqrstuvwxyz"))), ((Str.ofString "MOST_LETTERS"), (.int 8)), ((Str.ofString "BOUND_WORDS"), (.tup [(.str (Str.ofString "nil")), (.str (Str.ofString "new")), (.str (Str.ofString "free")), (.str (Str.ofString "if")), (.str (Str.ofString "else")), (.str (Str.ofString "while")), (.str (Str.ofString "keep")), (.str (Str.ofString "emp"))])), ((Str.ofString "NIL"), (.str (Str.ofString "nil"))), ((Str.ofString "MOST_PLACE"), (.int 1000000000)), ((Str.ofString "MOST_NAMES"), (.int 8)), ((Str.ofString "MOST_CELLS"), (.int 60))]
theorem r0 : RowOk xs T GK f0 (topS 14) [(Str.ofString "thing")] [(Str.ofString "thing")] :=
  ⟨rfl, rfl, ⟨rfl, rfl, rfl, by decide +kernel, rfl, by decide +kernel, by decide +kernel⟩, by decide +kernel⟩
theorem r1 : RowOk xs T GK f1 (topS 15) [(Str.ofString "thing"), (Str.ofString "low"), (Str.ofString "high")] [(Str.ofString "thing"), (Str.ofString "low"), (Str.ofString "high")] :=
  ⟨rfl, rfl, ⟨rfl, rfl, rfl, by decide +kernel, rfl, by decide +kernel, by decide +kernel⟩, by decide +kernel⟩
theorem r2 : RowOk xs T GK f2 (topS 16) [(Str.ofString "thing"), (Str.ofString "sign")] [(Str.ofString "thing")] :=
  ⟨rfl, rfl, ⟨rfl, rfl, rfl, by decide +kernel, rfl, by decide +kernel, by decide +kernel⟩, by decide +kernel⟩
theorem r3 : RowOk xs T GK f3 (topS 17) [(Str.ofString "thing")] [(Str.ofString "thing")] :=
  ⟨rfl, rfl, ⟨rfl, rfl, rfl, by decide +kernel, rfl, by decide +kernel, by decide +kernel⟩, by decide +kernel⟩
theorem r4 : RowOk xs T GK f4 (topS 18) [(Str.ofString "thing")] [(Str.ofString "thing")] :=
  ⟨rfl, rfl, ⟨rfl, rfl, rfl, by decide +kernel, rfl, by decide +kernel, by decide +kernel⟩, by decide +kernel⟩
theorem r5 : RowOk xs T GK f5 (topS 19) [(Str.ofString "thing"), (Str.ofString "least"), (Str.ofString "most")] [(Str.ofString "thing"), (Str.ofString "least"), (Str.ofString "most")] :=
  ⟨rfl, rfl, ⟨rfl, rfl, rfl, by decide +kernel, rfl, by decide +kernel, by decide +kernel⟩, by decide +kernel⟩
theorem r6 : RowOk xs T GK f6 (topS 20) [(Str.ofString "things"), (Str.ofString "at")] [(Str.ofString "things")] :=
  ⟨rfl, rfl, ⟨rfl, rfl, rfl, by decide +kernel, rfl, by decide +kernel, by decide +kernel⟩, by decide +kernel⟩
theorem r7 : RowOk xs T GK f7 (topS 24) [(Str.ofString "thing"), (Str.ofString "pair")] [(Str.ofString "thing")] :=
  ⟨rfl, rfl, ⟨rfl, rfl, rfl, by decide +kernel, rfl, by decide +kernel, by decide +kernel⟩, by decide +kernel⟩
theorem r8 : RowOk xs T GK f8 (topS 25) [(Str.ofString "thing"), (Str.ofString "pair")] [(Str.ofString "thing")] :=
  ⟨rfl, rfl, ⟨rfl, rfl, rfl, by decide +kernel, rfl, by decide +kernel, by decide +kernel⟩, by decide +kernel⟩
theorem r9 : RowOk xs T GK f9 (topS 26) [(Str.ofString "thing")] [(Str.ofString "thing")] :=
  ⟨rfl, rfl, ⟨rfl, rfl, rfl, by decide +kernel, rfl, by decide +kernel, by decide +kernel⟩, by decide +kernel⟩
theorem r10 : RowOk xs T GK f10 (topS 27) [(Str.ofString "thing")] [(Str.ofString "thing")] :=
  ⟨rfl, rfl, ⟨rfl, rfl, rfl, by decide +kernel, rfl, by decide +kernel, by decide +kernel⟩, by decide +kernel⟩
theorem r11 : RowOk xs T GK f11 (topS 28) [(Str.ofString "stack"), (Str.ofString "term")] [(Str.ofString "stack"), (Str.ofString "term")] :=
  ⟨rfl, rfl, ⟨rfl, rfl, rfl, by decide +kernel, rfl, by decide +kernel, by decide +kernel⟩, by decide +kernel⟩
theorem r12 : RowOk xs T GK f12 (topS 29) [(Str.ofString "stack"), (Str.ofString "term"), (Str.ofString "told")] [(Str.ofString "stack"), (Str.ofString "term")] :=
  ⟨rfl, rfl, ⟨rfl, rfl, rfl, by decide +kernel, rfl, by decide +kernel, by decide +kernel⟩, by decide +kernel⟩
theorem r13 : RowOk xs T GK f13 (topS 30) [(Str.ofString "heap"), (Str.ofString "place")] [(Str.ofString "heap"), (Str.ofString "place")] :=
  ⟨rfl, rfl, ⟨rfl, rfl, rfl, by decide +kernel, rfl, by decide +kernel, by decide +kernel⟩, by decide +kernel⟩
theorem r14 : RowOk xs T GK f14 (topS 31) [(Str.ofString "heap"), (Str.ofString "place")] [(Str.ofString "heap"), (Str.ofString "place")] :=
  ⟨rfl, rfl, ⟨rfl, rfl, rfl, by decide +kernel, rfl, by decide +kernel, by decide +kernel⟩, by decide +kernel⟩
theorem r15 : RowOk xs T GK f15 (topS 32) [(Str.ofString "cells"), (Str.ofString "place"), (Str.ofString "met"), (Str.ofString "here")] [(Str.ofString "cells"), (Str.ofString "place")] :=
  ⟨rfl, rfl, ⟨rfl, rfl, rfl, by decide +kernel, rfl, by decide +kernel, by decide +kernel⟩, by decide +kernel⟩
theorem r16 : RowOk xs T GK f16 (topS 33) [(Str.ofString "heap"), (Str.ofString "place"), (Str.ofString "row"), (Str.ofString "end")] [(Str.ofString "heap"), (Str.ofString "place")] :=
  ⟨rfl, rfl, ⟨rfl, rfl, rfl, by decide +kernel, rfl, by decide +kernel, by decide +kernel⟩, by decide +kernel⟩
theorem r17 : RowOk xs T GK f17 (topS 34) [(Str.ofString "state"), (Str.ofString "cells"), (Str.ofString "met"), (Str.ofString "name"), (Str.ofString "place"), (Str.ofString "here")] [(Str.ofString "state")] :=
  ⟨rfl, rfl, ⟨rfl, rfl, rfl, by decide +kernel, rfl, by decide +kernel, by decide +kernel⟩, by decide +kernel⟩
theorem r18 : RowOk xs T GK f18 (topS 35) [(Str.ofString "state")] [(Str.ofString "state")] :=
  ⟨rfl, rfl, ⟨rfl, rfl, rfl, by decide +kernel, rfl, by decide +kernel, by decide +kernel⟩, by decide +kernel⟩
theorem r19 : RowOk xs T GK f19 (topS 37) [(Str.ofString "script"), (Str.ofString "cells"), (Str.ofString "cell")] [(Str.ofString "script")] :=
  ⟨rfl, rfl, ⟨rfl, rfl, rfl, by decide +kernel, rfl, by decide +kernel, by decide +kernel⟩, by decide +kernel⟩
theorem r20 : RowOk xs T GK f20 (topS 38) [(Str.ofString "hand"), (Str.ofString "many"), (Str.ofString "number"), (Str.ofString "cell"), (Str.ofString "digit")] [(Str.ofString "hand"), (Str.ofString "many")] :=
  ⟨rfl, rfl, ⟨rfl, rfl, rfl, by decide +kernel, rfl, by decide +kernel, by decide +kernel⟩, by decide +kernel⟩
theorem r21 : RowOk xs T GK f21 (topS 39) [(Str.ofString "hand"), (Str.ofString "things")] [(Str.ofString "hand"), (Str.ofString "things")] :=
  ⟨rfl, rfl, ⟨rfl, rfl, rfl, by decide +kernel, rfl, by decide +kernel, by decide +kernel⟩, by decide +kernel⟩
theorem r22 : RowOk xs T GK f22 (topS 40) [(Str.ofString "came"), (Str.ofString "due"), (Str.ofString "one"), (Str.ofString "other")] [(Str.ofString "came"), (Str.ofString "due")] :=
  ⟨rfl, rfl, ⟨rfl, rfl, rfl, by decide +kernel, rfl, by decide +kernel, by decide +kernel⟩, by decide +kernel⟩
theorem r23 : RowOk xs T GK f23 (topS 41) [(Str.ofString "hand")] [(Str.ofString "hand")] :=
  ⟨rfl, rfl, ⟨rfl, rfl, rfl, by decide +kernel, rfl, by decide +kernel, by decide +kernel⟩, by decide +kernel⟩
theorem r24 : RowOk xs T GK f24 (topS 42) [(Str.ofString "hand"), (Str.ofString "turn"), (Str.ofString "cells"), (Str.ofString "met"), (Str.ofString "left"), (Str.ofString "at"), (Str.ofString "step"), (Str.ofString "to")] [(Str.ofString "hand")] :=
  ⟨rfl, rfl, ⟨rfl, rfl, rfl, by decide +kernel, rfl, by decide +kernel, by decide +kernel⟩, by decide +kernel⟩
theorem r25 : RowOk xs T GK f25 (topS 43) [(Str.ofString "hand"), (Str.ofString "cells"), (Str.ofString "met"), (Str.ofString "stack"), (Str.ofString "turn"), (Str.ofString "size"), (Str.ofString "word"), (Str.ofString "some"), (Str.ofString "k")] [(Str.ofString "hand"), (Str.ofString "cells"), (Str.ofString "met")] :=
  ⟨rfl, rfl, ⟨rfl, rfl, rfl, by decide +kernel, rfl, by decide +kernel, by decide +kernel⟩, by decide +kernel⟩
theorem r26 : RowOk xs T GK f26 (topS 44) [(Str.ofString "cells"), (Str.ofString "place"), (Str.ofString "row"), (Str.ofString "step")] [(Str.ofString "cells"), (Str.ofString "place")] :=
  ⟨rfl, rfl, ⟨rfl, rfl, rfl, by decide +kernel, rfl, by decide +kernel, by decide +kernel⟩, by decide +kernel⟩
theorem r27 : RowOk xs T GK f27 (topS 45) [(Str.ofString "call"), (Str.ofString "e")] [(Str.ofString "call")] :=
  ⟨rfl, rfl, ⟨rfl, rfl, rfl, by decide +kernel, rfl, by decide +kernel, by decide +kernel⟩, by decide +kernel⟩
theorem r28 : RowOk xs T GK f28 (topS 46) [(Str.ofString "hand"), (Str.ofString "cells"), (Str.ofString "met"), (Str.ofString "heap"), (Str.ofString "place")] [(Str.ofString "hand"), (Str.ofString "cells"), (Str.ofString "met")] :=
  ⟨rfl, rfl, ⟨rfl, rfl, rfl, by decide +kernel, rfl, by decide +kernel, by decide +kernel⟩, by decide +kernel⟩
theorem r29 : RowOk xs T GK f29 (topS 47) [(Str.ofString "hand"), (Str.ofString "stack"), (Str.ofString "cells"), (Str.ofString "heap"), (Str.ofString "word"), (Str.ofString "lost"), (Str.ofString "rows"), (Str.ofString "kept"), (Str.ofString "place"), (Str.ofString "one")] [(Str.ofString "hand"), (Str.ofString "stack"), (Str.ofString "cells")] :=
  ⟨rfl, rfl, ⟨rfl, rfl, rfl, by decide +kernel, rfl, by decide +kernel, by decide +kernel⟩, by decide +kernel⟩
theorem r30 : RowOk xs T GK f30 (topS 48) [(Str.ofString "script"), (Str.ofString "hand"), (Str.ofString "turn"), (Str.ofString "near"), (Str.ofString "cells"), (Str.ofString "part"), (Str.ofString "met"), (Str.ofString "k")] [(Str.ofString "script")] :=
  ⟨rfl, rfl, ⟨rfl, rfl, rfl, by decide +kernel, rfl, by decide +kernel, by decide +kernel⟩, by decide +kernel⟩
theorem t0 : ∀ t, f0.told = some t → ToldRow xs (topS 14) [(Str.ofString "thing")] t := fun t h => by cases h
theorem t1 : ∀ t, f1.told = some t → ToldRow xs (topS 15) [(Str.ofString "thing"), (Str.ofString "low"), (Str.ofString "high")] t := fun t h => by cases h
theorem t2 : ∀ t, f2.told = some t → ToldRow xs (topS 16) [(Str.ofString "thing")] t := fun t h => by cases h
theorem t3 : ∀ t, f3.told = some t → ToldRow xs (topS 17) [(Str.ofString "thing")] t := fun t h => by cases h
theorem t4 : ∀ t, f4.told = some t → ToldRow xs (topS 18) [(Str.ofString "thing")] t := fun t h => by cases h
theorem t5 : ∀ t, f5.told = some t → ToldRow xs (topS 19) [(Str.ofString "thing"), (Str.ofString "least"), (Str.ofString "most")] t := fun t h => by cases h
theorem t6 : ∀ t, f6.told = some t → ToldRow xs (topS 20) [(Str.ofString "things")] t := fun t h => by cases h
theorem t7 : ∀ t, f7.told = some t → ToldRow xs (topS 24) [(Str.ofString "thing")] t := fun t h => by cases h
theorem t8 : ∀ t, f8.told = some t → ToldRow xs (topS 25) [(Str.ofString "thing")] t := fun t h => by cases h
theorem t9 : ∀ t, f9.told = some t → ToldRow xs (topS 26) [(Str.ofString "thing")] t := fun t h => by cases h
theorem t10 : ∀ t, f10.told = some t → ToldRow xs (topS 27) [(Str.ofString "thing")] t := fun t h => by cases h
theorem t11 : ∀ t, f11.told = some t → ToldRow xs (topS 28) [(Str.ofString "stack"), (Str.ofString "term")] t := fun t h => by cases h
theorem t12 : ∀ t, f12.told = some t → ToldRow xs (topS 29) [(Str.ofString "stack"), (Str.ofString "term")] t := fun t h => by cases h
theorem t13 : ∀ t, f13.told = some t → ToldRow xs (topS 30) [(Str.ofString "heap"), (Str.ofString "place")] t := fun t h => by cases h
theorem t14 : ∀ t, f14.told = some t → ToldRow xs (topS 31) [(Str.ofString "heap"), (Str.ofString "place")] t := fun t h => by cases h
theorem t15 : ∀ t, f15.told = some t → ToldRow xs (topS 32) [(Str.ofString "cells"), (Str.ofString "place")] t := fun t h => by cases h
theorem t16 : ∀ t, f16.told = some t → ToldRow xs (topS 33) [(Str.ofString "heap"), (Str.ofString "place")] t := fun t h => by cases h
theorem t17 : ∀ t, f17.told = some t → ToldRow xs (topS 34) [(Str.ofString "state")] t := fun t h => by cases h
theorem t18 : ∀ t, f18.told = some t → ToldRow xs (topS 35) [(Str.ofString "state")] t := fun t h => by cases h
theorem t19 : ∀ t, f19.told = some t → ToldRow xs (topS 37) [(Str.ofString "script")] t := fun t h => by cases h
theorem t20 : ∀ t, f20.told = some t → ToldRow xs (topS 38) [(Str.ofString "hand"), (Str.ofString "many")] t := fun t h => by cases h
theorem t21 : ∀ t, f21.told = some t → ToldRow xs (topS 39) [(Str.ofString "hand"), (Str.ofString "things")] t := fun t h => by cases h
theorem t22 : ∀ t, f22.told = some t → ToldRow xs (topS 40) [(Str.ofString "came"), (Str.ofString "due")] t := fun t h => by cases h
theorem t23 : ∀ t, f23.told = some t → ToldRow xs (topS 41) [(Str.ofString "hand")] t := fun t h => by cases h
theorem t24 : ∀ t, f24.told = some t → ToldRow xs (topS 42) [(Str.ofString "hand")] t := fun t h => by cases h
theorem t25 : ∀ t, f25.told = some t → ToldRow xs (topS 43) [(Str.ofString "hand"), (Str.ofString "cells"), (Str.ofString "met")] t := fun t h => by cases h
theorem t26 : ∀ t, f26.told = some t → ToldRow xs (topS 44) [(Str.ofString "cells"), (Str.ofString "place")] t := fun t h => by cases h
theorem t27 : ∀ t, f27.told = some t → ToldRow xs (topS 45) [(Str.ofString "call")] t := fun t h => by
  cases h
  exact ⟨(Str.ofString "call"), [(Str.ofString "call"), (Str.ofString "e")], _, _, _, _, _, _, _, rfl, List.cons_ne_nil _ _, rfl, ⟨rfl, rfl, rfl, by decide +kernel, rfl, by decide +kernel, by decide +kernel⟩, by decide +kernel, rfl, by decide +kernel, by decide +kernel, by decide +kernel, rfl, by decide +kernel, by decide +kernel⟩
theorem t28 : ∀ t, f28.told = some t → ToldRow xs (topS 46) [(Str.ofString "hand"), (Str.ofString "cells"), (Str.ofString "met")] t := fun t h => by cases h
theorem t29 : ∀ t, f29.told = some t → ToldRow xs (topS 47) [(Str.ofString "hand"), (Str.ofString "stack"), (Str.ofString "cells")] t := fun t h => by cases h
theorem t30 : ∀ t, f30.told = some t → ToldRow xs (topS 48) [(Str.ofString "script")] t := fun t h => by cases h
theorem x1 : Init0 (Str.ofString "ChainError") (initS (topS 2)) := ⟨⟨_, _, _, _, _, rfl, by decide +kernel⟩, ⟨rfl, rfl, rfl, by decide +kernel, rfl, by decide +kernel, by decide +kernel⟩, by decide +kernel, by decide +kernel⟩
theorem x2 : Init0 (Str.ofString "ChainError") (initS (topS 3)) := ⟨⟨_, _, _, _, _, rfl, by decide +kernel⟩, ⟨rfl, rfl, rfl, by decide +kernel, rfl, by decide +kernel, by decide +kernel⟩, by decide +kernel, by decide +kernel⟩
theorem x3 : Init0 (Str.ofString "ChainError") (initS (topS 4)) := ⟨⟨_, _, _, _, _, rfl, by decide +kernel⟩, ⟨rfl, rfl, rfl, by decide +kernel, rfl, by decide +kernel, by decide +kernel⟩, by decide +kernel, by decide +kernel⟩
theorem x4 : Init0 (Str.ofString "ChainError") (initS (topS 5)) := ⟨⟨_, _, _, _, _, rfl, by decide +kernel⟩, ⟨rfl, rfl, rfl, by decide +kernel, rfl, by decide +kernel, by decide +kernel⟩, by decide +kernel, by decide +kernel⟩
theorem x5 : Init0 (Str.ofString "ChainError") (initS (topS 6)) := ⟨⟨_, _, _, _, _, rfl, by decide +kernel⟩, ⟨rfl, rfl, rfl, by decide +kernel, rfl, by decide +kernel, by decide +kernel⟩, by decide +kernel, by decide +kernel⟩
theorem x6 : Init1 (Str.ofString "ChainError") (Str.ofString "name") (initS (topS 7)) := ⟨⟨_, _, _, _, _, _, _, _, _, _, rfl, by decide +kernel⟩, ⟨rfl, rfl, rfl, by decide +kernel, rfl, by decide +kernel, by decide +kernel⟩, by decide +kernel, by decide +kernel, by decide +kernel, by decide +kernel⟩
end K02
namespace K02
open PySem PySem.Spec PyProof.Rows L2 EV
def wf : Nat := 100
abbrev C (k : Nat) := callAt T wf k
section
variable {m : Mem} {k : Nat}
theorem eqv_int (a b : Int) : PyData.eqv (.int a) (.int b) = decide (a = b) := by
  by_cases h : a = b
  · simp [PyData.eqv, h]
  · simp [PyData.eqv, h]
theorem wr_eq {r : R D} {d : D} {m : Mem} (h : Wr r fun e m' => e = d ∧ m' = m) : r = .ok d m := by
  cases r with
  | ok a m1 => obtain ⟨rfl, rfl⟩ := h; rfl
  | _ => exact False.elim h
theorem wo_eq {o : O} {d : D} {m : Mem} (h : Wo o (fun _ _ => False) fun e m' => e = d ∧ m' = m) : o = .rt d m := by
  cases o with
  | rt a m1 => obtain ⟨rfl, rfl⟩ := h; rfl
  | nx _ _ => exact False.elim h
  | bk _ _ => exact False.elim h
  | ct _ _ => exact False.elim h
  | ex _ _ _ _ => exact False.elim h
  | bad => exact False.elim h
theorem eqv_str (a b : Str) : PyData.eqv (.str a) (.str b) = decide (a = b) := by
  by_cases h : a = b
  · simp [PyData.eqv, h]
  · simp [PyData.eqv, h]
theorem at_nat {xs : List D} {i : Nat} (h : i < xs.length) : atI xs (i : Int) = some (xs.getD i .non) := by
  rw [List.getD_eq_getElem?_getD, List.getElem?_eq_getElem h]
  exact atI_nat (List.getElem?_eq_getElem h)
theorem getD_mem {xs : List D} {i : Nat} (h : i < xs.length) : xs.getD i .non ∈ xs := by
  rw [List.getD_eq_getElem?_getD, List.getElem?_eq_getElem h]
  exact List.getElem_mem h
end
/-- the hand's cell -/
def HC (c : Cell) : Prop := ∃ (cs : List Int) (i a b n : Int), c = .lst [.lst (cs.map .int), .int i, .int a, .int b, .int n] ∧ cs.length ≤ 63 ∧ (∀ x ∈ cs, 0 ≤ x) ∧ 0 ≤ i ∧ 0 ≤ a
section
variable {k : Nat} {c : Cell} {ms : Mem}
theorem bels_ints (n : Nat) : ∀ cs : List Int, bels n (cs.map .int) = true
  | [] => rfl
  | c :: cs => by
    show (true && bels n (cs.map .int)) = true
    rw [bels_ints n cs]; rfl
theorem HC.bel {n : Nat} (h : HC c) : belC n c = true := by
  obtain ⟨cs, i, a, b, m, rfl, _⟩ := h
  show (bels n (cs.map .int) && (true && (true && (true && (true && true))))) = true
  rw [bels_ints]; rfl
theorem gc_hand {c' : Cell} {more : Mem} {d : D} (h : HC c') (hb : ∀ n, EV.bel n d = true) : gcR (c :: ms) (.ok d (c' :: (ms ++ more))) = .ok d (c' :: ms) := by
  unfold gcR
  have h1 : keepC (c :: ms).length (c :: ms) (c' :: (ms ++ more)) = true := by
    show ((decide (c = c') || belC (c :: ms).length c') && keepC (c :: ms).length ms (ms ++ more)) = true
    rw [h.bel, Bool.or_true, keepC_same]; rfl
  dsimp only
  rw [if_pos h1, if_pos (hb _)]
  show R.ok d (c' :: (ms ++ more).take ms.length) = _
  rw [List.take_left']
  rfl
/-- a call on the hand: what is drawn is P, the hand stays a hand -/
def Dr (ms : Mem) (r : R D) (P : D → Prop) : Prop := ∃ d c', r = .ok d (c' :: ms) ∧ HC c' ∧ P d
theorem Dr.imp {r : R D} {P P' : D → Prop} (h : Dr ms r P) (q : ∀ d, P d → P' d) : Dr ms r P' := by
  obtain ⟨d, c', e, hc, p⟩ := h
  exact ⟨d, c', e, hc, q d p⟩
theorem Dr.of {i : Nat} {fn : Fn} {ds : List D} {P : D → Prop} (hT : T[i]? = some fn) (hl : ds.length = fn.np) (hr : bels 0 ds = false) (h : ∃ d c' more, exSs (C k) (loAt T wf k) wf fn.body (startR fn.ns ds) (c :: ms) = .rt d (c' :: (ms ++ more)) ∧ HC c' ∧ (∀ n, EV.bel n d = true) ∧ P d) : Dr ms (C (k + 1) i ds (c :: ms)) P := by
  obtain ⟨d, c', more, e, hc, hb, p⟩ := h
  refine ⟨d, c', ?_, hc, p⟩
  show callAt T wf (k + 1) i ds (c :: ms) = _
  rw [callAt_succ, hT]
  show runFn (C k) (loAt T wf k) wf fn ds (c :: ms) = _
  unfold runFn
  rw [if_pos hl, isoR_run (.inr hr), e]
  exact gc_hand hc hb
variable {x0 x1 x2 x3 x4 v : D}
abbrev H5 (x0 x1 x2 x3 x4 : D) : Cell := .lst [x0, x1, x2, x3, x4]
theorem g0 : idxD (.ref 0) (.int 0) (H5 x0 x1 x2 x3 x4 :: ms) = some x0 := rfl
theorem g1 : idxD (.ref 0) (.int 1) (H5 x0 x1 x2 x3 x4 :: ms) = some x1 := rfl
theorem g2 : idxD (.ref 0) (.int 2) (H5 x0 x1 x2 x3 x4 :: ms) = some x2 := rfl
theorem g3 : idxD (.ref 0) (.int 3) (H5 x0 x1 x2 x3 x4 :: ms) = some x3 := rfl
theorem g4 : idxD (.ref 0) (.int 4) (H5 x0 x1 x2 x3 x4 :: ms) = some x4 := rfl
theorem s1 : setD (.ref 0) (.int 1) v (H5 x0 x1 x2 x3 x4 :: ms) = some (H5 x0 v x2 x3 x4 :: ms) := rfl
theorem s2 : setD (.ref 0) (.int 2) v (H5 x0 x1 x2 x3 x4 :: ms) = some (H5 x0 x1 v x3 x4 :: ms) := rfl
theorem s3 : setD (.ref 0) (.int 3) v (H5 x0 x1 x2 x3 x4 :: ms) = some (H5 x0 x1 x2 v x4 :: ms) := rfl
theorem s4 : setD (.ref 0) (.int 4) v (H5 x0 x1 x2 x3 x4 :: ms) = some (H5 x0 x1 x2 x3 v :: ms) := rfl
theorem mulL {i j : Int} (m : Mem) (h : -(2 ^ 64) < i ∧ i < 2 ^ 64) : binD .Mult (.int i) (.int j) m = .ok (.int (i * j)) m := by
  exact if_pos (decide_eq_true (.inl h) : mulOk i j = true)
theorem mulR {i j : Int} (m : Mem) (h : -(2 ^ 64) < j ∧ j < 2 ^ 64) : binD .Mult (.int i) (.int j) m = .ok (.int (i * j)) m := by
  exact if_pos (decide_eq_true (.inr h) : mulOk i j = true)
theorem mod_ok {i j : Int} (m : Mem) (h : j ≠ 0) : binD .Mod (.int i) (.int j) m = .ok (.int (i.fmod j)) m := if_pos h
theorem div_ok {i j : Int} (m : Mem) (h : j ≠ 0 ∧ j.natAbs < 1073741824) : binD .FloorDiv (.int i) (.int j) m = .ok (.int (i.fdiv j)) m := if_pos h
theorem add_ok {i j : Int} (m : Mem) : binD .Add (.int i) (.int j) m = .ok (.int (i + j)) m := rfl
theorem pow18 (m : Mem) : binD .Pow (.int 10) (.int 18) m = .ok (.int (10 ^ 18)) m := rfl
theorem int_ok (i : Int) (m : Mem) : biD .int [.int i] m = .ok (.int i) m := rfl
theorem lt_ok (x y : Int) (m : Mem) : cmpD .Lt (.int x) (.int y) m = some (decide (x < y)) := rfl
theorem gt_ok (x y : Int) (m : Mem) : cmpD .Gt (.int x) (.int y) m = some (decide (y < x)) := rfl
theorem ge_ok (x y : Int) (m : Mem) : cmpD .GtE (.int x) (.int y) m = some (decide (y ≤ x)) := rfl
theorem eq_ok (x y : Int) (m : Mem) : cmpD .Eq (.int x) (.int y) m = some (decide (x = y)) := by
  show some (PyData.eqv (.int x) (.int y)) = _
  rw [eqv_int]
theorem draw_ok {many : Int} (hc : HC c) (h1 : 1 ≤ many) (h2 : many < 1073741824) : Dr ms (C (k + 1) 20 [.ref 0, .int many] (c :: ms)) fun d => ∃ r, d = .int r ∧ 0 ≤ r ∧ r < many := by
  refine Dr.of (fn := f20) rfl rfl rfl ?_
  obtain ⟨cs, i, a, b, n, rfl, hl, hcs, hi, ha⟩ := hc
  have part2 : ∀ (i a b n : Int) (y : Option D), 0 ≤ i → 0 ≤ a → ∃ d c' more, exSs (C k) (loAt T wf k) wf (match b20 with | .cons _ r => r | _ => .nil) [some (.ref 0), some (.int many), none, y, none] (H5 (.lst (cs.map .int)) (.int i) (.int a) (.int b) (.int n) :: ms) = .rt d (c' :: (ms ++ more)) ∧ HC c' ∧ (∀ n, EV.bel n d = true) ∧ ∃ r, d = .int r ∧ 0 ≤ r ∧ r < many := by
    intro i a b n y hi ha
    have hm0 : many ≠ 0 := by omega
    have hmn : many.natAbs < 1073741824 := by omega
    by_cases ha0 : 0 < a
    · refine ⟨.int (a.fmod many), H5 (.lst (cs.map .int)) (.int i) (.int (a.fdiv many)) (.int b) (.int n), [], ?_, ⟨cs, i, a.fdiv many, b, n, rfl, hl, hcs, hi, Int.fdiv_nonneg ha (by omega)⟩, fun _ => rfl, _, rfl, Int.fmod_nonneg_of_pos a (by omega), Int.fmod_lt_of_pos a (by omega)⟩
      simp only [b20, exSs, exS, evE, evEs, evKV, evO, evC, evI, startR, O.test, O.then_nx, O.then_rt, R.go_ok, R.bind_ok, R.of_some, tst_ok, bothD_ok, Option.map_some, List.map_cons, List.map_nil, List.length_cons, List.length_nil, List.cons_append, List.nil_append, List.getElem?_cons_zero, List.getElem?_cons_succ, List.replicate_succ, List.replicate_zero, if_true, if_false, Bool.false_eq_true, ite_true, ite_false, reduceIte, Nat.reduceAdd, Nat.reduceSub, Nat.sub_self, sOk_of, decide_true, decide_false, g2, litD, gt_ok, ha0, int_ok, mod_ok _ hm0, div_ok _ ⟨hm0, hmn⟩, s2, tgD, List.set_cons_zero, List.set_cons_succ, O.ofR_some, O.ofM_some, Nat.reduceLT, List.append_nil]
    · have m1 : ∀ x : Int, binD .Mult (.int 7919) (.int x) = fun m => .ok (.int (7919 * x)) m := fun x => funext fun m => mulL m (by omega)
      have m2 : ∀ x : Int, binD .Mult (.int x) (.int 40692) = fun m => .ok (.int (x * 40692)) m := fun x => funext fun m => mulR m (by omega)
      have z1 : (2147483647 : Int) ≠ 0 := by omega
      have z2 : (2147483563 : Int) ≠ 0 := by omega
      have z3 : (1009 : Int) ≠ 0 ∧ (1009 : Int).natAbs < 1073741824 := by decide
      have z4 : (2003 : Int) ≠ 0 ∧ (2003 : Int).natAbs < 1073741824 := by decide
      have z5 : (16 : Int) ≠ 0 ∧ (16 : Int).natAbs < 1073741824 := by decide
      generalize hA : ((b + 7919 * (n + 1)) * 40692).fmod 2147483647 = A
      have hA1 : 0 ≤ A := by rw [← hA]; exact Int.fmod_nonneg_of_pos _ (by omega)
      have hA2 : A < 2147483647 := by rw [← hA]; exact Int.fmod_lt_of_pos _ (by omega)
      generalize hB : (A * (A.fdiv 1009 + 69621)).fmod 2147483647 = B
      have hB1 : 0 ≤ B := by rw [← hB]; exact Int.fmod_nonneg_of_pos _ (by omega)
      have hB2 : B < 2147483647 := by rw [← hB]; exact Int.fmod_lt_of_pos _ (by omega)
      have m3 : ∀ x : Int, binD .Mult (.int A) (.int x) = fun m => .ok (.int (A * x)) m := fun x => funext fun m => mulL m (by omega)
      have m4 : ∀ x : Int, binD .Mult (.int B) (.int x) = fun m => .ok (.int (B * x)) m := fun x => funext fun m => mulL m (by omega)
      refine ⟨.int ((((B * (B.fdiv 2003 + 40014)).fmod 2147483563).fdiv 16).fmod many), H5 (.lst (cs.map .int)) (.int i) (.int a) (.int b) (.int (n + 1)), [], ?_, ⟨cs, i, a, b, n + 1, rfl, hl, hcs, hi, ha⟩, fun _ => rfl, _, rfl, Int.fmod_nonneg_of_pos _ (by omega), Int.fmod_lt_of_pos _ (by omega)⟩
      simp only [b20, exSs, exS, evE, evEs, evKV, evO, evC, evI, startR, O.test, O.then_nx, O.then_rt, R.go_ok, R.bind_ok, R.of_some, tst_ok, bothD_ok, Option.map_some, List.map_cons, List.map_nil, List.length_cons, List.length_nil, List.cons_append, List.nil_append, List.getElem?_cons_zero, List.getElem?_cons_succ, List.replicate_succ, List.replicate_zero, if_true, if_false, Bool.false_eq_true, ite_true, ite_false, reduceIte, Nat.reduceAdd, Nat.reduceSub, Nat.sub_self, sOk_of, decide_true, decide_false, g2, g3, g4, litD, gt_ok, ha0, int_ok, add_ok, m1, m2, mod_ok _ hm0, mod_ok _ z1, mod_ok _ z2, div_ok _ z3, div_ok _ z4, div_ok _ z5, hA, m3, hB, m4, s4, tgD, List.set_cons_zero, List.set_cons_succ, O.ofR_some, O.ofM_some, Nat.reduceLT, List.append_nil]
  have part1 : ∃ (i2 a2 b2 : Int) (y : Option D), exS (C k) (loAt T wf k) wf (match b20 with | .cons s _ => s | _ => .pas) [some (.ref 0), some (.int many), none, none, none] (H5 (.lst (cs.map .int)) (.int i) (.int a) (.int b) (.int n) :: ms) = .nx [some (.ref 0), some (.int many), none, y, none] (H5 (.lst (cs.map .int)) (.int i2) (.int a2) (.int b2) (.int n) :: ms) ∧ 0 ≤ i2 ∧ 0 ≤ a2 := by
    have hlen : ∀ m : Mem, biD .len [.lst (cs.map .int)] m = .ok (.int cs.length) m := fun m => by
      show R.ok (D.int ((cs.map D.int).length : Nat)) _ = _
      rw [List.length_map]
    cases hd : decide (a = 0) with
    | false => exact ⟨i, a, b, none, by simp only [b20, exSs, exS, evE, evEs, evKV, evO, evC, evI, startR, O.test, O.then_nx, O.then_rt, R.go_ok, R.bind_ok, R.of_some, tst_ok, bothD_ok, Option.map_some, List.map_cons, List.map_nil, List.length_cons, List.length_nil, List.cons_append, List.nil_append, List.getElem?_cons_zero, List.getElem?_cons_succ, List.replicate_succ, List.replicate_zero, if_true, if_false, Bool.false_eq_true, ite_true, ite_false, reduceIte, Nat.reduceAdd, Nat.reduceSub, Nat.sub_self, sOk_of, decide_true, decide_false, g2, litD, eq_ok, hd], hi, ha⟩
    | true =>
    by_cases hil : i < (cs.length : Int)
    case neg => exact ⟨i, a, b, none, by simp only [b20, exSs, exS, evE, evEs, evKV, evO, evC, evI, startR, O.test, O.then_nx, O.then_rt, R.go_ok, R.bind_ok, R.of_some, tst_ok, bothD_ok, Option.map_some, List.map_cons, List.map_nil, List.length_cons, List.length_nil, List.cons_append, List.nil_append, List.getElem?_cons_zero, List.getElem?_cons_succ, List.replicate_succ, List.replicate_zero, if_true, if_false, Bool.false_eq_true, ite_true, ite_false, reduceIte, Nat.reduceAdd, Nat.reduceSub, Nat.sub_self, sOk_of, decide_true, decide_false, g0, g1, g2, litD, eq_ok, hd, lt_ok, hlen, hil], hi, ha⟩
    obtain ⟨j, rfl⟩ := Int.eq_ofNat_of_zero_le hi
    have hj : j < cs.length := by omega
    have hx : ∀ m : Mem, idxD (.lst (cs.map .int)) (.int (j : Nat)) m = some (.int cs[j]) := fun m => by
      show atI (cs.map D.int) (j : Int) = _
      exact atI_nat (by rw [List.getElem?_map, List.getElem?_eq_getElem hj]; rfl)
    have hx0 : 0 ≤ cs[j] := hcs _ (List.getElem_mem hj)
    have m1 : ∀ x : Int, binD .Mult (.int x) (.int 69621) = fun m => .ok (.int (x * 69621)) m := fun x => funext fun m => mulR m (by omega)
    have m2 : ∀ x : Int, binD .Mult (.int x) (.int 48271) = fun m => .ok (.int (x * 48271)) m := fun x => funext fun m => mulR m (by omega)
    have z1 : (2147483629 : Int) ≠ 0 := by omega
    by_cases hbig : (10 ^ 18 : Int) ≤ cs[j]
    · refine ⟨(j : Int) + 1, cs[j], (b * 69621 + cs[j] * 48271 + 53).fmod 2147483629, some (.int cs[j]), ?_, by omega, hx0⟩
      simp only [b20, exSs, exS, evE, evEs, evKV, evO, evC, evI, startR, O.test, O.then_nx, O.then_rt, R.go_ok, R.bind_ok, R.of_some, tst_ok, bothD_ok, Option.map_some, List.map_cons, List.map_nil, List.length_cons, List.length_nil, List.cons_append, List.nil_append, List.getElem?_cons_zero, List.getElem?_cons_succ, List.replicate_succ, List.replicate_zero, if_true, if_false, Bool.false_eq_true, ite_true, ite_false, reduceIte, Nat.reduceAdd, Nat.reduceSub, Nat.sub_self, sOk_of, decide_true, decide_false, g0, g1, g2, g3, litD, eq_ok, hd, lt_ok, ge_ok, hlen, hil, hx, tgD, List.set_cons_zero, List.set_cons_succ, O.ofR_some, O.ofM_some, Nat.reduceLT, add_ok, s1, s2, s3, m1, m2, int_ok, mod_ok _ z1, pow18, hbig]
    · refine ⟨(j : Int) + 1, a, (b * 69621 + cs[j] * 48271 + 53).fmod 2147483629, some (.int cs[j]), ?_, by omega, ha⟩
      simp only [b20, exSs, exS, evE, evEs, evKV, evO, evC, evI, startR, O.test, O.then_nx, O.then_rt, R.go_ok, R.bind_ok, R.of_some, tst_ok, bothD_ok, Option.map_some, List.map_cons, List.map_nil, List.length_cons, List.length_nil, List.cons_append, List.nil_append, List.getElem?_cons_zero, List.getElem?_cons_succ, List.replicate_succ, List.replicate_zero, if_true, if_false, Bool.false_eq_true, ite_true, ite_false, reduceIte, Nat.reduceAdd, Nat.reduceSub, Nat.sub_self, sOk_of, decide_true, decide_false, g0, g1, g2, g3, litD, eq_ok, hd, lt_ok, ge_ok, hlen, hil, hx, tgD, List.set_cons_zero, List.set_cons_succ, O.ofR_some, O.ofM_some, Nat.reduceLT, add_ok, s1, s2, s3, m1, m2, int_ok, mod_ok _ z1, pow18, hbig]
  obtain ⟨i2, a2, b2, y, e1, h3, h4⟩ := part1
  obtain ⟨d, c', more, e2, h5, h6, h7⟩ := part2 i2 a2 b2 n y h3 h4
  refine ⟨d, c', more, ?_, h5, h6, h7⟩
  have e : exSs (C k) (loAt T wf k) wf f20.body (startR f20.ns [.ref 0, .int many]) (H5 (.lst (cs.map .int)) (.int i) (.int a) (.int b) (.int n) :: ms) = (exS (C k) (loAt T wf k) wf (match b20 with | .cons s _ => s | _ => .pas) [some (.ref 0), some (.int many), none, none, none] (H5 (.lst (cs.map .int)) (.int i) (.int a) (.int b) (.int n) :: ms)).then fun ρ m => exSs (C k) (loAt T wf k) wf (match b20 with | .cons _ r => r | _ => .nil) ρ m := rfl
  rw [e, e1]
  exact e2
end
section
variable {k : Nat} {c : Cell} {ms : Mem}
/-- behind a body -/
def Ed (ms : Mem) (P : D → Prop) (d : D) (m : Mem) : Prop := ∃ c' more, m = c' :: (ms ++ more) ∧ HC c' ∧ (∀ n, bel n d = true) ∧ P d
theorem Ed.here {P : D → Prop} {d : D} (hc : HC c) (hb : ∀ n, bel n d = true) (p : P d) : Ed ms P d (c :: ms) := ⟨c, [], by rw [List.append_nil], hc, hb, p⟩
theorem Dr.by {i : Nat} {fn : Fn} {ds : List D} {P : D → Prop} (hT : T[i]? = some fn) (hl : ds.length = fn.np) (hr : bels 0 ds = false) (h : Wo (exSs (C k) (loAt T wf k) wf fn.body (startR fn.ns ds) (c :: ms)) (fun _ _ => False) (Ed ms P)) : Dr ms (C (k + 1) i ds (c :: ms)) P := by
  refine Dr.of hT hl hr ?_
  revert h
  cases exSs (C k) (loAt T wf k) wf fn.body (startR fn.ns ds) (c :: ms) with
  | rt d m =>
    intro h
    obtain ⟨c', more, rfl, h1, h2, h3⟩ := h
    exact ⟨d, c', more, rfl, h1, h2, h3⟩
  | nx _ _ => exact fun h => False.elim h
  | bk _ _ => exact fun h => False.elim h
  | ct _ _ => exact fun h => False.elim h
  | ex _ _ _ _ => exact fun h => False.elim h
  | bad => exact fun h => False.elim h
theorem Dr.wr {r : R D} {P : D → Prop} {Q : D → Mem → Prop} (h : Dr ms r P) (q : ∀ d c', HC c' → P d → Q d (c' :: ms)) : Wr r Q := by
  obtain ⟨d, c', rfl, h1, h2⟩ := h
  exact q d c' h1 h2
theorem some_ok {xs : List D} (hc : HC c) (h1 : 1 ≤ xs.length) (h2 : xs.length < 1000000) (hb : ∀ x ∈ xs, ∀ n, bel n x = true) : Dr ms (C (k + 2) 21 [.ref 0, .lst xs] (c :: ms)) fun d => d ∈ xs := by
  refine Dr.by (fn := f21) rfl rfl rfl ?_
  simp only [f21, b21, exSs, exS, evE, evEs, evKV, evO, evC, evI, startR, O.test, O.then_nx, O.then_rt, R.go_ok, R.bind_ok, R.of_some, tst_ok, bothD_ok, Option.map_some, List.map_cons, List.map_nil, List.length_cons, List.length_nil, List.cons_append, List.nil_append, List.getElem?_cons_zero, List.getElem?_cons_succ, List.replicate_succ, List.replicate_zero, if_true, if_false, Bool.false_eq_true, ite_true, ite_false, reduceIte, Nat.reduceAdd, Nat.reduceSub, Nat.sub_self, sOk_of, decide_true, decide_false, Wr_ok, Wr_bind, Wr_of, Wr_calm, Wo_nx, Wo_rt, Wo_go, Wo_then, Wo_test, Wo_ofR, Wo_ofM, Wr_tst, Wr_both, Wr_if, Option.some.injEq, exists_eq_left, D.bl.injEq, Bool.true_and, List.set_cons_zero, List.set_cons_succ, tgD, Nat.reduceLT, Nat.not_lt_zero, biD, lenD, seqOf, lstOf]
  refine Dr.wr (draw_ok hc (by omega) (by omega)) ?_
  rintro _ c1 hc1 ⟨r, rfl, hr1, hr2⟩
  obtain ⟨j, rfl⟩ := Int.eq_ofNat_of_zero_le hr1
  have hj : j < xs.length := by omega
  refine ⟨_, at_nat hj, Ed.here hc1 (hb _ (getD_mem hj)) (getD_mem hj)⟩
theorem wr_len {xs : List D} {m : Mem} {Q : D → Mem → Prop} (h : Q (.int xs.length) m) : Wr (lenD [.lst xs] m) Q := h
/-- behind one turn -/
def Ex1 (ms : Mem) (P : D → Prop) (d : D) (m : Mem) : Prop := ∃ c', m = c' :: ms ∧ HC c' ∧ P d
theorem lcp_dr {tg : D → Rho → Option Rho} {cd : Rho → Mem → R Bool} {el : Rho → Mem → R D} {ρ : Rho} {P : D → D → Prop} : ∀ (xs acc : List D) (c : Cell), HC c → (∀ x ∈ xs, ∃ ρ', tg x ρ = some ρ' ∧ (∀ m, cd ρ' m = .ok true m) ∧ ∀ c, HC c → Wr (el ρ' (c :: ms)) (Ex1 ms (P x))) →
    ∃ ys c', lcpL none tg cd el ρ xs acc (c :: ms) = .ok (.lst (acc ++ ys)) (c' :: ms) ∧ HC c' ∧ ys.length = xs.length ∧ ∀ (i : Nat) (x : D), xs[i]? = some x → ∃ y, ys[i]? = some y ∧ P x y
  | [], acc, c, hc, _ => ⟨[], c, by unfold lcpL; rw [List.append_nil]; rfl, hc, rfl, fun i x e => by simp at e⟩
  | x :: xs, acc, c, hc, h => by
    obtain ⟨ρ', h1, h2, h3⟩ := h x List.mem_cons_self
    have h3 := h3 c hc
    cases he : el ρ' (c :: ms) with
    | bad => rw [he] at h3; exact False.elim h3
    | ex _ _ _ => rw [he] at h3; exact False.elim h3
    | ok d m1 =>
      rw [he] at h3
      obtain ⟨c1, rfl, hc1, p⟩ := h3
      obtain ⟨ys, c2, e, hc2, hl, hp⟩ := lcp_dr (tg := tg) (cd := cd) (el := el) (ρ := ρ) (P := P) xs (acc ++ [d]) c1 hc1 fun y hy => h y (List.mem_cons_of_mem _ hy)
      refine ⟨d :: ys, c2, ?_, hc2, by simp [hl], fun i z ez => ?_⟩
      · unfold lcpL
        rw [if_pos (show ckD none (c :: ms) = true from rfl), h1]
        dsimp only
        rw [h2]
        dsimp only [R.bind]
        rw [if_pos rfl, he]
        dsimp only [R.bind]
        rw [e, List.append_assoc]
        rfl
      · cases i with
        | zero => simp at ez; subst ez; exact ⟨d, rfl, p⟩
        | succ i => exact hp i z (by simpa using ez)
theorem lcp_wr {tg : D → Rho → Option Rho} {cd : Rho → Mem → R Bool} {el : Rho → Mem → R D} {ρ : Rho} {P : D → D → Prop} {xs : List D} {Q : D → Mem → Prop} (hc : HC c) (h : ∀ x ∈ xs, ∃ ρ', tg x ρ = some ρ' ∧ (∀ m, cd ρ' m = .ok true m) ∧ ∀ c, HC c → Wr (el ρ' (c :: ms)) (Ex1 ms (P x)))
    (q : ∀ ys c', HC c' → ys.length = xs.length → (∀ (i : Nat) (x : D), xs[i]? = some x → ∃ y, ys[i]? = some y ∧ P x y) → Q (.lst ys) (c' :: ms)) : Wr (lcpL none tg cd el ρ xs [] (c :: ms)) Q := by
  obtain ⟨ys, c', e, h1, h2, h3⟩ := lcp_dr (ms := ms) xs [] c hc h
  rw [e, List.nil_append]
  exact q ys c' h1 h2 h3
theorem all_of {xs ys : List D} {P : D → D → Prop} {R : D → Prop} (hl : ys.length = xs.length) (h : ∀ (i : Nat) (x : D), xs[i]? = some x → ∃ y, ys[i]? = some y ∧ P x y) (hr : ∀ x y, P x y → R y) : ∀ y ∈ ys, R y := by
  intro y hy
  obtain ⟨i, hi, e⟩ := List.getElem_of_mem hy
  obtain ⟨z, h1, h2⟩ := h i xs[i] (by simp [hl ▸ hi])
  rw [List.getElem?_eq_getElem hi] at h1
  cases h1
  rw [← e]
  exact hr _ _ h2
theorem max_ok {a b : Int} {m : Mem} : biD .max [.int a, .int b] m = .ok (.int (if b > a then b else a)) m := rfl
end
section
variable {k : Nat} {c : Cell} {ms : Mem}
def absI (i : Int) : Int := (if i < 0 then -i else i).fmod (10 ^ 60)
theorem absI_pos (i : Int) : 0 ≤ absI i := Int.fmod_nonneg_of_pos _ (by decide +kernel)
theorem hand_ok (ns : List Int) : ∃ c, C (k + 1) 19 [.scr ns] [] = .ok (.ref 0) [c] ∧ HC c := by
  have hl : (cutD ns none (some 63)).length ≤ 63 := by
    unfold EV.cutD
    rw [List.length_take]
    have e : HT.sIx ns.length 0 none = 0 := rfl
    have : HT.sIx ns.length ns.length (some 63) ≤ 63 := by
      simp only [HT.sIx]
      split <;> omega
    omega
  generalize hcs : cutD ns none (some 63) = zs at hl
  let cell : Cell := .lst [.lst ((zs.map absI).map .int), .int 0, .int 0, .int (7013 + 17 * (zs.length : Int)), .int 0]
  have hc : HC cell := ⟨zs.map absI, 0, 0, _, 0, rfl, by rw [List.length_map]; exact hl, fun x hx => by
    obtain ⟨i, _, rfl⟩ := List.mem_map.mp hx
    exact absI_pos i, by omega, by omega⟩
  refine ⟨cell, ?_, hc⟩
  have body : exSs (C k) (loAt T wf k) wf f19.body (startR f19.ns [.scr ns]) [] = .rt (.ref 0) [cell] := by
    refine wo_eq ?_
    simp only [f19, b19, startR, List.map_cons, List.map_nil, List.length_cons, List.length_nil, List.cons_append, List.nil_append, List.replicate_succ, List.replicate_zero, Nat.reduceAdd, Nat.reduceSub, EV.w_scons]
    rw [w_asg]
    refine w_lcpS ?_
    have hs : slcD (.scr ns) none (some 63) [] = some (.lst (zs.map .int)) := by
      show some (D.lst ((cutD ns none (some 63)).map .int)) = _
      rw [hcs]
    simp only [EV.w_slc, EV.w_no, EV.w_yes, EV.w_int, EV.w_var, List.getElem?_cons_zero, D.int.injEq, exists_eq_left', hs, Option.some.injEq]
    refine ⟨zs.map .int, rfl, nofun, by rw [List.length_map]; show _ ≤ 16777216; omega, ?_⟩
    have hlc : lcpL none (tgD (.nm 2)) (fun _ m => .ok true m) (fun ρ' m => calmR (evE (C k) (loAt T wf k) (.bin .Mod (.bi .abs (.cons (.bi .int (.cons (.var 2) .nil)) .nil)) (.bin .Pow (.lit (.int 10)) (.lit (.int 60)))) ρ' m)) [some (.scr ns), none, none] (zs.map D.int) [] [] = .ok (.lst ((zs.map D.int).map fun d => match d with | D.int i => D.int (absI i) | _ => D.non)) [] := by
      have := lcp_pure (q := none) (tg := tgD (.nm 2)) (cd := fun _ m => .ok true m) (el := fun ρ' m => calmR (evE (C k) (loAt T wf k) (.bin .Mod (.bi .abs (.cons (.bi .int (.cons (.var 2) .nil)) .nil)) (.bin .Pow (.lit (.int 10)) (.lit (.int 60)))) ρ' m)) (ρ := [some (.scr ns), none, none]) (m := []) (f := fun d => match d with | D.int i => D.int (absI i) | _ => D.non) rfl (zs.map D.int) [] (fun x hx => by
        obtain ⟨i, _, rfl⟩ := List.mem_map.mp hx
        refine ⟨[some (.scr ns), none, some (.int i)], rfl, rfl, ?_⟩
        have e : evE (C k) (loAt T wf k) (.bin .Mod (.bi .abs (.cons (.bi .int (.cons (.var 2) .nil)) .nil)) (.bin .Pow (.lit (.int 10)) (.lit (.int 60)))) [some (.scr ns), none, some (.int i)] [] = .ok (.int (absI i)) [] := by
          refine wr_eq ?_
          have ea : ∀ m : Mem, biD .abs [.int i] m = .ok (.int (if i < 0 then -i else i)) m := fun m => rfl
          have ep : ∀ m : Mem, binD .Pow (.int 10) (.int 60) m = .ok (.int (10 ^ 60)) m := fun m => rfl
          simp only [EV.w_bin, EV.w_bi, EV.w_cons, EV.w_nil, EV.w_var, EV.w_int, List.getElem?_cons_zero, List.getElem?_cons_succ, int_ok, Wr_ok, ea, ep]
          rw [mod_ok _ (by decide +kernel), Wr_ok]
          exact ⟨rfl, rfl⟩
        show calmR (evE _ _ _ _ _) = _
        rw [e]; rfl)
      rw [List.nil_append] at this
      exact this
    rw [show wipeR [some (D.scr ns), none, none] ([(Str.ofString "cell", 2)].map (·.2)) = [some (.scr ns), none, none] from rfl, hlc, Wr_ok]
    have hmm : (zs.map D.int).map (fun d => match d with | D.int i => D.int (absI i) | _ => D.non) = (zs.map absI).map D.int := by
      rw [List.map_map, List.map_map]; rfl
    rw [hmm]
    refine ⟨[some (.scr ns), some (.lst ((zs.map absI).map .int)), none], rfl, ?_⟩
    have el : ∀ m : Mem, biD .len [.lst ((zs.map absI).map .int)] m = .ok (.int (zs.length : Int)) m := fun m => by
      show R.ok (D.int ((((zs.map absI).map D.int).length : Nat) : Int)) m = _
      rw [List.length_map, List.length_map]
    simp only [EV.w_ret, EV.w_alc, EV.w_lst, EV.w_bin, EV.w_bi, EV.w_cons, EV.w_nil, EV.w_var, EV.w_int, List.getElem?_cons_zero, List.getElem?_cons_succ, el, Wr_ok]
    rw [mulL _ (by omega), Wr_ok, add_ok, Wr_ok]
    exact ⟨rfl, rfl⟩
  show callAt T wf (k + 1) 19 [.scr ns] [] = _
  rw [callAt_succ]
  show runFn (C k) (loAt T wf k) wf f19 [.scr ns] [] = _
  unfold runFn
  rw [if_pos (show [D.scr ns].length = f19.np from rfl), isoR_run (.inl rfl), body]
  show gcR [] (.ok (.ref 0) [cell]) = _
  show (if belC 0 cell = true ∧ 0 ≤ 0 then R.ok (D.ref 0) [cell] else R.ok (D.ref 0) [cell]) = _
  split <;> rfl
end

end K02

namespace K02
open PySem PySem.Spec PyProof.Rows L2 EV
mutual
/-- a value that tells no cell, its texts not too long -/
def im : D → Bool
  | .non => true
  | .bl _ => true
  | .int _ => true
  | .str x => decide (x.length ≤ lim)
  | .tup ds => ims ds
  | .lst ds => ims ds
  | .dic _ ds => ims ds
  | _ => false
def ims : List D → Bool
  | [] => true
  | d :: ds => im d && ims ds
end
mutual
theorem im_bel : ∀ {d : D}, im d = true → ∀ n, bel n d = true
  | .non, _, _ => rfl
  | .bl _, _, _ => rfl
  | .int _, _, _ => rfl
  | .str _, _, _ => rfl
  | .tup ds, h, n => ims_bel (ds := ds) h n
  | .lst ds, h, n => ims_bel (ds := ds) h n
  | .dic _ ds, h, n => ims_bel (ds := ds) h n
  | .ref _, h, _ => absurd h Bool.false_ne_true
  | .fn, h, _ => absurd h Bool.false_ne_true
  | .scr _, h, _ => absurd h Bool.false_ne_true
theorem ims_bel : ∀ {ds : List D}, ims ds = true → ∀ n, bels n ds = true
  | [], _, _ => rfl
  | d :: ds, h, n => by
    have h : (im d && ims ds) = true := h
    rw [Bool.and_eq_true] at h
    show (bel n d && bels n ds) = true
    rw [im_bel h.1, ims_bel h.2]; rfl
end
section
variable {k : Nat} {c : Cell} {ms : Mem}
/-- a row of pairs -/
theorem bel1 {d : D} {r : List D} (h : im d = true) (hr : bels 0 r = true := by rfl) : bels 0 (d :: r) = true := by
  unfold bels
  rw [im_bel h 0, hr]; rfl
theorem ims_mem : ∀ {ds : List D}, ims ds = true → ∀ d ∈ ds, im d = true
  | d :: ds, h, e, he => by
    unfold ims at h
    rw [Bool.and_eq_true] at h
    rcases List.mem_cons.mp he with rfl | he
    · exact h.1
    · exact ims_mem h.2 e he
theorem ims_of : ∀ {ds : List D}, (∀ d ∈ ds, im d = true) → ims ds = true
  | [], _ => rfl
  | d :: ds, h => by
    unfold ims
    rw [h d List.mem_cons_self, ims_of fun e he => h e (List.mem_cons_of_mem _ he)]; rfl
def intB : D → Bool
  | .int _ => true
  | _ => false
def withB (lo hi : Int) : D → Bool
  | .int i => decide (lo ≤ i) && decide (i ≤ hi)
  | _ => false
def sizB (a b : Int) : D → Bool
  | .tup xs => decide (a ≤ (xs.length : Int)) && decide ((xs.length : Int) ≤ b)
  | _ => false
def letters : Str := Str.ofString "abcdefghijklmnopqrstuvwxyz"
def bound : List D := [.str (Str.ofString "nil"), .str (Str.ofString "new"), .str (Str.ofString "free"), .str (Str.ofString "if"), .str (Str.ofString "else"), .str (Str.ofString "while"), .str (Str.ofString "keep"), .str (Str.ofString "emp")]
def bndB (x : Str) : Bool := bound.any fun y => PyData.eqv (pd y) (.str x)
def letB (c : Nat) : Bool := decide (c ∈ letters.cps.toList)
def nameB : D → Bool
  | .str x => decide ((1 : Int) ≤ x.length) && decide ((x.length : Int) ≤ 8) && !bndB x && x.cps.toList.all letB
  | _ => false
section
variable {m : Mem} {k : Nat}
theorem j_integer {d : D} (h : im d = true) : C (k + 1) 0 [d] m = .ok (.bl (intB d)) m := by
  refine call_eq (fn := f0) rfl rfl (by rfl) (bel1 h) ?_
  cases d <;> first | rfl | exact nomatch h
theorem j_within {d : D} {lo hi : Int} (h : im d = true) : C (k + 2) 1 [d, .int lo, .int hi] m = .ok (.bl (withB lo hi d)) m := by
  refine call_eq (fn := f1) rfl rfl (by rfl) (bel1 h) ?_
  cases d with
  | int i =>
    simp only [f1, b1, exSs, exS, evE, evEs, evKV, evO, evC, evI, startR, O.test, O.then_nx, O.then_rt, R.go_ok, R.bind_ok, R.of_some, tst_ok, bothD_ok, Option.map_some, List.map_cons, List.map_nil, List.length_cons, List.length_nil, List.cons_append, List.nil_append, List.getElem?_cons_zero, List.getElem?_cons_succ, List.replicate_succ, List.replicate_zero, if_true, if_false, Bool.false_eq_true, ite_true, ite_false, reduceIte, Nat.reduceAdd, Nat.reduceSub, Nat.sub_self, sOk_of, decide_true, decide_false, j_integer h, intB, cmpD]
    by_cases hh : lo ≤ i
    · simp only [exSs, exS, evE, evEs, evKV, evO, evC, evI, startR, O.test, O.then_nx, O.then_rt, R.go_ok, R.bind_ok, R.of_some, tst_ok, bothD_ok, Option.map_some, List.map_cons, List.map_nil, List.length_cons, List.length_nil, List.cons_append, List.nil_append, List.getElem?_cons_zero, List.getElem?_cons_succ, List.replicate_succ, List.replicate_zero, if_true, if_false, Bool.false_eq_true, ite_true, ite_false, reduceIte, Nat.reduceAdd, Nat.reduceSub, Nat.sub_self, sOk_of, decide_true, decide_false, hh, decide_true, withB, Bool.true_and]
    · simp only [exSs, exS, evE, evEs, evKV, evO, evC, evI, startR, O.test, O.then_nx, O.then_rt, R.go_ok, R.bind_ok, R.of_some, tst_ok, bothD_ok, Option.map_some, List.map_cons, List.map_nil, List.length_cons, List.length_nil, List.cons_append, List.nil_append, List.getElem?_cons_zero, List.getElem?_cons_succ, List.replicate_succ, List.replicate_zero, if_true, if_false, Bool.false_eq_true, ite_true, ite_false, reduceIte, Nat.reduceAdd, Nat.reduceSub, Nat.sub_self, sOk_of, decide_true, decide_false, hh, decide_false, withB, Bool.false_and]
  | _ => simp only [f1, b1, exSs, exS, evE, evEs, evKV, evO, evC, evI, startR, O.test, O.then_nx, O.then_rt, R.go_ok, R.bind_ok, R.of_some, tst_ok, bothD_ok, Option.map_some, List.map_cons, List.map_nil, List.length_cons, List.length_nil, List.cons_append, List.nil_append, List.getElem?_cons_zero, List.getElem?_cons_succ, List.replicate_succ, List.replicate_zero, if_true, if_false, Bool.false_eq_true, ite_true, ite_false, reduceIte, Nat.reduceAdd, Nat.reduceSub, Nat.sub_self, sOk_of, decide_true, decide_false, j_integer h, intB, withB]
theorem j_place {d : D} (h : im d = true) : C (k + 3) 4 [d] m = .ok (.bl (withB 0 999999999 d)) m := by
  refine call_eq (fn := f4) rfl rfl (by rfl) (bel1 h) ?_
  simp only [f4, b4, exSs, exS, evE, evEs, evKV, evO, evC, evI, startR, O.test, O.then_nx, O.then_rt, R.go_ok, R.bind_ok, R.of_some, tst_ok, bothD_ok, Option.map_some, List.map_cons, List.map_nil, List.length_cons, List.length_nil, List.cons_append, List.nil_append, List.getElem?_cons_zero, List.getElem?_cons_succ, List.replicate_succ, List.replicate_zero, if_true, if_false, Bool.false_eq_true, ite_true, ite_false, reduceIte, Nat.reduceAdd, Nat.reduceSub, Nat.sub_self, sOk_of, decide_true, decide_false, litD, binD, Int.reduceSub, j_within h]
theorem j_sized {d : D} {a b : Int} (h : im d = true) : C (k + 1) 5 [d, .int a, .int b] m = .ok (.bl (sizB a b d)) m := by
  refine call_eq (fn := f5) rfl rfl (by rfl) (bel1 h) ?_
  cases d with
  | tup xs =>
    simp only [f5, b5, exSs, exS, evE, evEs, evKV, evO, evC, evI, startR, O.test, O.then_nx, O.then_rt, R.go_ok, R.bind_ok, R.of_some, tst_ok, bothD_ok, Option.map_some, List.map_cons, List.map_nil, List.length_cons, List.length_nil, List.cons_append, List.nil_append, List.getElem?_cons_zero, List.getElem?_cons_succ, List.replicate_succ, List.replicate_zero, if_true, if_false, Bool.false_eq_true, ite_true, ite_false, reduceIte, Nat.reduceAdd, Nat.reduceSub, Nat.sub_self, sOk_of, decide_true, decide_false, isiD, tyOf, List.any_cons, List.any_nil, isTy, decide_true, Bool.or_false, biD, lenD, seqOf, cmpD]
    by_cases hh : a ≤ (xs.length : Int)
    · simp only [exSs, exS, evE, evEs, evKV, evO, evC, evI, startR, O.test, O.then_nx, O.then_rt, R.go_ok, R.bind_ok, R.of_some, tst_ok, bothD_ok, Option.map_some, List.map_cons, List.map_nil, List.length_cons, List.length_nil, List.cons_append, List.nil_append, List.getElem?_cons_zero, List.getElem?_cons_succ, List.replicate_succ, List.replicate_zero, if_true, if_false, Bool.false_eq_true, ite_true, ite_false, reduceIte, Nat.reduceAdd, Nat.reduceSub, Nat.sub_self, sOk_of, decide_true, decide_false, hh, decide_true, sizB, Bool.true_and]
    · simp only [exSs, exS, evE, evEs, evKV, evO, evC, evI, startR, O.test, O.then_nx, O.then_rt, R.go_ok, R.bind_ok, R.of_some, tst_ok, bothD_ok, Option.map_some, List.map_cons, List.map_nil, List.length_cons, List.length_nil, List.cons_append, List.nil_append, List.getElem?_cons_zero, List.getElem?_cons_succ, List.replicate_succ, List.replicate_zero, if_true, if_false, Bool.false_eq_true, ite_true, ite_false, reduceIte, Nat.reduceAdd, Nat.reduceSub, Nat.sub_self, sOk_of, decide_true, decide_false, hh, decide_false, sizB, Bool.false_and]
  | ref n => exact absurd h Bool.false_ne_true
  | pr x y => exact absurd h Bool.false_ne_true
  | fn => exact absurd h Bool.false_ne_true
  | scr n => exact absurd h Bool.false_ne_true
  | _ => rfl
theorem in_letters {c : Nat} : inD m (.str ⟨#[c]⟩) (.str letters) = some (letB c) := rfl
theorem j_signs {x : Str} {ρ : Rho} {tg : D → Rho → Option Rho} {el : Rho → Mem → R D} {cd : Rho → Mem → R Bool} (hel : ∀ c, ∃ ρ', tg (.str ⟨#[c]⟩) ρ = some ρ' ∧ cd ρ' m = .ok true m ∧ el ρ' m = .ok (.bl (letB c)) m) :
    (lcpL none tg cd el ρ (x.cps.toList.map fun c => .str ⟨#[c]⟩) [] m) = .ok (.lst (x.cps.toList.map fun c => .bl (letB c))) m := by
  have := lcp_pure (f := fun d => match d with | .str z => .bl (letB (z.cps.getD 0 0)) | _ => .non) (q := none) (tg := tg) (cd := cd) (el := el) (ρ := ρ) (m := m) rfl (x.cps.toList.map fun c => .str ⟨#[c]⟩) [] (fun y hy => by
    obtain ⟨c, _, rfl⟩ := List.mem_map.mp hy
    exact hel c)
  rw [this, List.nil_append, List.map_map]
  rfl
theorem all_let (x : Str) : allD [.lst (x.cps.toList.map fun c => .bl (letB c))] m = .ok (.bl (x.cps.toList.all letB)) m := by
  have := allD_map (m := m) (x.cps.toList.map letB)
  rw [List.map_map] at this
  rw [show (x.cps.toList.map fun c => D.bl (letB c)) = x.cps.toList.map (D.bl ∘ letB) from rfl, this, List.all_map]
  rfl
theorem in_bound {x : Str} : inD m (.str x) (.tup [.str (Str.ofString "nil"), .str (Str.ofString "new"), .str (Str.ofString "free"), .str (Str.ofString "if"), .str (Str.ofString "else"), .str (Str.ofString "while"), .str (Str.ofString "keep"), .str (Str.ofString "emp")]) = some (bndB x) := rfl
theorem j_name {d : D} (h : im d = true) : C (k + 1) 2 [d] m = .ok (.bl (nameB d)) m := by
  refine call_eq (fn := f2) rfl rfl (by rfl) (bel1 h) ?_
  cases d with
  | str x =>
    have hx : x.length ≤ lim := of_decide_eq_true h
    simp only [f2, b2, exSs, exS, evE, evEs, evKV, evO, evC, evI, startR, O.test, O.then_nx, O.then_rt, R.go_ok, R.bind_ok, R.of_some, tst_ok, bothD_ok, Option.map_some, List.map_cons, List.map_nil, List.length_cons, List.length_nil, List.cons_append, List.nil_append, List.getElem?_cons_zero, List.getElem?_cons_succ, List.replicate_succ, List.replicate_zero, if_true, if_false, Bool.false_eq_true, ite_true, ite_false, reduceIte, Nat.reduceAdd, Nat.reduceSub, Nat.sub_self, sOk_of, decide_true, decide_false, isiD, tyOf, List.any_cons, List.any_nil, isTy, decide_true, Bool.or_false, Bool.not_true, biD, lenD, hx, cmpD, litD]
    by_cases h1 : (1 : Int) ≤ x.length
    case neg => simp only [exSs, exS, evE, evEs, evKV, evO, evC, evI, startR, O.test, O.then_nx, O.then_rt, R.go_ok, R.bind_ok, R.of_some, tst_ok, bothD_ok, Option.map_some, List.map_cons, List.map_nil, List.length_cons, List.length_nil, List.cons_append, List.nil_append, List.getElem?_cons_zero, List.getElem?_cons_succ, List.replicate_succ, List.replicate_zero, if_true, if_false, Bool.false_eq_true, ite_true, ite_false, reduceIte, Nat.reduceAdd, Nat.reduceSub, Nat.sub_self, sOk_of, decide_true, decide_false, h1, decide_false, Bool.not_false, nameB, Bool.false_and]
    simp only [exSs, exS, evE, evEs, evKV, evO, evC, evI, startR, O.test, O.then_nx, O.then_rt, R.go_ok, R.bind_ok, R.of_some, tst_ok, bothD_ok, Option.map_some, List.map_cons, List.map_nil, List.length_cons, List.length_nil, List.cons_append, List.nil_append, List.getElem?_cons_zero, List.getElem?_cons_succ, List.replicate_succ, List.replicate_zero, if_true, if_false, Bool.false_eq_true, ite_true, ite_false, reduceIte, Nat.reduceAdd, Nat.reduceSub, Nat.sub_self, sOk_of, decide_true, decide_false, h1, decide_true]
    by_cases h8 : (x.length : Int) ≤ 8
    case neg => simp only [exSs, exS, evE, evEs, evKV, evO, evC, evI, startR, O.test, O.then_nx, O.then_rt, R.go_ok, R.bind_ok, R.of_some, tst_ok, bothD_ok, Option.map_some, List.map_cons, List.map_nil, List.length_cons, List.length_nil, List.cons_append, List.nil_append, List.getElem?_cons_zero, List.getElem?_cons_succ, List.replicate_succ, List.replicate_zero, if_true, if_false, Bool.false_eq_true, ite_true, ite_false, reduceIte, Nat.reduceAdd, Nat.reduceSub, Nat.sub_self, sOk_of, decide_true, decide_false, h8, decide_false, Bool.not_false, nameB, Bool.false_and, Bool.and_false]
    simp only [exSs, exS, evE, evEs, evKV, evO, evC, evI, startR, O.test, O.then_nx, O.then_rt, R.go_ok, R.bind_ok, R.of_some, tst_ok, bothD_ok, Option.map_some, List.map_cons, List.map_nil, List.length_cons, List.length_nil, List.cons_append, List.nil_append, List.getElem?_cons_zero, List.getElem?_cons_succ, List.replicate_succ, List.replicate_zero, if_true, if_false, Bool.false_eq_true, ite_true, ite_false, reduceIte, Nat.reduceAdd, Nat.reduceSub, Nat.sub_self, sOk_of, decide_true, decide_false, h8, decide_true, Bool.not_true]
    simp only [in_bound, exSs, exS, evE, evEs, evKV, evO, evC, evI, startR, O.test, O.then_nx, O.then_rt, R.go_ok, R.bind_ok, R.of_some, tst_ok, bothD_ok, Option.map_some, List.map_cons, List.map_nil, List.length_cons, List.length_nil, List.cons_append, List.nil_append, List.getElem?_cons_zero, List.getElem?_cons_succ, List.replicate_succ, List.replicate_zero, if_true, if_false, Bool.false_eq_true, ite_true, ite_false, reduceIte, Nat.reduceAdd, Nat.reduceSub, Nat.sub_self, sOk_of, decide_true, decide_false]
    cases hb : bndB x with
    | true => simp only [exSs, exS, evE, evEs, evKV, evO, evC, evI, startR, O.test, O.then_nx, O.then_rt, R.go_ok, R.bind_ok, R.of_some, tst_ok, bothD_ok, Option.map_some, List.map_cons, List.map_nil, List.length_cons, List.length_nil, List.cons_append, List.nil_append, List.getElem?_cons_zero, List.getElem?_cons_succ, List.replicate_succ, List.replicate_zero, if_true, if_false, Bool.false_eq_true, ite_true, ite_false, reduceIte, Nat.reduceAdd, Nat.reduceSub, Nat.sub_self, sOk_of, decide_true, decide_false, nameB, hb, Bool.not_true, Bool.and_false, Bool.false_and]
    | false =>
      have hl : (x.cps.toList.map fun c => D.str ⟨#[c]⟩).length ≤ lim := by rw [List.length_map]; exact hx
      simp only [exSs, exS, evE, evEs, evKV, evO, evC, evI, startR, O.test, O.then_nx, O.then_rt, R.go_ok, R.bind_ok, R.of_some, tst_ok, bothD_ok, Option.map_some, List.map_cons, List.map_nil, List.length_cons, List.length_nil, List.cons_append, List.nil_append, List.getElem?_cons_zero, List.getElem?_cons_succ, List.replicate_succ, List.replicate_zero, if_true, if_false, Bool.false_eq_true, ite_true, ite_false, reduceIte, Nat.reduceAdd, Nat.reduceSub, Nat.sub_self, sOk_of, decide_true, decide_false, itsD, Nat.not_lt.mpr hl, wipeR, List.set_cons_succ, List.set_cons_zero]
      rw [j_signs (m := []) (x := x) fun c => ⟨[some (.str x), some (.str ⟨#[c]⟩)], rfl, rfl, rfl⟩]
      simp only [exSs, exS, evE, evEs, evKV, evO, evC, evI, startR, O.test, O.then_nx, O.then_rt, R.go_ok, R.bind_ok, R.of_some, tst_ok, bothD_ok, Option.map_some, List.map_cons, List.map_nil, List.length_cons, List.length_nil, List.cons_append, List.nil_append, List.getElem?_cons_zero, List.getElem?_cons_succ, List.replicate_succ, List.replicate_zero, if_true, if_false, Bool.false_eq_true, ite_true, ite_false, reduceIte, Nat.reduceAdd, Nat.reduceSub, Nat.sub_self, sOk_of, decide_true, decide_false, all_let, nameB, hb, h1, h8, decide_true, Bool.not_false, Bool.true_and]
  | ref n => exact absurd h Bool.false_ne_true
  | pr x y => exact absurd h Bool.false_ne_true
  | fn => exact absurd h Bool.false_ne_true
  | scr n => exact absurd h Bool.false_ne_true
  | _ => rfl
def termB : D → Bool
  | .str x => nameB (.str x) || PyData.eqv (.str x) (.str (Str.ofString "nil"))
  | _ => false
theorem eqS (x y : Str) (m : Mem) : cmpD .Eq (.str x) (.str y) m = some (PyData.eqv (.str x) (.str y)) := rfl
theorem j_term {d : D} (h : im d = true) : C (k + 2) 3 [d] m = .ok (.bl (termB d)) m := by
  refine call_eq (fn := f3) rfl rfl (by rfl) (bel1 h) ?_
  simp only [f3, b3, exSs, exS, evE, evEs, evKV, evO, evC, evI, startR, O.test, O.then_nx, O.then_rt, R.go_ok, R.bind_ok, R.of_some, tst_ok, bothD_ok, Option.map_some, List.map_cons, List.map_nil, List.length_cons, List.length_nil, List.cons_append, List.nil_append, List.getElem?_cons_zero, List.getElem?_cons_succ, List.replicate_succ, List.replicate_zero, if_true, if_false, Bool.false_eq_true, ite_true, ite_false, reduceIte, Nat.reduceAdd, Nat.reduceSub, Nat.sub_self, sOk_of, decide_true, decide_false, j_name h]
  cases d with
  | str x =>
    cases hn : nameB (.str x) with
    | true => simp only [exSs, exS, evE, evEs, evKV, evO, evC, evI, startR, O.test, O.then_nx, O.then_rt, R.go_ok, R.bind_ok, R.of_some, tst_ok, bothD_ok, Option.map_some, List.map_cons, List.map_nil, List.length_cons, List.length_nil, List.cons_append, List.nil_append, List.getElem?_cons_zero, List.getElem?_cons_succ, List.replicate_succ, List.replicate_zero, if_true, if_false, Bool.false_eq_true, ite_true, ite_false, reduceIte, Nat.reduceAdd, Nat.reduceSub, Nat.sub_self, sOk_of, decide_true, decide_false, termB, hn, Bool.true_or]
    | false => simp only [exSs, exS, evE, evEs, evKV, evO, evC, evI, startR, O.test, O.then_nx, O.then_rt, R.go_ok, R.bind_ok, R.of_some, tst_ok, bothD_ok, Option.map_some, List.map_cons, List.map_nil, List.length_cons, List.length_nil, List.cons_append, List.nil_append, List.getElem?_cons_zero, List.getElem?_cons_succ, List.replicate_succ, List.replicate_zero, if_true, if_false, Bool.false_eq_true, ite_true, ite_false, reduceIte, Nat.reduceAdd, Nat.reduceSub, Nat.sub_self, sOk_of, decide_true, decide_false, termB, hn, Bool.false_or, isiD, tyOf, List.any_cons, List.any_nil, isTy, decide_true, Bool.or_false, eqS]
  | ref n => exact absurd h Bool.false_ne_true
  | pr x y => exact absurd h Bool.false_ne_true
  | fn => exact absurd h Bool.false_ne_true
  | scr n => exact absurd h Bool.false_ne_true
  | _ => rfl
/-! rows of pairs -/
def two : D → Bool := sizB 2 2
def fstD : D → D
  | .tup (a :: _) => a
  | _ => .non
theorem fst_im {p : D} (h : im p = true) : im (fstD p) = true := by
  cases p with
  | tup xs =>
    cases xs with
    | nil => rfl
    | cons a r =>
      unfold im ims at h
      rw [Bool.and_eq_true] at h
      exact h.1
  | _ => rfl
def sndD : D → D
  | .tup (_ :: b :: _) => b
  | _ => .non
def ltB (a b : D) : Bool := match ltD a b with
  | some b => b
  | none => false
def risB (ks : List D) : Bool := (List.range (ks.length - 1)).all fun i => ltB (ks.getD i .non) (ks.getD (i + 1) .non)
def stackP (p : D) : Bool := nameB (fstD p) && withB 0 999999999 (sndD p)
def heapP (p : D) : Bool := withB 1 999999999 (fstD p) && withB 0 999999999 (sndD p)
def rowB (n : Int) (h : D → Bool) : D → Bool
  | .tup xs => decide ((xs.length : Int) ≤ n) && xs.all two && xs.all h && risB (xs.map fstD)
  | _ => false
theorem two_inv {p : D} (h : two p = true) : ∃ a b, p = .tup [a, b] := by
  unfold two sizB at h
  split at h
  · rename_i xs
    rw [Bool.and_eq_true, decide_eq_true_eq, decide_eq_true_eq] at h
    have : xs.length = 2 := by omega
    match xs, this with
    | [a, b], _ => exact ⟨a, b, rfl⟩
  · cases h
theorem lcp_range {n : Nat} {tg : D → Rho → Option Rho} {cd : Rho → Mem → R Bool} {el : Rho → Mem → R D} {ρ : Rho} {p : Nat → Bool} (h : ∀ i, i < n → ∃ ρ', tg (.int (i : Nat)) ρ = some ρ' ∧ cd ρ' m = .ok true m ∧ el ρ' m = .ok (.bl (p i)) m) :
    lcpL none tg cd el ρ ((List.range n).map fun (i : Nat) => D.int (0 + (i : Int))) [] m = .ok (.lst (((List.range n).map p).map .bl)) m := by
  rw [lcp_pure (f := fun d => match d with | .int i => .bl (p i.toNat) | _ => .non) (q := none) rfl _ _ fun y hy => ?_, List.nil_append, List.map_map, List.map_map]
  · congr 2
    refine List.map_congr_left fun i hi => ?_
    show D.bl (p (0 + (i : Int)).toNat) = D.bl (p i)
    rw [Int.zero_add, Int.toNat_natCast]
  · obtain ⟨i, hi, rfl⟩ := List.mem_map.mp hy
    obtain ⟨ρ', h1, h2, h3⟩ := h i (List.mem_range.mp hi)
    refine ⟨ρ', ?_, h2, ?_⟩
    · rw [Int.zero_add]; exact h1
    · dsimp only
      rw [Int.zero_add, Int.toNat_natCast]; exact h3
theorem j_rising {ks : List D} (hb : ims ks = true) (hl : ks.length ≤ 1000) (h : ∀ i, i + 1 < ks.length → ltD (ks.getD i .non) (ks.getD (i + 1) .non) = some (ltB (ks.getD i .non) (ks.getD (i + 1) .non))) : C (k + 1) 6 [.lst ks] m = .ok (.bl (risB ks)) m := by
  refine call_eq (fn := f6) rfl rfl (by rfl) (bel1 (d := .lst ks) hb) ?_
  have hr := rng_nat (i := (ks.length : Int) - 1) (ks.length - 1) (by omega) (by omega) (by show _ ≤ (16777216 : Int); omega)
  have hle : ¬ lim < ((List.range (ks.length - 1)).map fun (j : Nat) => D.int (0 + (j : Int))).length := by
    rw [List.length_map, List.length_range]; show ¬ 16777216 < _; omega
  simp only [f6, b6, exSs, exS, evE, evEs, evKV, evO, evC, evI, startR, O.test, O.then_nx, O.then_rt, R.go_ok, R.bind_ok, R.of_some, tst_ok, bothD_ok, Option.map_some, List.map_cons, List.map_nil, List.length_cons, List.length_nil, List.cons_append, List.nil_append, List.getElem?_cons_zero, List.getElem?_cons_succ, List.replicate_succ, List.replicate_zero, if_true, if_false, Bool.false_eq_true, ite_true, ite_false, reduceIte, Nat.reduceAdd, Nat.reduceSub, Nat.sub_self, sOk_of, decide_true, decide_false, biD, lenD, seqOf, lstOf, litD, binD, hr, hle, wipeR, List.set_cons_succ, List.set_cons_zero]
  rw [lcp_range (p := fun i => ltB (ks.getD i .non) (ks.getD (i + 1) .non)) fun i hi => ⟨[some (.lst ks), some (.int i)], rfl, rfl, ?_⟩]
  · simp only [exSs, exS, evE, evEs, evKV, evO, evC, evI, startR, O.test, O.then_nx, O.then_rt, R.go_ok, R.bind_ok, R.of_some, tst_ok, bothD_ok, Option.map_some, List.map_cons, List.map_nil, List.length_cons, List.length_nil, List.cons_append, List.nil_append, List.getElem?_cons_zero, List.getElem?_cons_succ, List.replicate_succ, List.replicate_zero, if_true, if_false, Bool.false_eq_true, ite_true, ite_false, reduceIte, Nat.reduceAdd, Nat.reduceSub, Nat.sub_self, sOk_of, decide_true, decide_false, allD_map, List.all_map]
    rfl
  · have h1 : i < ks.length := by omega
    have h2 : i + 1 < ks.length := by omega
    have e2 : atI ks ((i : Int) + 1) = some (ks.getD (i + 1) .non) := at_nat (i := i + 1) h2
    simp only [exSs, exS, evE, evEs, evKV, evO, evC, evI, startR, O.test, O.then_nx, O.then_rt, R.go_ok, R.bind_ok, R.of_some, tst_ok, bothD_ok, Option.map_some, List.map_cons, List.map_nil, List.length_cons, List.length_nil, List.cons_append, List.nil_append, List.getElem?_cons_zero, List.getElem?_cons_succ, List.replicate_succ, List.replicate_zero, if_true, if_false, Bool.false_eq_true, ite_true, ite_false, reduceIte, Nat.reduceAdd, Nat.reduceSub, Nat.sub_self, sOk_of, decide_true, decide_false, idxD, seqOf, lstOf, at_nat h1, addD, e2, cmpD, h i h2, calmR]
theorem lcp_bool {xs : List D} {tg : D → Rho → Option Rho} {cd : Rho → Mem → R Bool} {el : Rho → Mem → R D} {ρ : Rho} {p : D → Bool} (h : ∀ x ∈ xs, ∃ ρ', tg x ρ = some ρ' ∧ cd ρ' m = .ok true m ∧ el ρ' m = .ok (.bl (p x)) m) :
    lcpL none tg cd el ρ xs [] m = .ok (.lst ((xs.map p).map .bl)) m := by
  rw [lcp_pure (f := fun d => .bl (p d)) (q := none) rfl _ _ h, List.nil_append, List.map_map]
  rfl
theorem all_id (xs : List D) (p : D → Bool) : (xs.map p).all id = xs.all p := by
  rw [List.all_map]; rfl
theorem siz_inv {d : D} {n : Int} (h : sizB 0 n d = true) : ∃ xs, d = .tup xs ∧ (xs.length : Int) ≤ n := by
  cases d with
  | tup xs =>
    unfold sizB at h
    rw [Bool.and_eq_true, decide_eq_true_eq, decide_eq_true_eq] at h
    exact ⟨xs, rfl, h.2⟩
  | _ => exact absurd h Bool.false_ne_true
theorem row_no {d : D} {n : Int} {p : D → Bool} (h : sizB 0 n d = false) : rowB n p d = false := by
  cases d with
  | tup xs =>
    have h : (decide ((0 : Int) ≤ xs.length) && decide ((xs.length : Int) ≤ n)) = false := h
    have : decide ((0 : Int) ≤ xs.length) = true := decide_eq_true (by omega)
    rw [this, Bool.true_and] at h
    show (decide ((xs.length : Int) ≤ n) && _ && _ && _) = false
    rw [h]; rfl
  | _ => rfl
theorem im_pair {a b : D} (h : im (.tup [a, b]) = true) : im a = true ∧ im b = true := by
  have h : (im a && (im b && true)) = true := h
  rw [Bool.and_true, Bool.and_eq_true] at h
  exact h
theorem idx0 {a b : D} : idxD (.tup [a, b]) (.int 0) m = some a := rfl
theorem idx1 {a b : D} : idxD (.tup [a, b]) (.int 1) m = some b := rfl
theorem lt_names {a b : D} (ha : nameB a = true) (hb : nameB b = true) : ltD a b = some (ltB a b) := by
  cases a with
  | str x =>
    cases b with
    | str y => rfl
    | _ => exact absurd hb Bool.false_ne_true
  | _ => exact absurd ha Bool.false_ne_true
theorem lt_ints {a b : D} {lo hi lo2 hi2 : Int} (ha : withB lo hi a = true) (hb : withB lo2 hi2 b = true) : ltD a b = some (ltB a b) := by
  cases a with
  | int x =>
    cases b with
    | int y => rfl
    | _ => exact absurd hb Bool.false_ne_true
  | _ => exact absurd ha Bool.false_ne_true
theorem get_map {xs : List D} {i : Nat} (h : i < xs.length) : (xs.map fstD).getD i .non = fstD (xs.getD i .non) := by
  rw [List.getD_eq_getElem?_getD, List.getD_eq_getElem?_getD, List.getElem?_map, List.getElem?_eq_getElem h]
  rfl
theorem lt_rows {xs : List D} {p : D → Bool} (hp : ∀ a b, p a = true → p b = true → ltD (fstD a) (fstD b) = some (ltB (fstD a) (fstD b))) (h : xs.all p = true) (i : Nat) (hi : i + 1 < xs.length) :
    ltD ((xs.map fstD).getD i .non) ((xs.map fstD).getD (i + 1) .non) = some (ltB ((xs.map fstD).getD i .non) ((xs.map fstD).getD (i + 1) .non)) := by
  rw [get_map (by omega), get_map hi]
  exact hp _ _ (List.all_eq_true.mp h _ (getD_mem (by omega))) (List.all_eq_true.mp h _ (getD_mem hi))
theorem lt_stack (a b : D) (ha : stackP a = true) (hb : stackP b = true) : ltD (fstD a) (fstD b) = some (ltB (fstD a) (fstD b)) := by
  unfold stackP at ha hb
  rw [Bool.and_eq_true] at ha hb
  exact lt_names ha.1 hb.1
theorem lt_heap (a b : D) (ha : heapP a = true) (hb : heapP b = true) : ltD (fstD a) (fstD b) = some (ltB (fstD a) (fstD b)) := by
  unfold heapP at ha hb
  rw [Bool.and_eq_true] at ha hb
  exact lt_ints ha.1 hb.1
theorem small_len {xs : List D} {n : Int} (h : (xs.length : Int) ≤ n) (hn : n ≤ 60) : ¬ lim < xs.length := by
  show ¬ 16777216 < _; omega
theorem lcp_fst {xs : List D} {tg : D → Rho → Option Rho} {cd : Rho → Mem → R Bool} {el : Rho → Mem → R D} {ρ : Rho} (h : ∀ x ∈ xs, ∃ ρ', tg x ρ = some ρ' ∧ cd ρ' m = .ok true m ∧ el ρ' m = .ok (fstD x) m) :
    lcpL none tg cd el ρ xs [] m = .ok (.lst (xs.map fstD)) m := by
  rw [lcp_pure (f := fstD) (q := none) rfl _ _ h, List.nil_append]
theorem j_stack {d : D} (h : im d = true) : C (k + 4) 7 [d] m = .ok (.bl (rowB 8 stackP d)) m := by
  refine call_eq (fn := f7) rfl rfl (by rfl) (bel1 h) ?_
  simp only [f7, b7, exSs, exS, evE, evEs, evKV, evO, evC, evI, startR, O.test, O.then_nx, O.then_rt, R.go_ok, R.bind_ok, R.of_some, tst_ok, bothD_ok, Option.map_some, List.map_cons, List.map_nil, List.length_cons, List.length_nil, List.cons_append, List.nil_append, List.getElem?_cons_zero, List.getElem?_cons_succ, List.replicate_succ, List.replicate_zero, if_true, if_false, Bool.false_eq_true, ite_true, ite_false, reduceIte, Nat.reduceAdd, Nat.reduceSub, Nat.sub_self, sOk_of, decide_true, decide_false, litD, j_sized h]
  cases hs : sizB 0 8 d with
  | false => simp only [exSs, exS, evE, evEs, evKV, evO, evC, evI, startR, O.test, O.then_nx, O.then_rt, R.go_ok, R.bind_ok, R.of_some, tst_ok, bothD_ok, Option.map_some, List.map_cons, List.map_nil, List.length_cons, List.length_nil, List.cons_append, List.nil_append, List.getElem?_cons_zero, List.getElem?_cons_succ, List.replicate_succ, List.replicate_zero, if_true, if_false, Bool.false_eq_true, ite_true, ite_false, reduceIte, Nat.reduceAdd, Nat.reduceSub, Nat.sub_self, sOk_of, decide_true, decide_false, Bool.not_false, row_no hs]
  | true =>
    obtain ⟨xs, rfl, hl⟩ := siz_inv hs
    have hm := ims_mem (show ims xs = true from h)
    simp only [exSs, exS, evE, evEs, evKV, evO, evC, evI, startR, O.test, O.then_nx, O.then_rt, R.go_ok, R.bind_ok, R.of_some, tst_ok, bothD_ok, Option.map_some, List.map_cons, List.map_nil, List.length_cons, List.length_nil, List.cons_append, List.nil_append, List.getElem?_cons_zero, List.getElem?_cons_succ, List.replicate_succ, List.replicate_zero, if_true, if_false, Bool.false_eq_true, ite_true, ite_false, reduceIte, Nat.reduceAdd, Nat.reduceSub, Nat.sub_self, sOk_of, decide_true, decide_false, Bool.not_true, itsD, seqOf, small_len hl (by decide), wipeR, List.set_cons_succ, List.set_cons_zero]
    rw [lcp_bool (p := two) fun x hx => ⟨[some (.tup xs), some x], rfl, rfl, ?_⟩]
    rotate_left
    · simp only [exSs, exS, evE, evEs, evKV, evO, evC, evI, startR, O.test, O.then_nx, O.then_rt, R.go_ok, R.bind_ok, R.of_some, tst_ok, bothD_ok, Option.map_some, List.map_cons, List.map_nil, List.length_cons, List.length_nil, List.cons_append, List.nil_append, List.getElem?_cons_zero, List.getElem?_cons_succ, List.replicate_succ, List.replicate_zero, if_true, if_false, Bool.false_eq_true, ite_true, ite_false, reduceIte, Nat.reduceAdd, Nat.reduceSub, Nat.sub_self, sOk_of, decide_true, decide_false, j_sized (hm x hx), calmR, two]
    simp only [exSs, exS, evE, evEs, evKV, evO, evC, evI, startR, O.test, O.then_nx, O.then_rt, R.go_ok, R.bind_ok, R.of_some, tst_ok, bothD_ok, Option.map_some, List.map_cons, List.map_nil, List.length_cons, List.length_nil, List.cons_append, List.nil_append, List.getElem?_cons_zero, List.getElem?_cons_succ, List.replicate_succ, List.replicate_zero, if_true, if_false, Bool.false_eq_true, ite_true, ite_false, reduceIte, Nat.reduceAdd, Nat.reduceSub, Nat.sub_self, sOk_of, decide_true, decide_false, biD, allD_map, all_id]
    cases h2 : xs.all two with
    | false => simp only [exSs, exS, evE, evEs, evKV, evO, evC, evI, startR, O.test, O.then_nx, O.then_rt, R.go_ok, R.bind_ok, R.of_some, tst_ok, bothD_ok, Option.map_some, List.map_cons, List.map_nil, List.length_cons, List.length_nil, List.cons_append, List.nil_append, List.getElem?_cons_zero, List.getElem?_cons_succ, List.replicate_succ, List.replicate_zero, if_true, if_false, Bool.false_eq_true, ite_true, ite_false, reduceIte, Nat.reduceAdd, Nat.reduceSub, Nat.sub_self, sOk_of, decide_true, decide_false, Bool.not_false, rowB, h2, Bool.and_false, Bool.false_and]
    | true =>
      simp only [exSs, exS, evE, evEs, evKV, evO, evC, evI, startR, O.test, O.then_nx, O.then_rt, R.go_ok, R.bind_ok, R.of_some, tst_ok, bothD_ok, Option.map_some, List.map_cons, List.map_nil, List.length_cons, List.length_nil, List.cons_append, List.nil_append, List.getElem?_cons_zero, List.getElem?_cons_succ, List.replicate_succ, List.replicate_zero, if_true, if_false, Bool.false_eq_true, ite_true, ite_false, reduceIte, Nat.reduceAdd, Nat.reduceSub, Nat.sub_self, sOk_of, decide_true, decide_false, Bool.not_true, itsD, seqOf, small_len hl (by decide), wipeR, List.set_cons_succ, List.set_cons_zero]
      rw [lcp_bool (p := stackP) fun x hx => ⟨[some (.tup xs), some x], rfl, rfl, ?_⟩]
      rotate_left
      · obtain ⟨a, b, rfl⟩ := two_inv (List.all_eq_true.mp h2 x hx)
        obtain ⟨ia, ib⟩ := im_pair (hm _ hx)
        simp only [exSs, exS, evE, evEs, evKV, evO, evC, evI, startR, O.test, O.then_nx, O.then_rt, R.go_ok, R.bind_ok, R.of_some, tst_ok, bothD_ok, Option.map_some, List.map_cons, List.map_nil, List.length_cons, List.length_nil, List.cons_append, List.nil_append, List.getElem?_cons_zero, List.getElem?_cons_succ, List.replicate_succ, List.replicate_zero, if_true, if_false, Bool.false_eq_true, ite_true, ite_false, reduceIte, Nat.reduceAdd, Nat.reduceSub, Nat.sub_self, sOk_of, decide_true, decide_false, litD, idx0, idx1, j_name ia, j_place ib]
        cases hn : nameB a with
        | false => simp only [exSs, exS, evE, evEs, evKV, evO, evC, evI, startR, O.test, O.then_nx, O.then_rt, R.go_ok, R.bind_ok, R.of_some, tst_ok, bothD_ok, Option.map_some, List.map_cons, List.map_nil, List.length_cons, List.length_nil, List.cons_append, List.nil_append, List.getElem?_cons_zero, List.getElem?_cons_succ, List.replicate_succ, List.replicate_zero, if_true, if_false, Bool.false_eq_true, ite_true, ite_false, reduceIte, Nat.reduceAdd, Nat.reduceSub, Nat.sub_self, sOk_of, decide_true, decide_false, calmR, stackP, fstD, hn, Bool.false_and]
        | true => simp only [exSs, exS, evE, evEs, evKV, evO, evC, evI, startR, O.test, O.then_nx, O.then_rt, R.go_ok, R.bind_ok, R.of_some, tst_ok, bothD_ok, Option.map_some, List.map_cons, List.map_nil, List.length_cons, List.length_nil, List.cons_append, List.nil_append, List.getElem?_cons_zero, List.getElem?_cons_succ, List.replicate_succ, List.replicate_zero, if_true, if_false, Bool.false_eq_true, ite_true, ite_false, reduceIte, Nat.reduceAdd, Nat.reduceSub, Nat.sub_self, sOk_of, decide_true, decide_false, calmR, stackP, fstD, sndD, hn, Bool.true_and]
      simp only [exSs, exS, evE, evEs, evKV, evO, evC, evI, startR, O.test, O.then_nx, O.then_rt, R.go_ok, R.bind_ok, R.of_some, tst_ok, bothD_ok, Option.map_some, List.map_cons, List.map_nil, List.length_cons, List.length_nil, List.cons_append, List.nil_append, List.getElem?_cons_zero, List.getElem?_cons_succ, List.replicate_succ, List.replicate_zero, if_true, if_false, Bool.false_eq_true, ite_true, ite_false, reduceIte, Nat.reduceAdd, Nat.reduceSub, Nat.sub_self, sOk_of, decide_true, decide_false, biD, allD_map, all_id]
      cases h3 : xs.all stackP with
      | false => simp only [exSs, exS, evE, evEs, evKV, evO, evC, evI, startR, O.test, O.then_nx, O.then_rt, R.go_ok, R.bind_ok, R.of_some, tst_ok, bothD_ok, Option.map_some, List.map_cons, List.map_nil, List.length_cons, List.length_nil, List.cons_append, List.nil_append, List.getElem?_cons_zero, List.getElem?_cons_succ, List.replicate_succ, List.replicate_zero, if_true, if_false, Bool.false_eq_true, ite_true, ite_false, reduceIte, Nat.reduceAdd, Nat.reduceSub, Nat.sub_self, sOk_of, decide_true, decide_false, Bool.not_false, rowB, h3, Bool.and_false, Bool.false_and]
      | true =>
        simp only [exSs, exS, evE, evEs, evKV, evO, evC, evI, startR, O.test, O.then_nx, O.then_rt, R.go_ok, R.bind_ok, R.of_some, tst_ok, bothD_ok, Option.map_some, List.map_cons, List.map_nil, List.length_cons, List.length_nil, List.cons_append, List.nil_append, List.getElem?_cons_zero, List.getElem?_cons_succ, List.replicate_succ, List.replicate_zero, if_true, if_false, Bool.false_eq_true, ite_true, ite_false, reduceIte, Nat.reduceAdd, Nat.reduceSub, Nat.sub_self, sOk_of, decide_true, decide_false, Bool.not_true, itsD, seqOf, small_len hl (by decide), wipeR, List.set_cons_succ, List.set_cons_zero]
        rw [lcp_fst fun x hx => ⟨[some (.tup xs), some x], rfl, rfl, ?_⟩]
        rotate_left
        · obtain ⟨a, b, rfl⟩ := two_inv (List.all_eq_true.mp h2 x hx)
          simp only [exSs, exS, evE, evEs, evKV, evO, evC, evI, startR, O.test, O.then_nx, O.then_rt, R.go_ok, R.bind_ok, R.of_some, tst_ok, bothD_ok, Option.map_some, List.map_cons, List.map_nil, List.length_cons, List.length_nil, List.cons_append, List.nil_append, List.getElem?_cons_zero, List.getElem?_cons_succ, List.replicate_succ, List.replicate_zero, if_true, if_false, Bool.false_eq_true, ite_true, ite_false, reduceIte, Nat.reduceAdd, Nat.reduceSub, Nat.sub_self, sOk_of, decide_true, decide_false, litD, idx0, calmR, fstD]
        have hr : callAt T wf (k + 3) 6 [.lst (xs.map fstD)] [] = .ok (.bl (risB (xs.map fstD))) [] := j_rising (k := k + 2) (ims_of fun e he => by obtain ⟨x, hx, rfl⟩ := List.mem_map.mp he; exact fst_im (ims_mem h x hx)) (by rw [List.length_map]; omega) fun i hi => lt_rows lt_stack h3 i (by rwa [List.length_map] at hi)
        simp only [exSs, exS, evE, evEs, evKV, evO, evC, evI, startR, O.test, O.then_nx, O.then_rt, R.go_ok, R.bind_ok, R.of_some, tst_ok, bothD_ok, Option.map_some, List.map_cons, List.map_nil, List.length_cons, List.length_nil, List.cons_append, List.nil_append, List.getElem?_cons_zero, List.getElem?_cons_succ, List.replicate_succ, List.replicate_zero, if_true, if_false, Bool.false_eq_true, ite_true, ite_false, reduceIte, Nat.reduceAdd, Nat.reduceSub, Nat.sub_self, sOk_of, decide_true, decide_false, hr, rowB, h2, h3, hl, decide_true, Bool.true_and]
theorem with_pos (a : D) : (withB 0 999999999 a && (match a with | .int i => decide (0 < i) | _ => false)) = withB 1 999999999 a := by
  cases a with
  | int i =>
    show (decide (0 ≤ i) && decide (i ≤ 999999999) && decide (0 < i)) = (decide (1 ≤ i) && decide (i ≤ 999999999))
    by_cases h : 0 < i
    · have h1 : (0 : Int) ≤ i := by omega
      have h2 : (1 : Int) ≤ i := by omega
      simp [h, h1, h2]
    · have h2 : ¬ (1 : Int) ≤ i := by omega
      simp [h, h2]
  | _ => rfl
theorem with_int {lo hi : Int} {a : D} (h : withB lo hi a = true) : ∃ i, a = .int i := by
  cases a with
  | int i => exact ⟨i, rfl⟩
  | _ => exact absurd h Bool.false_ne_true
theorem j_heap {d : D} (h : im d = true) : C (k + 4) 8 [d] m = .ok (.bl (rowB 60 heapP d)) m := by
  refine call_eq (fn := f8) rfl rfl (by rfl) (bel1 h) ?_
  simp only [f8, b8, exSs, exS, evE, evEs, evKV, evO, evC, evI, startR, O.test, O.then_nx, O.then_rt, R.go_ok, R.bind_ok, R.of_some, tst_ok, bothD_ok, Option.map_some, List.map_cons, List.map_nil, List.length_cons, List.length_nil, List.cons_append, List.nil_append, List.getElem?_cons_zero, List.getElem?_cons_succ, List.replicate_succ, List.replicate_zero, if_true, if_false, Bool.false_eq_true, ite_true, ite_false, reduceIte, Nat.reduceAdd, Nat.reduceSub, Nat.sub_self, sOk_of, decide_true, decide_false, litD, j_sized h]
  cases hs : sizB 0 60 d with
  | false => simp only [exSs, exS, evE, evEs, evKV, evO, evC, evI, startR, O.test, O.then_nx, O.then_rt, R.go_ok, R.bind_ok, R.of_some, tst_ok, bothD_ok, Option.map_some, List.map_cons, List.map_nil, List.length_cons, List.length_nil, List.cons_append, List.nil_append, List.getElem?_cons_zero, List.getElem?_cons_succ, List.replicate_succ, List.replicate_zero, if_true, if_false, Bool.false_eq_true, ite_true, ite_false, reduceIte, Nat.reduceAdd, Nat.reduceSub, Nat.sub_self, sOk_of, decide_true, decide_false, Bool.not_false, row_no hs]
  | true =>
    obtain ⟨xs, rfl, hl⟩ := siz_inv hs
    have hm := ims_mem (show ims xs = true from h)
    simp only [exSs, exS, evE, evEs, evKV, evO, evC, evI, startR, O.test, O.then_nx, O.then_rt, R.go_ok, R.bind_ok, R.of_some, tst_ok, bothD_ok, Option.map_some, List.map_cons, List.map_nil, List.length_cons, List.length_nil, List.cons_append, List.nil_append, List.getElem?_cons_zero, List.getElem?_cons_succ, List.replicate_succ, List.replicate_zero, if_true, if_false, Bool.false_eq_true, ite_true, ite_false, reduceIte, Nat.reduceAdd, Nat.reduceSub, Nat.sub_self, sOk_of, decide_true, decide_false, Bool.not_true, itsD, seqOf, small_len hl (by decide), wipeR, List.set_cons_succ, List.set_cons_zero]
    rw [lcp_bool (p := two) fun x hx => ⟨[some (.tup xs), some x], rfl, rfl, ?_⟩]
    rotate_left
    · simp only [exSs, exS, evE, evEs, evKV, evO, evC, evI, startR, O.test, O.then_nx, O.then_rt, R.go_ok, R.bind_ok, R.of_some, tst_ok, bothD_ok, Option.map_some, List.map_cons, List.map_nil, List.length_cons, List.length_nil, List.cons_append, List.nil_append, List.getElem?_cons_zero, List.getElem?_cons_succ, List.replicate_succ, List.replicate_zero, if_true, if_false, Bool.false_eq_true, ite_true, ite_false, reduceIte, Nat.reduceAdd, Nat.reduceSub, Nat.sub_self, sOk_of, decide_true, decide_false, j_sized (hm x hx), calmR, two]
    simp only [exSs, exS, evE, evEs, evKV, evO, evC, evI, startR, O.test, O.then_nx, O.then_rt, R.go_ok, R.bind_ok, R.of_some, tst_ok, bothD_ok, Option.map_some, List.map_cons, List.map_nil, List.length_cons, List.length_nil, List.cons_append, List.nil_append, List.getElem?_cons_zero, List.getElem?_cons_succ, List.replicate_succ, List.replicate_zero, if_true, if_false, Bool.false_eq_true, ite_true, ite_false, reduceIte, Nat.reduceAdd, Nat.reduceSub, Nat.sub_self, sOk_of, decide_true, decide_false, biD, allD_map, all_id]
    cases h2 : xs.all two with
    | false => simp only [exSs, exS, evE, evEs, evKV, evO, evC, evI, startR, O.test, O.then_nx, O.then_rt, R.go_ok, R.bind_ok, R.of_some, tst_ok, bothD_ok, Option.map_some, List.map_cons, List.map_nil, List.length_cons, List.length_nil, List.cons_append, List.nil_append, List.getElem?_cons_zero, List.getElem?_cons_succ, List.replicate_succ, List.replicate_zero, if_true, if_false, Bool.false_eq_true, ite_true, ite_false, reduceIte, Nat.reduceAdd, Nat.reduceSub, Nat.sub_self, sOk_of, decide_true, decide_false, Bool.not_false, rowB, h2, Bool.and_false, Bool.false_and]
    | true =>
      simp only [exSs, exS, evE, evEs, evKV, evO, evC, evI, startR, O.test, O.then_nx, O.then_rt, R.go_ok, R.bind_ok, R.of_some, tst_ok, bothD_ok, Option.map_some, List.map_cons, List.map_nil, List.length_cons, List.length_nil, List.cons_append, List.nil_append, List.getElem?_cons_zero, List.getElem?_cons_succ, List.replicate_succ, List.replicate_zero, if_true, if_false, Bool.false_eq_true, ite_true, ite_false, reduceIte, Nat.reduceAdd, Nat.reduceSub, Nat.sub_self, sOk_of, decide_true, decide_false, Bool.not_true, itsD, seqOf, small_len hl (by decide), wipeR, List.set_cons_succ, List.set_cons_zero]
      rw [lcp_bool (p := heapP) fun x hx => ⟨[some (.tup xs), some x], rfl, rfl, ?_⟩]
      rotate_left
      · obtain ⟨a, b, rfl⟩ := two_inv (List.all_eq_true.mp h2 x hx)
        obtain ⟨ia, ib⟩ := im_pair (hm _ hx)
        simp only [exSs, exS, evE, evEs, evKV, evO, evC, evI, startR, O.test, O.then_nx, O.then_rt, R.go_ok, R.bind_ok, R.of_some, tst_ok, bothD_ok, Option.map_some, List.map_cons, List.map_nil, List.length_cons, List.length_nil, List.cons_append, List.nil_append, List.getElem?_cons_zero, List.getElem?_cons_succ, List.replicate_succ, List.replicate_zero, if_true, if_false, Bool.false_eq_true, ite_true, ite_false, reduceIte, Nat.reduceAdd, Nat.reduceSub, Nat.sub_self, sOk_of, decide_true, decide_false, litD, idx0, idx1, j_place ia, j_place ib]
        cases hn : withB 0 999999999 a with
        | false =>
          have e := with_pos a
          rw [hn, Bool.false_and] at e
          simp only [exSs, exS, evE, evEs, evKV, evO, evC, evI, startR, O.test, O.then_nx, O.then_rt, R.go_ok, R.bind_ok, R.of_some, tst_ok, bothD_ok, Option.map_some, List.map_cons, List.map_nil, List.length_cons, List.length_nil, List.cons_append, List.nil_append, List.getElem?_cons_zero, List.getElem?_cons_succ, List.replicate_succ, List.replicate_zero, if_true, if_false, Bool.false_eq_true, ite_true, ite_false, reduceIte, Nat.reduceAdd, Nat.reduceSub, Nat.sub_self, sOk_of, decide_true, decide_false, calmR, heapP, fstD, ← e, Bool.false_and]
        | true =>
          obtain ⟨i, rfl⟩ := with_int hn
          have e := with_pos (.int i)
          rw [hn, Bool.true_and] at e
          have e : decide (0 < i) = withB 1 999999999 (.int i) := e
          cases hb : withB 0 999999999 b with
          | false => simp only [exSs, exS, evE, evEs, evKV, evO, evC, evI, startR, O.test, O.then_nx, O.then_rt, R.go_ok, R.bind_ok, R.of_some, tst_ok, bothD_ok, Option.map_some, List.map_cons, List.map_nil, List.length_cons, List.length_nil, List.cons_append, List.nil_append, List.getElem?_cons_zero, List.getElem?_cons_succ, List.replicate_succ, List.replicate_zero, if_true, if_false, Bool.false_eq_true, ite_true, ite_false, reduceIte, Nat.reduceAdd, Nat.reduceSub, Nat.sub_self, sOk_of, decide_true, decide_false, calmR, heapP, fstD, sndD, hb, Bool.and_false]
          | true => simp only [exSs, exS, evE, evEs, evKV, evO, evC, evI, startR, O.test, O.then_nx, O.then_rt, R.go_ok, R.bind_ok, R.of_some, tst_ok, bothD_ok, Option.map_some, List.map_cons, List.map_nil, List.length_cons, List.length_nil, List.cons_append, List.nil_append, List.getElem?_cons_zero, List.getElem?_cons_succ, List.replicate_succ, List.replicate_zero, if_true, if_false, Bool.false_eq_true, ite_true, ite_false, reduceIte, Nat.reduceAdd, Nat.reduceSub, Nat.sub_self, sOk_of, decide_true, decide_false, calmR, cmpD, heapP, fstD, sndD, hb, Bool.and_true, e]
      simp only [exSs, exS, evE, evEs, evKV, evO, evC, evI, startR, O.test, O.then_nx, O.then_rt, R.go_ok, R.bind_ok, R.of_some, tst_ok, bothD_ok, Option.map_some, List.map_cons, List.map_nil, List.length_cons, List.length_nil, List.cons_append, List.nil_append, List.getElem?_cons_zero, List.getElem?_cons_succ, List.replicate_succ, List.replicate_zero, if_true, if_false, Bool.false_eq_true, ite_true, ite_false, reduceIte, Nat.reduceAdd, Nat.reduceSub, Nat.sub_self, sOk_of, decide_true, decide_false, biD, allD_map, all_id]
      cases h3 : xs.all heapP with
      | false => simp only [exSs, exS, evE, evEs, evKV, evO, evC, evI, startR, O.test, O.then_nx, O.then_rt, R.go_ok, R.bind_ok, R.of_some, tst_ok, bothD_ok, Option.map_some, List.map_cons, List.map_nil, List.length_cons, List.length_nil, List.cons_append, List.nil_append, List.getElem?_cons_zero, List.getElem?_cons_succ, List.replicate_succ, List.replicate_zero, if_true, if_false, Bool.false_eq_true, ite_true, ite_false, reduceIte, Nat.reduceAdd, Nat.reduceSub, Nat.sub_self, sOk_of, decide_true, decide_false, Bool.not_false, rowB, h3, Bool.and_false, Bool.false_and]
      | true =>
        simp only [exSs, exS, evE, evEs, evKV, evO, evC, evI, startR, O.test, O.then_nx, O.then_rt, R.go_ok, R.bind_ok, R.of_some, tst_ok, bothD_ok, Option.map_some, List.map_cons, List.map_nil, List.length_cons, List.length_nil, List.cons_append, List.nil_append, List.getElem?_cons_zero, List.getElem?_cons_succ, List.replicate_succ, List.replicate_zero, if_true, if_false, Bool.false_eq_true, ite_true, ite_false, reduceIte, Nat.reduceAdd, Nat.reduceSub, Nat.sub_self, sOk_of, decide_true, decide_false, Bool.not_true, itsD, seqOf, small_len hl (by decide), wipeR, List.set_cons_succ, List.set_cons_zero]
        rw [lcp_fst fun x hx => ⟨[some (.tup xs), some x], rfl, rfl, ?_⟩]
        rotate_left
        · obtain ⟨a, b, rfl⟩ := two_inv (List.all_eq_true.mp h2 x hx)
          simp only [exSs, exS, evE, evEs, evKV, evO, evC, evI, startR, O.test, O.then_nx, O.then_rt, R.go_ok, R.bind_ok, R.of_some, tst_ok, bothD_ok, Option.map_some, List.map_cons, List.map_nil, List.length_cons, List.length_nil, List.cons_append, List.nil_append, List.getElem?_cons_zero, List.getElem?_cons_succ, List.replicate_succ, List.replicate_zero, if_true, if_false, Bool.false_eq_true, ite_true, ite_false, reduceIte, Nat.reduceAdd, Nat.reduceSub, Nat.sub_self, sOk_of, decide_true, decide_false, litD, idx0, calmR, fstD]
        have hr : callAt T wf (k + 3) 6 [.lst (xs.map fstD)] [] = .ok (.bl (risB (xs.map fstD))) [] := j_rising (k := k + 2) (ims_of fun e he => by obtain ⟨x, hx, rfl⟩ := List.mem_map.mp he; exact fst_im (ims_mem h x hx)) (by rw [List.length_map]; omega) fun i hi => lt_rows lt_heap h3 i (by rwa [List.length_map] at hi)
        simp only [exSs, exS, evE, evEs, evKV, evO, evC, evI, startR, O.test, O.then_nx, O.then_rt, R.go_ok, R.bind_ok, R.of_some, tst_ok, bothD_ok, Option.map_some, List.map_cons, List.map_nil, List.length_cons, List.length_nil, List.cons_append, List.nil_append, List.getElem?_cons_zero, List.getElem?_cons_succ, List.replicate_succ, List.replicate_zero, if_true, if_false, Bool.false_eq_true, ite_true, ite_false, reduceIte, Nat.reduceAdd, Nat.reduceSub, Nat.sub_self, sOk_of, decide_true, decide_false, hr, rowB, h2, h3, hl, decide_true, Bool.true_and]
def stateB (d : D) : Bool := two d && (rowB 8 stackP (fstD d) && rowB 60 heapP (sndD d))
theorem j_state {d : D} (h : im d = true) : C (k + 5) 9 [d] m = .ok (.bl (stateB d)) m := by
  refine call_eq (fn := f9) rfl rfl (by rfl) (bel1 h) ?_
  simp only [f9, b9, exSs, exS, evE, evEs, evKV, evO, evC, evI, startR, O.test, O.then_nx, O.then_rt, R.go_ok, R.bind_ok, R.of_some, tst_ok, bothD_ok, Option.map_some, List.map_cons, List.map_nil, List.length_cons, List.length_nil, List.cons_append, List.nil_append, List.getElem?_cons_zero, List.getElem?_cons_succ, List.replicate_succ, List.replicate_zero, if_true, if_false, Bool.false_eq_true, ite_true, ite_false, reduceIte, Nat.reduceAdd, Nat.reduceSub, Nat.sub_self, sOk_of, decide_true, decide_false, litD, j_sized h]
  cases h2 : sizB 2 2 d with
  | false => simp only [exSs, exS, evE, evEs, evKV, evO, evC, evI, startR, O.test, O.then_nx, O.then_rt, R.go_ok, R.bind_ok, R.of_some, tst_ok, bothD_ok, Option.map_some, List.map_cons, List.map_nil, List.length_cons, List.length_nil, List.cons_append, List.nil_append, List.getElem?_cons_zero, List.getElem?_cons_succ, List.replicate_succ, List.replicate_zero, if_true, if_false, Bool.false_eq_true, ite_true, ite_false, reduceIte, Nat.reduceAdd, Nat.reduceSub, Nat.sub_self, sOk_of, decide_true, decide_false, stateB, two, h2, Bool.false_and]
  | true =>
    obtain ⟨a, b, rfl⟩ := two_inv (show two d = true from h2)
    obtain ⟨ia, ib⟩ := im_pair h
    simp only [exSs, exS, evE, evEs, evKV, evO, evC, evI, startR, O.test, O.then_nx, O.then_rt, R.go_ok, R.bind_ok, R.of_some, tst_ok, bothD_ok, Option.map_some, List.map_cons, List.map_nil, List.length_cons, List.length_nil, List.cons_append, List.nil_append, List.getElem?_cons_zero, List.getElem?_cons_succ, List.replicate_succ, List.replicate_zero, if_true, if_false, Bool.false_eq_true, ite_true, ite_false, reduceIte, Nat.reduceAdd, Nat.reduceSub, Nat.sub_self, sOk_of, decide_true, decide_false, idx0, idx1, j_stack ia, j_heap ib]
    cases hn : rowB 8 stackP a with
    | false => simp only [exSs, exS, evE, evEs, evKV, evO, evC, evI, startR, O.test, O.then_nx, O.then_rt, R.go_ok, R.bind_ok, R.of_some, tst_ok, bothD_ok, Option.map_some, List.map_cons, List.map_nil, List.length_cons, List.length_nil, List.cons_append, List.nil_append, List.getElem?_cons_zero, List.getElem?_cons_succ, List.replicate_succ, List.replicate_zero, if_true, if_false, Bool.false_eq_true, ite_true, ite_false, reduceIte, Nat.reduceAdd, Nat.reduceSub, Nat.sub_self, sOk_of, decide_true, decide_false, stateB, two, h2, fstD, hn, Bool.false_and, Bool.true_and]
    | true => simp only [exSs, exS, evE, evEs, evKV, evO, evC, evI, startR, O.test, O.then_nx, O.then_rt, R.go_ok, R.bind_ok, R.of_some, tst_ok, bothD_ok, Option.map_some, List.map_cons, List.map_nil, List.length_cons, List.length_nil, List.cons_append, List.nil_append, List.getElem?_cons_zero, List.getElem?_cons_succ, List.replicate_succ, List.replicate_zero, if_true, if_false, Bool.false_eq_true, ite_true, ite_false, reduceIte, Nat.reduceAdd, Nat.reduceSub, Nat.sub_self, sOk_of, decide_true, decide_false, stateB, two, h2, fstD, sndD, hn, Bool.true_and]
/-! the law's own judge -/
end
theorem row_true {n : Int} {p : D → Bool} {xs : List D} (hl : (xs.length : Int) ≤ n) (h : ∀ x ∈ xs, two x = true ∧ p x = true) (hr : ∀ i, i + 1 < xs.length → ltB (fstD (xs.getD i .non)) (fstD (xs.getD (i + 1) .non)) = true) : rowB n p (.tup xs) = true := by
  show (decide ((xs.length : Int) ≤ n) && xs.all two && xs.all p && risB (xs.map fstD)) = true
  rw [decide_eq_true hl, List.all_eq_true.mpr fun x hx => (h x hx).1, List.all_eq_true.mpr fun x hx => (h x hx).2]
  show risB (xs.map fstD) = true
  unfold risB
  rw [List.all_eq_true]
  intro i hi
  rw [List.mem_range, List.length_map] at hi
  rw [get_map (by omega), get_map (by omega)]
  exact hr i (by omega)
theorem lt_int {a b : Int} (h : a < b) : ltB (.int a) (.int b) = true := decide_eq_true h
theorem with_of {lo hi i : Int} (h1 : lo ≤ i) (h2 : i ≤ hi) : withB lo hi (.int i) = true := by
  show (decide (lo ≤ i) && decide (i ≤ hi)) = true
  rw [decide_eq_true h1, decide_eq_true h2]; rfl
theorem mem_getD {xs : List D} {x : D} (h : x ∈ xs) : ∃ i, i < xs.length ∧ xs.getD i .non = x := by
  obtain ⟨i, hi, e⟩ := List.getElem_of_mem h
  exact ⟨i, hi, by rw [List.getD_eq_getElem?_getD, List.getElem?_eq_getElem hi, e]; rfl⟩
theorem is_row_state {a b : D} (h : rowB 8 stackP a = true) (h2 : rowB 60 heapP b = true) : stateB (.tup [a, b]) = true := by
  show (true && (rowB 8 stackP a && rowB 60 heapP b)) = true
  rw [h, h2]; rfl
end
end K02

/-! k02: dicts as rows of keys with numbers; sorted, dict(..). -/
namespace K02
open PySem PySem.Spec PyProof.Rows L2 EV
abbrev KL := List (Key × Int)
def ck (L : KL) : List Key := L.map fun p => p.1
def cx (L : KL) : List D := L.map fun p => .int p.2
def cI (L : KL) : List D := L.map fun p => .tup [keyOf p.1, .int p.2]
def kI (L : KL) : List D := L.map fun p => keyOf p.1
def kget : KL → Key → Option Int
  | [], _ => none
  | p :: r, q => if p.1 = q then some p.2 else kget r q
def kput (L : KL) (q : Key) (v : Int) : KL := if kin (ck L) q then L.map (fun p => if p.1 = q then (p.1, v) else p) else L ++ [(q, v)]
def KS (q : Key) : Prop := ∃ s : Str, q = .inr s ∧ s.length ≤ lim ∧ sOk s = true
def KI (q : Key) : Prop := ∃ i : Int, q = .inl i
/-- keys of one kind -/
def Un (L : KL) : Prop := (∀ q ∈ ck L, KS q) ∨ ∀ q ∈ ck L, KI q
theorem dget_k (q : Key) : ∀ L : KL, dget (ck L) (cx L) q = (kget L q).map .int
  | [] => rfl
  | p :: r => by
    show (if p.1 = q then some (D.int p.2) else dget (ck r) (cx r) q) = _
    unfold kget
    by_cases h : p.1 = q
    · rw [if_pos h, if_pos h]; rfl
    · rw [if_neg h, if_neg h, dget_k q r]
theorem kin_k (q : Key) : ∀ L : KL, kin (ck L) q = (kget L q).isSome
  | [] => rfl
  | p :: r => by
    show (decide (p.1 = q) || kin (ck r) q) = _
    unfold kget
    by_cases h : p.1 = q
    · rw [if_pos h, decide_eq_true h]; rfl
    · rw [if_neg h, decide_eq_false h, Bool.false_or, kin_k q r]
theorem kin_mem {ks : List Key} {q : Key} : kin ks q = true ↔ q ∈ ks := by
  unfold kin
  rw [List.any_eq_true]
  constructor
  · rintro ⟨x, hx, e⟩; rw [← of_decide_eq_true e]; exact hx
  · intro h; exact ⟨q, h, decide_eq_true rfl⟩
theorem kget_mem {q : Key} {v : Int} : ∀ {L : KL}, kget L q = some v → (q, v) ∈ L
  | [], h => by cases h
  | p :: r, h => by
    unfold kget at h
    split at h
    · rename_i e
      cases h
      subst e
      exact List.mem_cons_self
    · exact List.mem_cons_of_mem _ (kget_mem h)
theorem kget_of {q : Key} {v : Int} : ∀ {L : KL}, (ck L).Nodup → (q, v) ∈ L → kget L q = some v
  | [], _, h => by cases h
  | p :: r, n, h => by
    have n' : (p.1 :: ck r).Nodup := n
    rw [List.nodup_cons] at n'
    unfold kget
    rcases List.mem_cons.mp h with rfl | h
    · rw [if_pos rfl]
    · have : p.1 ≠ q := fun e => n'.1 (List.mem_map.mpr ⟨(q, v), h, e.symm⟩)
      rw [if_neg this]
      exact kget_of n'.2 h
theorem kget_perm {L M : KL} (h : L.Perm M) (n : (ck L).Nodup) (q : Key) : kget M q = kget L q := by
  have n2 : (ck M).Nodup := (List.Perm.nodup_iff (h.map _)).mp n
  cases e : kget L q with
  | some v => exact kget_of n2 (h.mem_iff.mp (kget_mem e))
  | none =>
    cases e2 : kget M q with
    | none => rfl
    | some v =>
      have := kget_of n (h.mem_iff.mpr (kget_mem e2))
      rw [e] at this; cases this
theorem kget_in {L : KL} {q : Key} : (kget L q).isSome = true ↔ q ∈ ck L := by rw [← kin_k, kin_mem]
/-! put -/
theorem dset_k (q : Key) (v : Int) : ∀ L : KL, dsetX (ck L) (cx L) q (.int v) = cx (L.map (fun p => if p.1 = q then (p.1, v) else p))
  | [] => rfl
  | p :: r => by
    show (if p.1 = q then D.int v else D.int p.2) :: dsetX (ck r) (cx r) q (.int v) = _
    rw [dset_k q v r, List.map_cons]
    show _ = D.int (if p.1 = q then (p.1, v) else p).2 :: _
    by_cases h : p.1 = q
    · rw [if_pos h, if_pos h]; rfl
    · rw [if_neg h, if_neg h]; rfl
theorem ck_map (q : Key) (v : Int) : ∀ L : KL, ck (L.map (fun p => if p.1 = q then (p.1, v) else p)) = ck L
  | [] => rfl
  | p :: r => by
    rw [List.map_cons]
    show (if p.1 = q then (p.1, v) else p).1 :: ck _ = p.1 :: ck r
    rw [ck_map q v r]
    by_cases h : p.1 = q
    · rw [if_pos h]
    · rw [if_neg h]
theorem putK (L : KL) (q : Key) (v : Int) : dputK (ck L) q = ck (kput L q v) := by
  unfold dputK kput
  split
  · exact (ck_map q v L).symm
  · unfold ck; rw [List.map_append]; rfl
theorem putX (L : KL) (q : Key) (v : Int) : dputX (ck L) (cx L) q (.int v) = cx (kput L q v) := by
  unfold dputX kput
  split
  · exact dset_k q v L
  · unfold cx; rw [List.map_append]; rfl
theorem kput_nodup {L : KL} {q : Key} {v : Int} (n : (ck L).Nodup) : (ck (kput L q v)).Nodup := by
  rw [← putK]
  unfold dputK
  split
  · exact n
  · rename_i h
    rw [List.nodup_append]
    refine ⟨n, by simp, fun a ha b hb e => ?_⟩
    rw [List.mem_singleton] at hb
    subst e; subst hb
    exact h (kin_mem.mpr ha)
theorem kput_mem {L : KL} {q : Key} {v : Int} {p : Key × Int} (h : p ∈ kput L q v) : p = (q, v) ∨ p ∈ L := by
  unfold kput at h
  split at h
  · obtain ⟨z, hz, rfl⟩ := List.mem_map.mp h
    by_cases e : z.1 = q
    · rw [if_pos e]; left; rw [← e]
    · rw [if_neg e]; exact .inr hz
  · rcases List.mem_append.mp h with h | h
    · exact .inr h
    · exact .inl (List.mem_singleton.mp h)
theorem kput_len {L : KL} {q : Key} {v : Int} : (kput L q v).length ≤ L.length + 1 := by
  unfold kput
  split
  · rw [List.length_map]; omega
  · rw [List.length_append]; exact Nat.le_refl _
theorem set_k {L : KL} {q : Key} {k : D} {v : Int} {m : Mem} {n : Nat} (hk : keyD k = some q) (hl : L.length ≤ 1000) (h : m[n]? = some (.dic (ck L) (cx L))) : setD (.ref n) k (.int v) m = some (m.set n (.dic (ck (kput L q v)) (cx (kput L q v)))) := by
  unfold setD
  dsimp only
  rw [h]
  dsimp only
  rw [hk]
  dsimp only
  rw [putK L q v, putX L q v, if_pos]
  unfold ck
  rw [List.length_map]
  show _ < 16777216
  omega
/-! sorted -/
def kLe (a b : Key) : Bool := PySem.W.dataLe false pd (keyOf a) (keyOf b)
def pLe (p q : Key × Int) : Bool := kLe p.1 q.1
def SL (L : KL) : KL := L.mergeSort pLe
theorem SL_perm (L : KL) : (SL L).Perm L := List.mergeSort_perm _ _
theorem SL_len (L : KL) : (SL L).length = L.length := List.length_mergeSort _
theorem kLe_total (a b : Key) : (kLe a b || kLe b a) = true := by rw [Bool.or_eq_true]; exact (dataLe_total pd).total _ _
theorem kLe_trans (a b c : Key) : kLe a b = true → kLe b c = true → kLe a c = true := (dataLe_total pd).trans _ _ _
def tok : Key → Int ⊕ List Nat
  | .inl i => .inl i
  | .inr s => .inr s.cps.toList
theorem tok_inj {a b : Key} (h : tok a = tok b) : a = b := by
  cases a <;> cases b
  · exact congrArg _ (Sum.inl.inj h)
  · cases h
  · cases h
  · exact congrArg _ (PySem.W.str_of_cps (Sum.inr.inj h))
theorem toks_key (a : Key) : PySem.W.keyToks (pd (keyOf a)) = [tok a] := by cases a <;> rfl
theorem kLe_eq (a b : Key) : kLe a b = !itemOrd.blt (tok b) (tok a) := by
  unfold kLe
  rw [PySem.W.dataLe_eq]
  show (!PySem.W.dataLt (pd (keyOf b)) (pd (keyOf a))) = _
  unfold PySem.W.dataLt
  rw [toks_key, toks_key, lex_cons]
  unfold PyProof.Rows.lexLt
  simp
theorem toks_pair (a : Key) (v : Int) : PySem.W.keyToks (pd (.tup [keyOf a, .int v])) = [.inl 1, tok a, .inl 1, .inl v, .inl 0] := by
  show PySem.W.keyToksAll (pds [keyOf a, .int v]) = _
  unfold pds pds pds PySem.W.keyToksAll PySem.W.keyToksAll PySem.W.keyToksAll
  rw [toks_key]
  rfl
theorem pair_le {a b : Key} {v w : Int} (h : a = b → v = w) : kLe a b = PySem.W.dataLe false pd (.tup [keyOf a, .int v]) (.tup [keyOf b, .int w]) := by
  rw [kLe_eq, PySem.W.dataLe_eq]
  show _ = !PySem.W.dataLt (pd (.tup [keyOf b, .int w])) (pd (.tup [keyOf a, .int v]))
  unfold PySem.W.dataLt
  rw [toks_pair, toks_pair, lex_self]
  by_cases e : a = b
  · subst e
    have := h rfl
    subst this
    rw [lex_irrefl, itemOrd.irrefl]
  · rw [lex_diff (fun z => e (tok_inj z).symm)]
theorem nodup_inj {L : KL} (n : (ck L).Nodup) {p q : Key × Int} (hp : p ∈ L) (hq : q ∈ L) (e : p.1 = q.1) : p.2 = q.2 := by
  have h1 := kget_of (q := p.1) (v := p.2) n hp
  have h2 := kget_of (q := q.1) (v := q.2) n hq
  rw [e, h2] at h1
  exact (Option.some.inj h1).symm
theorem srt_items {L : KL} (n : (ck L).Nodup) : srt (cI L) = cI (SL L) := by
  rw [srt_eq]
  unfold cI SL
  rw [List.map_mergeSort (s := fun a b => PySem.W.dataLe false pd a b)]
  intro p hp q hq
  exact pair_le fun e => nodup_inj n hp hq e
theorem srt_keys (L : KL) : srt (kI L) = kI (SL L) := by
  rw [srt_eq]
  unfold kI SL
  rw [List.map_mergeSort (s := fun a b => PySem.W.dataLe false pd a b)]
  intro p hp q hq
  rfl
theorem SL_nodup {L : KL} (n : (ck L).Nodup) : (ck (SL L)).Nodup := (List.Perm.nodup_iff ((SL_perm L).map _)).mpr n
theorem SL_pair (L : KL) : List.Pairwise (fun p q => pLe p q = true) (SL L) := List.pairwise_mergeSort (fun a b c => kLe_trans a.1 b.1 c.1) (fun a b => kLe_total a.1 b.1) L
theorem SL_self (L : KL) : SL (SL L) = SL L := List.mergeSort_of_pairwise (SL_pair L)
theorem SL_get {L : KL} (n : (ck L).Nodup) (q : Key) : kget (SL L) q = kget L q := kget_perm (SL_perm L).symm n q
theorem SL_un {L : KL} (u : Un L) : Un (SL L) := by
  have : ∀ q, q ∈ ck (SL L) ↔ q ∈ ck L := fun q => ((SL_perm L).map _).mem_iff
  rcases u with u | u
  · exact .inl fun q h => u q ((this q).mp h)
  · exact .inr fun q h => u q ((this q).mp h)
/-- smaller keys stand ahead -/
theorem lt_of {a b : Key} (h : kLe a b = true) (ne : a ≠ b) (k : (KS a ∧ KS b) ∨ (KI a ∧ KI b)) : ltB (keyOf a) (keyOf b) = true := by
  rw [kLe_eq] at h
  rcases k with ⟨⟨s, rfl, _⟩, t, rfl, _⟩ | ⟨⟨i, rfl⟩, j, rfl⟩
  · show decide (s.cps.toList < t.cps.toList) = true
    rw [decide_eq_true_eq]
    have h1 : ¬ t.cps.toList < s.cps.toList := fun z => by
      have z2 : itemOrd.blt (tok (.inr t)) (tok (.inr s)) = true := by
        show decide (t.cps.toList < s.cps.toList) = true
        exact decide_eq_true z
      rw [z2] at h; cases h
    by_cases h2 : s.cps.toList < t.cps.toList
    · exact h2
    · exact absurd (congrArg _ (PySem.W.str_of_cps (List.le_antisymm (List.not_lt.mp h1) (List.not_lt.mp h2)))) ne
  · show decide (i < j) = true
    rw [decide_eq_true_eq]
    have h1 : ¬ j < i := fun z => by
      have z2 : itemOrd.blt (tok (.inl j)) (tok (.inl i)) = true := by
        show decide (j < i) = true
        exact decide_eq_true z
      rw [z2] at h; cases h
    have : i ≠ j := fun e => ne (congrArg _ e)
    omega
theorem pairs_eq (L : KL) : EV.pairsOf (ck L) (cx L) = cI L := by
  unfold EV.pairsOf ck cx cI
  induction L with
  | nil => rfl
  | cons p r ih =>
    rw [List.map_cons, List.map_cons, List.zip_cons_cons, List.map_cons, ih]
    rfl
theorem pairs_mem {L : KL} {p : D} (h : p ∈ cI L) : ∃ q x, q ∈ ck L ∧ p = .tup [keyOf q, .int x] := by
  unfold cI at h
  obtain ⟨z, hz, rfl⟩ := List.mem_map.mp h
  exact ⟨z.1, z.2, List.mem_map.mpr ⟨z, hz, rfl⟩, rfl⟩
theorem can_pairs {L : KL} (hk : Un L) : canSort (cI L) = true := by
  unfold canSort alikes
  rw [Bool.and_eq_true, Bool.and_eq_true, Bool.or_eq_true]
  refine ⟨⟨List.all_eq_true.mpr fun p hp => ?_, List.all_eq_true.mpr fun p hp => List.all_eq_true.mpr fun p2 hp2 => ?_⟩, .inl (List.all_eq_true.mpr fun p hp => ?_)⟩
  · obtain ⟨q, x, h1, rfl⟩ := pairs_mem hp
    cases q <;> rfl
  · obtain ⟨q, x, h1, rfl⟩ := pairs_mem hp
    obtain ⟨q2, x2, h3, rfl⟩ := pairs_mem hp2
    rcases hk with hk | hk
    · obtain ⟨s, rfl, _⟩ := hk q h1
      obtain ⟨s2, rfl, _⟩ := hk q2 h3
      simp [pd, pds, keyOf, PySem.W.alike, PySem.W.alikeAll]
    · obtain ⟨s, rfl⟩ := hk q h1
      obtain ⟨s2, rfl⟩ := hk q2 h3
      simp [pd, pds, keyOf, PySem.W.alike, PySem.W.alikeAll]
  · obtain ⟨q, x, h1, rfl⟩ := pairs_mem hp
    rfl
theorem itm_ok {L : KL} (u : Un L) : itmOk (ck L) (cx L) = true := by
  unfold itmOk
  rw [Bool.and_eq_true]
  refine ⟨List.all_eq_true.mpr fun q hq => ?_, List.all_eq_true.mpr fun d hd => ?_⟩
  · rcases u with u | u
    · obtain ⟨s, rfl, _, h⟩ := u q hq; exact h
    · obtain ⟨i, rfl⟩ := u q hq; rfl
  · unfold cx at hd
    obtain ⟨p, _, rfl⟩ := List.mem_map.mp hd
    rfl
/-- sorted(d.items()) -/
theorem items_ok {L : KL} {d : D} {m : Mem} (u : Un L) (n : (ck L).Nodup) (h : dicOf m d = some (ck L, cx L)) : sortedItemsD [d] m = .ok (.lst (cI (SL L))) m := by
  unfold sortedItemsD
  dsimp only
  rw [h]
  dsimp only
  rw [if_pos (itm_ok u), pairs_eq]
  unfold sortD
  rw [if_pos (can_pairs u), srt_items n]; rfl
theorem keyS_ok : ∀ {ks : List Key}, (∀ q ∈ ks, KS q) → ∃ l : List Str, keyS ks = some l ∧ l.map D.str = ks.map keyOf ∧ l.length = ks.length
  | [], _ => ⟨[], rfl, rfl, rfl⟩
  | q :: r, h => by
    obtain ⟨l, e1, e2, e3⟩ := keyS_ok fun q hq => h q (List.mem_cons_of_mem _ hq)
    obtain ⟨s, rfl, _, hs⟩ := h q List.mem_cons_self
    refine ⟨s :: l, ?_, ?_, ?_⟩
    · unfold keyS; rw [e1]; dsimp only; rw [if_pos hs]
    · rw [List.map_cons, e2]; rfl
    · rw [List.length_cons, e3]; rfl
theorem keyI_ok : ∀ {ks : List Key}, (∀ q ∈ ks, KI q) → ∃ l : List Int, keyI ks = some l ∧ l.map D.int = ks.map keyOf ∧ l.length = ks.length
  | [], _ => ⟨[], rfl, rfl, rfl⟩
  | q :: r, h => by
    obtain ⟨l, e1, e2, e3⟩ := keyI_ok fun q hq => h q (List.mem_cons_of_mem _ hq)
    obtain ⟨s, rfl⟩ := h q List.mem_cons_self
    refine ⟨s :: l, ?_, ?_, ?_⟩
    · unfold keyI; rw [e1]
    · rw [List.map_cons, e2]; rfl
    · rw [List.length_cons, e3]; rfl
theorem kI_ck (L : KL) : kI L = (ck L).map keyOf := by unfold kI ck; rw [List.map_map]; rfl
theorem sortK {L : KL} {m : Mem} (u : Un L) (hl : L.length ≤ 60) : sortKeysD (ck L) m = .ok (.lst (kI (SL L))) m := by
  have hc : (ck L).length = L.length := List.length_map _
  rw [← srt_keys, kI_ck]
  rcases u with u | u
  · obtain ⟨l, e1, e2, e3⟩ := keyS_ok u
    unfold sortKeysD
    rw [e1]
    dsimp only
    rw [if_pos (by omega), e2]
  · obtain ⟨l, e1, e2, e3⟩ := keyI_ok u
    unfold sortKeysD
    cases hq : ck L with
    | nil =>
      rfl
    | cons q r =>
      have hk : keyS (ck L) = none := by
        rw [hq]
        obtain ⟨i, rfl⟩ := u q (by rw [hq]; exact List.mem_cons_self)
        rfl
      rw [← hq, hk]
      dsimp only
      rw [e1]
      dsimp only
      rw [if_pos (by omega), e2]
/-- sorted(d) -/
theorem keys_ok {L : KL} {d : D} {m : Mem} (u : Un L) (hl : L.length ≤ 60) (h1 : seqOf m d = none) (h : dicOf m d = some (ck L, cx L)) : biD .sorted [d] m = .ok (.lst (kI (SL L))) m := by
  show sortedD [d] m = _
  unfold sortedD
  dsimp only
  rw [h1]
  dsimp only
  rw [h]
  exact sortK u hl
/-! dict(..) -/
theorem split_k : ∀ L : KL, splitP (cI L) = some (kI L, cx L)
  | [] => rfl
  | p :: r => by
    show splitP (.tup [keyOf p.1, .int p.2] :: cI r) = _
    unfold splitP
    rw [split_k r]; rfl
theorem keyD_of (q : Key) : keyD (keyOf q) = some q := by cases q <;> rfl
theorem dsp_k : ∀ (L A : KL), (ck (A ++ L)).Nodup → dspD (kI L) (cx L) (ck A) (cx A) = some (.dic (ck (A ++ L)) (cx (A ++ L)))
  | [], A, _ => by rw [List.append_nil]; rfl
  | p :: r, A, n => by
    show dspD (keyOf p.1 :: kI r) (.int p.2 :: cx r) (ck A) (cx A) = _
    unfold dspD
    rw [keyD_of]
    dsimp only
    rw [putK A p.1 p.2, putX]
    have hk : kput A p.1 p.2 = A ++ [p] := by
      unfold kput
      rw [if_neg]
      rw [kin_mem]
      intro h
      have n2 : (ck A ++ ck (p :: r)).Nodup := by unfold ck at n ⊢; rw [← List.map_append]; exact n
      exact (List.nodup_append.mp n2).2.2 p.1 h p.1 List.mem_cons_self rfl
    rw [hk, dsp_k r (A ++ [p]) (by rw [List.append_assoc]; exact n), List.append_assoc]
    rfl
theorem dict_k {L : KL} {m : Mem} (n : (ck L).Nodup) : biD .dict [.tup (cI L)] m = .ok (.dic (ck L) (cx L)) m := by
  show dictD [.tup (cI L)] m = _
  unfold dictD
  dsimp only
  show (match splitP (cI L) with | some p => R.of (dspD p.1 p.2 [] []) m | none => .bad) = _
  rw [split_k]
  dsimp only
  rw [show dspD (kI L) (cx L) [] [] = _ from dsp_k L [] n]
  rfl
theorem tup_ok {xs : List D} {m : Mem} : biD .tuple [.lst xs] m = .ok (.tup xs) m := rfl
/-! the judges of right ones -/
def PK (q : Key) : Prop := ∃ i : Int, q = .inl i ∧ 1 ≤ i ∧ i ≤ 999999999
def PV (v : Int) : Prop := 0 ≤ v ∧ v ≤ 999999999
def NK (q : Key) : Prop := ∃ s : Str, q = .inr s ∧ s.length ≤ lim ∧ sOk s = true ∧ nameB (.str s) = true
/-- a heap's dict -/
structure Hp1 (L : KL) : Prop where
  n : (ck L).Nodup
  k : ∀ p ∈ L, PK p.1 ∧ PV p.2
  l : L.length ≤ 60
/-- a stack's dict -/
structure Sp1 (L : KL) : Prop where
  n : (ck L).Nodup
  k : ∀ p ∈ L, NK p.1 ∧ PV p.2
  l : L.length ≤ 8
theorem Hp1.u {L : KL} (h : Hp1 L) : Un L := .inr fun q hq => by
  obtain ⟨p, hp, rfl⟩ := List.mem_map.mp hq
  obtain ⟨⟨i, e, _⟩, _⟩ := h.k p hp
  exact ⟨i, e⟩
theorem Sp1.u {L : KL} (h : Sp1 L) : Un L := .inl fun q hq => by
  obtain ⟨p, hp, rfl⟩ := List.mem_map.mp hq
  obtain ⟨⟨s, e, h1, h2, _⟩, _⟩ := h.k p hp
  exact ⟨s, e, h1, h2⟩
theorem Hp1.s {L : KL} (h : Hp1 L) : Hp1 (SL L) := ⟨SL_nodup h.n, fun p hp => h.k p ((SL_perm L).mem_iff.mp hp), by rw [SL_len]; exact h.l⟩
theorem Sp1.s {L : KL} (h : Sp1 L) : Sp1 (SL L) := ⟨SL_nodup h.n, fun p hp => h.k p ((SL_perm L).mem_iff.mp hp), by rw [SL_len]; exact h.l⟩
theorem cI_get {L : KL} {i : Nat} (h : i < L.length) : fstD ((cI L).getD i .non) = keyOf (L[i]).1 := by
  unfold cI
  rw [List.getD_eq_getElem?_getD, List.getElem?_map, List.getElem?_eq_getElem h]; rfl
theorem rising {L : KL} (u : Un L) (n : (ck L).Nodup) (i : Nat) (hi : i + 1 < (cI (SL L)).length) : ltB (fstD ((cI (SL L)).getD i .non)) (fstD ((cI (SL L)).getD (i + 1) .non)) = true := by
  have hl : (cI (SL L)).length = (SL L).length := List.length_map _
  rw [hl] at hi
  rw [cI_get (by omega), cI_get hi]
  have h1 := (List.pairwise_iff_getElem.mp (SL_pair L)) i (i + 1) (by omega) hi (by omega)
  have u' := SL_un u
  have m1 : (SL L)[i].1 ∈ ck (SL L) := List.mem_map.mpr ⟨_, List.getElem_mem _, rfl⟩
  have m2 : (SL L)[i + 1].1 ∈ ck (SL L) := List.mem_map.mpr ⟨_, List.getElem_mem _, rfl⟩
  refine lt_of h1 (fun e => ?_) ?_
  · have hn := List.pairwise_iff_getElem.mp (List.nodup_iff_pairwise_ne.mp (SL_nodup n)) i (i + 1) (by unfold ck; rw [List.length_map]; omega) (by unfold ck; rw [List.length_map]; omega) (by omega)
    apply hn
    unfold ck
    rw [List.getElem_map, List.getElem_map]
    exact e
  · rcases u' with u' | u'
    · exact .inl ⟨u' _ m1, u' _ m2⟩
    · exact .inr ⟨u' _ m1, u' _ m2⟩
theorem heap_row {L : KL} (h : Hp1 L) : rowB 60 heapP (.tup (cI (SL L))) = true := by
  refine row_true ?_ (fun x hx => ?_) fun i hi => rising h.u h.n i hi
  · have := h.s.l
    unfold cI; rw [List.length_map]; omega
  · unfold cI at hx
    obtain ⟨p, hp, rfl⟩ := List.mem_map.mp hx
    obtain ⟨⟨i, e, h1, h2⟩, h3, h4⟩ := h.s.k p hp
    refine ⟨rfl, ?_⟩
    show (withB 1 999999999 (keyOf p.1) && withB 0 999999999 (.int p.2)) = true
    rw [e]
    show (withB 1 999999999 (.int i) && _) = true
    rw [with_of h1 h2, with_of h3 h4]; rfl
theorem stack_row {L : KL} (h : Sp1 L) : rowB 8 stackP (.tup (cI (SL L))) = true := by
  refine row_true ?_ (fun x hx => ?_) fun i hi => rising h.u h.n i hi
  · have := h.s.l
    unfold cI; rw [List.length_map]; omega
  · unfold cI at hx
    obtain ⟨p, hp, rfl⟩ := List.mem_map.mp hx
    obtain ⟨⟨i, e, h1, h2, h5⟩, h3, h4⟩ := h.s.k p hp
    refine ⟨rfl, ?_⟩
    show (nameB (keyOf p.1) && withB 0 999999999 (.int p.2)) = true
    rw [e]
    show (nameB (.str i) && _) = true
    rw [h5, with_of h3 h4]; rfl
theorem key_im {q : Key} (h : KS q ∨ KI q) : im (keyOf q) = true := by
  rcases h with ⟨s, rfl, h, _⟩ | ⟨i, rfl⟩
  · exact decide_eq_true h
  · rfl
theorem items_im {L : KL} (u : Un L) : im (.tup (cI L)) = true := by
  refine ims_of fun d hd => ?_
  unfold cI at hd
  obtain ⟨p, hp, rfl⟩ := List.mem_map.mp hd
  have m1 : p.1 ∈ ck L := List.mem_map.mpr ⟨p, hp, rfl⟩
  refine ims_of fun e he => ?_
  rcases List.mem_cons.mp he with rfl | he
  · rcases u with u | u
    · exact key_im (.inl (u _ m1))
    · exact key_im (.inr (u _ m1))
  · rw [List.mem_singleton.mp he]; rfl
end K02

/-! k02: roads. -/
namespace K02
open PySem PySem.Spec PyProof.Rows L2 EV
def road (f : Int → Option Int) : Nat → List Int → Int → List Int × Int
  | 0, row, p => (row, p)
  | n + 1, row, p => match f p with
    | none => (row, p)
    | some q => if p ∈ row then (row, p) else road f n (row ++ [p]) q
def fL (L : KL) : Int → Option Int := fun p => kget L (.inl p)
def roadD (r : List Int × Int) : D := .tup [.tup (r.1.map .int), .int r.2]
theorem fS {L : KL} (n : (ck L).Nodup) : fL (SL L) = fL L := funext fun p => SL_get n _
theorem bel_ints (n : Nat) : ∀ l : List Int, bels n (l.map .int) = true
  | [] => rfl
  | _ :: l => by rw [List.map_cons]; unfold bels; rw [bel_ints n l]; rfl
theorem roadD_bel (r : List Int × Int) (n : Nat) : bel n (roadD r) = true := by
  show (bels n (r.1.map .int) && (true && true)) = true
  rw [bel_ints]; rfl
theorem plain_ints (l : List Int) (n : Nat) : (l.map D.int).all (EV.plain n) = true := by
  rw [List.all_map]
  exact List.all_eq_true.mpr fun x _ => by cases n <;> rfl
theorem in_ints {d : D} {row : List Int} {p : Int} {m : Mem} (hs : ∀ z, d ≠ .str z) (h : seqOf m d = some (row.map .int)) : inD m (.int p) d = some (decide (p ∈ row)) := by
  have e : inD m (.int p) d = match seqOf m d with
    | some xs => if EV.plain 50 (res m (.int p)) && xs.all (EV.plain 50) then some (xs.any fun y => PyData.eqv (pd y) (pd (res m (.int p)))) else none
    | none => match dicOf m d with
      | some (ks, _) => match keyD (.int p) with
        | some q => some (kin ks q)
        | none => none
      | none => none := by
    cases d with
    | str z => exact absurd rfl (hs z)
    | _ => rfl
  rw [e, h]
  dsimp only
  rw [plain_ints, if_pos (show (EV.plain 50 (res m (.int p)) && true) = true from rfl), List.any_map]
  congr 1
  rw [Bool.eq_iff_iff, List.any_eq_true, decide_eq_true_eq]
  constructor
  · rintro ⟨x, hx, z⟩
    have z : PyData.eqv (.int x) (.int p) = true := z
    rw [eqv_int] at z
    rw [← of_decide_eq_true z]; exact hx
  · intro h
    refine ⟨p, h, ?_⟩
    show PyData.eqv (.int p) (.int p) = true
    rw [eqv_int]; exact decide_eq_true rfl
theorem in_dic {d k : D} {q : Key} {L : KL} {m : Mem} (hs : ∀ z, d ≠ .str z) (h1 : seqOf m d = none) (h : dicOf m d = some (ck L, cx L)) (hk : keyD k = some q) : inD m k d = some (kget L q).isSome := by
  have e : inD m k d = match seqOf m d with
    | some xs => if EV.plain 50 (res m k) && xs.all (EV.plain 50) then some (xs.any fun y => PyData.eqv (pd y) (pd (res m k))) else none
    | none => match dicOf m d with
      | some (ks, _) => match keyD k with
        | some q => some (kin ks q)
        | none => none
      | none => none := by
    cases d with
    | str z => exact absurd rfl (hs z)
    | _ => rfl
  rw [e, h1]
  dsimp only
  rw [h]
  dsimp only
  rw [hk]
  dsimp only
  rw [kin_k]
theorem idx_dic {d k : D} {q : Key} {L : KL} {m : Mem} {v : Int} (hs : ∀ z, d ≠ .str z) (h1 : seqOf m d = none) (h : dicOf m d = some (ck L, cx L)) (hk : keyD k = some q) (hv : kget L q = some v) : idxD d k m = some (.int v) := by
  have e : ∀ k : D, idxD d k m = match seqOf m d with
    | some xs => match k with
      | .int k => atI xs k
      | _ => none
    | none => match dicOf m d with
      | some p => match keyD k with
        | some q => dget p.1 p.2 q
        | none => none
      | none => none := fun k => by
    cases d with
    | str z => exact absurd rfl (hs z)
    | _ => rfl
  rw [e, h1]
  dsimp only
  rw [h]
  dsimp only
  rw [hk]
  dsimp only
  rw [dget_k, hv]; rfl
theorem notin {d k : D} {m : Mem} {b : Bool} (h : inD m k d = some b) : cmpD .NotIn k d m = some (!b) := by
  show (inD m k d).map (!·) = _
  rw [h]; rfl
theorem isin {d k : D} {m : Mem} {b : Bool} (h : inD m k d = some b) : cmpD .In k d m = some b := h
theorem lenL {d : D} {L : KL} {m : Mem} (hs : ∀ z, d ≠ .str z) (h1 : seqOf m d = none) (h : dicOf m d = some (ck L, cx L)) : biD .len [d] m = .ok (.int L.length) m := by
  have e : biD .len [d] m = match seqOf m d with
    | some xs => .ok (.int xs.length) m
    | none => match dicOf m d with
      | some p => .ok (.int p.1.length) m
      | none => .bad := by
    cases d with
    | str z => exact absurd rfl (hs z)
    | scr ns => cases h
    | _ => rfl
  rw [e, h1]
  dsimp only
  rw [h]
  dsimp only
  unfold ck
  rw [List.length_map]
section
variable {k : Nat} {m : Mem} {L : KL}
/-- a dict, by itself or as a cell -/
structure Dc (m : Mem) (d : D) (L : KL) : Prop where
  s : ∀ z, d ≠ .str z
  q : seqOf m d = none
  d : dicOf m d = some (ck L, cx L)
theorem dic_of {n : Nat} (h : dicOf m (.ref n) = some (ck L, cx L)) : m[n]? = some (.dic (ck L) (cx L)) := by
  have h2 : (match m[n]? with
    | some (.dic ks xs) => some (ks, xs)
    | _ => none) = some (ck L, cx L) := h
  cases e : m[n]? with
  | none => rw [e] at h2; cases h2
  | some c =>
    rw [e] at h2
    cases c with
    | dic ks xs => injection h2 with h2; injection h2 with h3 h4; rw [h3, h4]
    | _ => cases h2
theorem Dc.cell {n : Nat} (h : m[n]? = some (.dic (ck L) (cx L))) : Dc m (.ref n) L := by
  refine ⟨fun _ => nofun, ?_, ?_⟩
  · unfold seqOf lstOf; dsimp only; rw [h]
  · unfold dicOf; dsimp only; rw [h]
theorem Dc.more {d : D} {more : Mem} (h : Dc m d L) : Dc (m ++ more) d L := by
  have h2 := h.d
  cases d with
  | ref n =>
    have e := dic_of h2
    exact Dc.cell (by rw [List.getElem?_append_left (List.getElem?_eq_some_iff.mp e).1]; exact e)
  | _ => exact ⟨h.s, h.q, h2⟩
theorem Dc.self : Dc m (.dic (ck L) (cx L)) L := ⟨fun _ => nofun, rfl, rfl⟩
theorem app_cell {row : List Int} {p : Int} (hl : row.length ≤ 1000) : appendD (.ref m.length) [.int p] (m ++ [.lst (row.map .int)]) = .ok .non (m ++ [.lst ((row ++ [p]).map .int)]) := by
  unfold appendD
  dsimp only
  rw [List.getElem?_append_right (Nat.le_refl _), Nat.sub_self]
  dsimp only [List.getElem?_cons_zero]
  rw [if_pos (by rw [List.length_map]; show _ < 16777216; omega), List.set_append_right _ _ (Nat.le_refl _), Nat.sub_self, List.map_append]
  rfl
theorem last_cell {c : Cell} : (m ++ [c])[m.length]? = some c := by rw [List.getElem?_append_right (Nat.le_refl _), Nat.sub_self]; rfl
theorem seq_cell {row : List D} : seqOf (m ++ [.lst row]) (.ref m.length) = some row := by
  unfold seqOf lstOf; dsimp only; rw [last_cell]
theorem lroad_loop {dC : D} (hd : Dc m dC L) {body : Ss} (hb : b26 = .cons (.asg (.nm 2) (.alc (.lst .nil))) (.cons (.fors (.nm 3) (.rng1 (.bin .Add (.bi .len (.cons (.var 0) .nil)) (.lit (.int 1)))) body) (.cons (.ret (.tup (.cons (.bi .tuple (.cons (.var 2) .nil)) (.cons (.var 1) .nil)))) .nil))) (o : Lo) :
    ∀ (ds : List D) (row : List Int) (p : Int) (a3 : Option D), row.length + ds.length ≤ 100 → Wo (forL none (tgD (.nm 3)) (fun ρ' m' => exSs (C k) o wf body ρ' m') ds [some dC, some (.int p), some (.ref m.length), a3] (m ++ [.lst (row.map .int)]))
      (fun ρ' m' => ∃ a3, ρ' = [some dC, some (.int (road (fL L) ds.length row p).2), some (.ref m.length), a3] ∧ m' = m ++ [.lst ((road (fL L) ds.length row p).1.map .int)])
      (fun d m' => d = roadD (road (fL L) ds.length row p) ∧ ∃ more, m' = m ++ more)
  | [], row, p, a3, _ => by
    unfold forL
    exact ⟨a3, rfl, rfl⟩
  | x :: ds, row, p, a3, hl => by
    rw [List.length_cons] at hl
    unfold forL
    rw [if_pos (show ckD none _ = true from rfl), show tgD (.nm 3) x [some dC, some (.int p), some (.ref m.length), a3] = some [some dC, some (.int p), some (.ref m.length), some x] from rfl]
    dsimp only
    refine Wo_turn ?_
    injection hb with _ hb2
    injection hb2 with hb3 _
    injection hb3 with _ _ hb4
    subst hb4
    rw [w_scons, w_ifs, w_or, w_cmp]
    simp only [EV.w_var, EV.w_cmp, List.getElem?_cons_zero, List.getElem?_cons_succ]
    have hd1 : Dc (m ++ [.lst (row.map .int)]) dC L := hd.more
    have i1 := notin (in_dic (k := .int p) (q := .inl p) hd1.s hd1.q hd1.d rfl)
    have i2 := isin (in_ints (d := .ref m.length) (row := row) (p := p) (m := m ++ [.lst (row.map .int)]) (fun _ => nofun) seq_cell)
    have stop : ∀ {ρx : Rho} {N : Rho → Mem → Prop}, ρx = [some dC, some (.int p), some (.ref m.length), some x] → road (fL L) (x :: ds).length row p = (row, p) → Wo (exSs (C k) o wf (.cons (.ret (.tup (.cons (.bi .tuple (.cons (.var 2) .nil)) (.cons (.var 1) .nil)))) .nil) ρx (m ++ [.lst (row.map .int)])) N (fun d m' => d = roadD (road (fL L) (x :: ds).length row p) ∧ ∃ more, m' = m ++ more) := by
      rintro _ N rfl hr
      rw [w_scons, w_ret]
      simp only [EV.w_tup, EV.w_bi, EV.w_cons, EV.w_nil, EV.w_var, List.getElem?_cons_zero, List.getElem?_cons_succ]
      have : biD .tuple [.ref m.length] (m ++ [.lst (row.map .int)]) = .ok (.tup (row.map .int)) (m ++ [.lst (row.map .int)]) := by
        show tupleD [.ref m.length] _ = _
        unfold tupleD
        dsimp only
        rw [seq_cell]
      rw [this, Wr_ok, hr]
      exact ⟨rfl, _, rfl⟩
    cases hf : fL L p with
    | none =>
      have hf' : kget L (.inl p) = none := hf
      rw [hf'] at i1
      refine ⟨_, i1, true, rfl, ?_⟩
      rw [if_pos rfl]
      refine ⟨true, rfl, ?_⟩
      rw [if_pos rfl]
      exact stop rfl (by show road (fL L) (ds.length + 1) row p = _; unfold road; rw [hf])
    | some q =>
      have hf' : kget L (.inl p) = some q := hf
      rw [hf'] at i1
      refine ⟨_, i1, false, rfl, ?_⟩
      rw [if_neg (by decide)]
      refine ⟨_, i2, ?_⟩
      by_cases hp : p ∈ row
      · refine ⟨true, by rw [decide_eq_true hp], ?_⟩
        rw [if_pos rfl]
        exact stop rfl (by show road (fL L) (ds.length + 1) row p = _; unfold road; rw [hf]; dsimp only; rw [if_pos hp])
      · refine ⟨false, by rw [decide_eq_false hp], ?_⟩
        rw [if_neg (by decide), w_snil, w_scons, w_expr, w_app]
        simp only [EV.w_cons, EV.w_nil, EV.w_var, List.getElem?_cons_zero, List.getElem?_cons_succ]
        refine ⟨?_, ?_⟩
        · unfold tyM
          dsimp only
          rw [last_cell]
        rw [app_cell (by omega), Wr_ok, w_scons, w_asg]
        simp only [EV.w_idx, EV.w_var, List.getElem?_cons_zero, List.getElem?_cons_succ]
        have hd2 : Dc (m ++ [.lst ((row ++ [p]).map .int)]) dC L := hd.more
        refine ⟨_, idx_dic (v := q) hd2.s hd2.q hd2.d rfl hf', [some dC, some (.int q), some (.ref m.length), some x], rfl, ?_⟩
        rw [w_snil]
        have hr : road (fL L) (x :: ds).length row p = road (fL L) ds.length (row ++ [p]) q := by
          show road (fL L) (ds.length + 1) row p = _
          conv => lhs; unfold road
          rw [hf]; dsimp only; rw [if_neg hp]
        rw [hr]
        exact lroad_loop hd rfl o ds (row ++ [p]) q (some x) (by rw [List.length_append, List.length_singleton]; omega)
/-- _law_road -/
theorem lroad_ok {dC : D} {p : Int} (hd : Dc m dC L) (hl : L.length ≤ 60) (hr : bels 0 [dC, .int p] = false) : callAt T wf (k + 1) 26 [dC, .int p] m = .ok (roadD (road (fL L) (L.length + 1) [] p)) m := by
  refine call_eqM (fn := f26) rfl rfl (roadD_bel _ _) hr ?_
  simp only [f26, startR, List.map_cons, List.map_nil, List.length_cons, List.length_nil, List.cons_append, List.nil_append, List.replicate_succ, List.replicate_zero, Nat.reduceAdd, Nat.reduceSub]
  show Wo (exSs (C k) (loAt T wf k) wf b26 [some dC, some (.int p), none, none] m) _ _
  have hb : b26 = b26 := rfl
  conv at hb => rhs; unfold b26
  rw [hb, w_scons, w_asg, w_alc]
  simp only [EV.w_lst, EV.w_nil]
  show Wr (R.ok (D.ref m.length) (m ++ [.lst []])) _
  rw [Wr_ok]
  refine ⟨[some dC, some (.int p), some (.ref m.length), none], rfl, ?_⟩
  rw [w_scons]
  have hd1 : Dc (m ++ [.lst []]) dC L := hd.more
  refine wo_forR (i := (L.length : Int) + 1) (L.length + 1) ?_ (by omega) (by omega) (by show _ ≤ (16777216 : Int); omega) ?_
  · refine wr_eq ?_
    simp only [EV.w_bin, EV.w_bi, EV.w_cons, EV.w_nil, EV.w_var, EV.w_int, List.getElem?_cons_zero]
    rw [lenL hd1.s hd1.q hd1.d, Wr_ok]
    exact ⟨rfl, rfl⟩
  · have := lroad_loop (k := k) hd hb (loAt T wf k) ((List.range (L.length + 1)).map fun (j : Nat) => D.int (0 + (j : Int))) [] p none (by rw [List.length_map, List.length_range]; simp only [List.length_nil]; omega)
    rw [List.length_map, List.length_range] at this
    refine this.imp ?_ fun _ _ h => h
    rintro ρ' m' ⟨a3, rfl, rfl⟩
    rw [w_scons, w_ret]
    simp only [EV.w_tup, EV.w_bi, EV.w_cons, EV.w_nil, EV.w_var, List.getElem?_cons_zero, List.getElem?_cons_succ]
    have : biD .tuple [.ref m.length] (m ++ [.lst ((road (fL L) (L.length + 1) [] p).1.map .int)]) = .ok (.tup ((road (fL L) (L.length + 1) [] p).1.map .int)) (m ++ [.lst ((road (fL L) (L.length + 1) [] p).1.map .int)]) := by
      show tupleD [.ref m.length] _ = _
      unfold tupleD
      dsimp only
      rw [seq_cell]
    rw [this, Wr_ok]
    exact ⟨rfl, _, rfl⟩
/-! the program's road -/
def metC (row : List Int) : Cell := .dic (row.map .inl) (row.map fun _ => .bl true)
theorem kin_row {row : List Int} {p : Int} : kin (row.map .inl) (.inl p) = decide (p ∈ row) := by
  rw [Bool.eq_iff_iff, kin_mem, decide_eq_true_eq, List.mem_map]
  constructor
  · rintro ⟨x, h, e⟩; rw [← Sum.inl.inj e]; exact h
  · intro h; exact ⟨p, h, rfl⟩
def addk (row : List Int) (p : Int) : List Int := if p ∈ row then row else row ++ [p]
theorem dset_true (q : Key) : ∀ row : List Int, dsetX (row.map Sum.inl) (row.map fun _ => D.bl true) q (.bl true) = row.map fun _ => D.bl true
  | [] => rfl
  | x :: r => by
    show (if (Sum.inl x : Key) = q then D.bl true else D.bl true) :: dsetX (r.map Sum.inl) (r.map fun _ => D.bl true) q (.bl true) = _
    rw [dset_true q r, ite_self]; rfl
theorem set_met {row : List Int} {p : Int} {n : Nat} (hl : row.length ≤ 1000) (h : m[n]? = some (metC row)) : setD (.ref n) (.int p) (.bl true) m = some (m.set n (metC (addk row p))) := by
  unfold setD
  dsimp only
  rw [h]
  unfold metC
  dsimp only
  rw [show keyD (.int p) = some (.inl p) from rfl]
  dsimp only
  rw [if_pos (by rw [List.length_map]; show _ < 16777216; omega)]
  unfold dputK dputX addk
  rw [kin_row]
  by_cases hp : p ∈ row
  · rw [decide_eq_true hp, if_pos rfl, if_pos rfl, if_pos hp, dset_true]
  · rw [decide_eq_false hp, if_neg (by decide), if_neg (by decide), if_neg hp, List.map_append, List.map_append]; rfl
theorem in_met {row : List Int} {p : Int} {n : Nat} (h : m[n]? = some (metC row)) : inD m (.int p) (.ref n) = some (decide (p ∈ row)) := by
  unfold inD
  dsimp only
  have h1 : seqOf m (.ref n) = none := by unfold seqOf lstOf; dsimp only; rw [h]; rfl
  have h2 : dicOf m (.ref n) = some (row.map .inl, row.map fun _ => .bl true) := by unfold dicOf; dsimp only; rw [h]; rfl
  rw [h1]
  dsimp only
  rw [h2]
  dsimp only
  rw [show keyD (.int p) = some (.inl p) from rfl]
  dsimp only
  rw [kin_row]
theorem list_met {row : List Int} {n : Nat} (h : m[n]? = some (metC row)) : biD .list [.ref n] m = .ok (.lst (row.map .int)) m := by
  show listD [.ref n] m = _
  unfold listD
  dsimp only
  have h1 : seqOf m (.ref n) = none := by unfold seqOf lstOf; dsimp only; rw [h]; rfl
  have h2 : dicOf m (.ref n) = some (row.map .inl, row.map fun _ => .bl true) := by unfold dicOf; dsimp only; rw [h]; rfl
  rw [h1]
  dsimp only
  rw [h2]
  dsimp only
  rw [if_pos (by rw [List.all_map]; exact List.all_eq_true.mpr fun _ _ => rfl), List.map_map]
  rfl
theorem ck_len (L : KL) : (ck L).length = L.length := List.length_map _
theorem raw_loop {c : Ex} {body : Ss} (o : Lo) (hc : c = .and (.cmp .In (.var 3) (.var 0)) (.cmp .NotIn (.var 3) (.var 2))) (hbd : body = .cons (.seti (.var 2) (.var 3) (.lit (.bool true))) (.cons (.asg (.nm 3) (.idx (.var 0) (.var 3))) .nil)) (hl : L.length ≤ 60) (a1 : Option D) :
    ∀ (n : Nat) (row : List Int) (p : Int) (fuel : Nat), row.Nodup → (∀ x ∈ row, (Sum.inl x : Key) ∈ ck L) → n + row.length = L.length + 1 → n < fuel →
      Wo (whlL (evE (C k) o c) (fun ρ' m' => exSs (C k) o wf body ρ' m') fuel [some (.dic (ck L) (cx L)), a1, some (.ref 0), some (.int p)] [metC row])
        (fun ρ' m' => ρ' = [some (.dic (ck L) (cx L)), a1, some (.ref 0), some (.int (road (fL L) n row p).2)] ∧ m' = [metC (road (fL L) n row p).1]) (fun _ _ => False)
  | 0, row, p, fuel, nd, hs, hn, hf => by
    exfalso
    have : (row.map (Sum.inl : Int → Key)).Nodup := by
      rw [List.nodup_iff_pairwise_ne, List.pairwise_map]
      exact (List.nodup_iff_pairwise_ne.mp nd).imp fun h e => h (Sum.inl.inj e)
    have := List.Nodup.length_le_of_subset this (l₂ := ck L) fun q hq => by
      obtain ⟨x, hx, rfl⟩ := List.mem_map.mp hq
      exact hs x hx
    rw [List.length_map, ck_len] at this
    omega
  | n + 1, row, p, 0, nd, hs, hn, hf => by omega
  | n + 1, row, p, fuel + 1, nd, hs, hn, hf => by
    refine whl_step ?_
    have hd : Dc [metC row] (.dic (ck L) (cx L)) L := Dc.self
    have i1 := isin (in_dic (k := .int p) (q := .inl p) hd.s hd.q hd.d rfl)
    have i2 := notin (in_met (m := [metC row]) (row := row) (p := p) (n := 0) rfl)
    rw [hc, w_and, w_cmp]
    simp only [EV.w_var, EV.w_cmp, List.getElem?_cons_zero, List.getElem?_cons_succ]
    cases hf : fL L p with
    | none =>
      have hf' : kget L (.inl p) = none := hf
      rw [hf'] at i1
      refine ⟨_, i1, false, rfl, ?_⟩
      rw [if_neg (by decide)]
      have : road (fL L) (n + 1) row p = (row, p) := by unfold road; rw [hf]
      refine ⟨false, rfl, ?_⟩
      rw [this]
      exact ⟨rfl, rfl⟩
    | some q =>
      have hf' : kget L (.inl p) = some q := hf
      rw [hf'] at i1
      refine ⟨_, i1, true, rfl, ?_⟩
      rw [if_pos rfl]
      refine ⟨_, i2, ?_⟩
      by_cases hp : p ∈ row
      · have : road (fL L) (n + 1) row p = (row, p) := by unfold road; rw [hf]; dsimp only; rw [if_pos hp]
        refine ⟨false, by rw [decide_eq_true hp]; rfl, ?_⟩
        rw [this]
        exact ⟨rfl, rfl⟩
      · have hr : road (fL L) (n + 1) row p = road (fL L) n (row ++ [p]) q := by
          conv => lhs; unfold road
          rw [hf]; dsimp only; rw [if_neg hp]
        refine ⟨true, by rw [decide_eq_false hp]; rfl, ?_⟩
        rw [if_pos rfl, hr]
        have step := raw_loop o hc hbd hl a1 n (row ++ [p]) q fuel (by
          rw [List.nodup_append]
          refine ⟨nd, by simp, fun a ha b hb e => ?_⟩
          rw [List.mem_singleton] at hb
          subst hb; subst e
          exact hp ha) (fun x hx => by
          rcases List.mem_append.mp hx with h | h
          · exact hs x h
          · rw [List.mem_singleton.mp h]; exact kget_in.mp (by rw [hf']; rfl)) (by rw [List.length_append, List.length_singleton]; omega) (by omega)
        have sm := set_met (m := [metC row]) (row := row) (p := p) (n := 0) (by omega) rfl
        have ha : addk row p = row ++ [p] := if_neg hp
        rw [ha] at sm
        refine Eq.mpr (congrArg (fun z => Wo (exSs (C k) o wf z _ _) _ _) hbd) ?_
        rw [w_scons, w_seti]
        simp only [EV.w_var, EV.w_bool, List.getElem?_cons_zero, List.getElem?_cons_succ]
        refine ⟨_, sm, ?_⟩
        rw [w_scons, w_asg]
        simp only [EV.w_idx, EV.w_var, List.getElem?_cons_zero, List.getElem?_cons_succ]
        have hd2 : Dc ([metC row].set 0 (metC (row ++ [p]))) (.dic (ck L) (cx L)) L := Dc.self
        refine ⟨_, idx_dic (v := q) hd2.s hd2.q hd2.d rfl hf', [some (.dic (ck L) (cx L)), a1, some (.ref 0), some (.int q)], rfl, ?_⟩
        rw [w_snil]
        rw [hc] at step
        exact step
theorem bels_cx (L : KL) (n : Nat) : bels n (cx L) = true := by
  induction L with
  | nil => rfl
  | cons p r ih => show (true && bels n (cx r)) = true; rw [ih]; rfl
theorem raw_ok {p : Int} (hl : L.length ≤ 60) : callAt T wf (k + 1) 15 [.dic (ck L) (cx L), .int p] m = .ok (.tup [.lst ((road (fL L) (L.length + 1) [] p).1.map .int), .int (road (fL L) (L.length + 1) [] p).2]) m := by
  refine call_eqG (fn := f15) rfl rfl ?_ ?_ ?_
  · show (bels 0 _ && (true && true)) = true
    rw [bel_ints]; rfl
  · show (bels 0 (cx L) && (true && true)) = true
    rw [bels_cx]; rfl
  simp only [f15, b15, startR, List.map_cons, List.map_nil, List.length_cons, List.length_nil, List.cons_append, List.nil_append, List.replicate_succ, List.replicate_zero, Nat.reduceAdd, Nat.reduceSub]
  rw [w_scons, w_par]
  simp only [EV.w_cons, EV.w_nil, EV.w_alc, EV.w_var, List.getElem?_cons_zero, List.getElem?_cons_succ]
  show Wr (R.ok (D.dic [] []) ([] : Mem)) _
  rw [Wr_ok]
  show Wr (R.ok (D.ref 0) [metC []]) _
  rw [Wr_ok]
  refine ⟨[some (.dic (ck L) (cx L)), some (.int p), some (.ref 0), some (.int p)], rfl, ?_⟩
  rw [w_scons, w_whl]
  have := raw_loop (k := k) (L := L) (loAt T wf k) rfl rfl hl (some (.int p)) (L.length + 1) [] p 100 List.nodup_nil (fun _ h => by cases h) (by simp) (by omega)
  refine this.imp ?_ fun _ _ h => h.elim
  rintro ρ' m' ⟨rfl, rfl⟩
  rw [w_scons, w_ret]
  simp only [EV.w_tup, EV.w_bi, EV.w_cons, EV.w_nil, EV.w_var, List.getElem?_cons_zero, List.getElem?_cons_succ]
  rw [list_met (m := [metC (road (fL L) (L.length + 1) [] p).1]) (n := 0) rfl, Wr_ok]
/-! the asked functions -/
theorem chk_ok {p : Int} (h : Hp1 L) (h1 : 0 ≤ p) (h2 : p ≤ 999999999) : callAt T wf (k + 6) 13 [.tup (cI (SL L)), .int p] m = .ok .non m := by
  have hi : im (.tup (cI (SL L))) = true := items_im h.s.u
  refine call_eqG (fn := f13) rfl rfl rfl (bel1 hi) ?_
  simp only [f13, b13, startR, List.map_cons, List.map_nil, List.length_cons, List.length_nil, List.cons_append, List.nil_append, List.replicate_succ, List.replicate_zero, Nat.reduceAdd, Nat.reduceSub]
  have e1 : callAt T wf (k + 5) 8 [.tup (cI (SL L))] [] = .ok (.bl (rowB 60 heapP (.tup (cI (SL L))))) [] := j_heap (k := k + 1) (m := []) hi
  rw [heap_row h] at e1
  have e2 : callAt T wf (k + 5) 4 [.int p] [] = .ok (.bl (withB 0 999999999 (.int p))) [] := j_place (k := k + 2) (m := []) (d := .int p) rfl
  rw [with_of h1 h2] at e2
  rw [w_scons, w_ifs]
  simp only [EV.w_not, EV.w_call, EV.w_cons, EV.w_nil, EV.w_var, List.getElem?_cons_zero, List.getElem?_cons_succ]
  rw [e1, Wr_ok]
  refine ⟨true, rfl, false, rfl, ?_⟩
  rw [if_neg (by decide), w_snil, w_scons, w_ifs]
  simp only [EV.w_not, EV.w_call, EV.w_cons, EV.w_nil, EV.w_var, List.getElem?_cons_zero, List.getElem?_cons_succ]
  rw [e2, Wr_ok]
  refine ⟨true, rfl, false, rfl, ?_⟩
  rw [if_neg (by decide), w_snil, w_snil]
  trivial
def optD : Option Int → D
  | some v => .int v
  | none => .non
theorem optD_bel (o : Option Int) (n : Nat) : bel n (optD o) = true := by cases o <;> rfl
theorem pts_ok {p : Int} (h : Hp1 L) (h1 : 0 ≤ p) (h2 : p ≤ 999999999) : callAt T wf (k + 7) 14 [.tup (cI (SL L)), .int p] m = .ok (optD (fL L p)) m := by
  have hi : im (.tup (cI (SL L))) = true := items_im h.s.u
  refine call_eqG (fn := f14) rfl rfl (optD_bel _ _) (bel1 hi) ?_
  simp only [f14, b14, startR, List.map_cons, List.map_nil, List.length_cons, List.length_nil, List.cons_append, List.nil_append, List.replicate_succ, List.replicate_zero, Nat.reduceAdd, Nat.reduceSub]
  rw [w_scons, w_expr]
  simp only [EV.w_call, EV.w_cons, EV.w_nil, EV.w_var, List.getElem?_cons_zero, List.getElem?_cons_succ]
  rw [chk_ok (k := k) (m := []) h h1 h2, Wr_ok, w_scons, w_ret, w_dget]
  simp only [EV.w_bi, EV.w_cons, EV.w_nil, EV.w_var, EV.w_none, List.getElem?_cons_zero, List.getElem?_cons_succ]
  rw [dict_k h.s.n, Wr_ok]
  refine ⟨rfl, ?_⟩
  have : dgetD (.dic (ck (SL L)) (cx (SL L))) (.int p) .non [] = .ok (optD (fL L p)) [] := by
    unfold dgetD
    show R.ok ((dget (ck (SL L)) (cx (SL L)) (.inl p)).getD .non) [] = _
    rw [dget_k, SL_get h.n]
    show _ = R.ok (optD (kget L (.inl p))) []
    cases kget L (.inl p) <;> rfl
  rw [this, Wr_ok]
theorem rf_ok {p : Int} (h : Hp1 L) (h1 : 0 ≤ p) (h2 : p ≤ 999999999) : callAt T wf (k + 7) 16 [.tup (cI (SL L)), .int p] m = .ok (roadD (road (fL L) (L.length + 1) [] p)) m := by
  have hi : im (.tup (cI (SL L))) = true := items_im h.s.u
  refine call_eqG (fn := f16) rfl rfl (roadD_bel _ _) (bel1 hi) ?_
  simp only [f16, b16, startR, List.map_cons, List.map_nil, List.length_cons, List.length_nil, List.cons_append, List.nil_append, List.replicate_succ, List.replicate_zero, Nat.reduceAdd, Nat.reduceSub]
  rw [w_scons, w_expr]
  simp only [EV.w_call, EV.w_cons, EV.w_nil, EV.w_var, List.getElem?_cons_zero, List.getElem?_cons_succ]
  rw [chk_ok (k := k) (m := []) h h1 h2, Wr_ok, w_scons, w_asg]
  simp only [EV.w_call, EV.w_bi, EV.w_cons, EV.w_nil, EV.w_var, List.getElem?_cons_zero, List.getElem?_cons_succ]
  have hr : callAt T wf (k + 6) 15 [.dic (ck (SL L)) (cx (SL L)), .int p] [] = .ok (.tup [.lst ((road (fL (SL L)) ((SL L).length + 1) [] p).1.map .int), .int (road (fL (SL L)) ((SL L).length + 1) [] p).2]) [] := raw_ok (k := k + 5) (m := []) (L := SL L) (p := p) h.s.l
  rw [fS h.n, SL_len] at hr
  rw [dict_k h.s.n, Wr_ok, hr, Wr_ok]
  refine ⟨[some (.tup (cI (SL L))), some (.int p), some (.lst ((road (fL L) (L.length + 1) [] p).1.map .int)), some (.int (road (fL L) (L.length + 1) [] p).2)], rfl, ?_⟩
  rw [w_scons, w_ret]
  simp only [EV.w_tup, EV.w_bi, EV.w_cons, EV.w_nil, EV.w_var, List.getElem?_cons_zero, List.getElem?_cons_succ, K02.tup_ok, Wr_ok]
  rfl
end
end K02

/-! k02: _law_is of a thing and itself. -/
namespace K02
open PySem PySem.Spec PyProof.Rows L2 EV
theorem w_lcpZ {C : Nat → List D → Mem → R D} {o : Lo} {ρ : Rho} {m : Mem} {Q : D → Mem → Prop} {a b e : Ex} {own : List (Str × Nat)} {t : Tg} (h : Wr (evE C o a ρ m) fun d m1 => Wr (evE C o b ρ m1) fun f m2 => ∃ xs, zipD d f = some xs ∧ xs.length ≤ lim ∧ Wr (lcpL none (tgD t) (fun _ m => .ok true m) (fun ρ' m => calmR (evE C o e ρ' m)) (wipeR ρ (own.map (·.2))) xs [] m2) Q) :
    Wr (evE C o (.lcp own t (.zip a b) .no e) ρ m) Q := by
  have e1 : evE C o (.lcp own t (.zip a b) .no e) ρ m = ((evE C o a ρ m).bind fun d m1 => (evE C o b ρ m1).bind fun f m2 => R.of ((zipD d f).map fun xs => (xs, none)) m2).bind fun xs m1 => if lim < xs.1.length then .bad else lcpL xs.2 (tgD t) (fun _ m => .ok true m) (fun ρ' m => calmR (evE C o e ρ' m)) (wipeR ρ (own.map (·.2))) xs.1 [] m1 := rfl
  rw [e1, Wr_bind, Wr_bind]
  refine h.imp fun d m1 h => ?_
  rw [Wr_bind]
  refine h.imp fun f m2 h => ?_
  obtain ⟨xs, h1, h2, h3⟩ := h
  rw [h1]
  show Wr (if lim < xs.length then R.bad else _) Q
  rw [if_neg (Nat.not_lt.mpr h2)]
  exact h3
section
variable {k : Nat} {m : Mem}
theorem rot_ok {i : Int} (h1 : 0 ≤ i) (h2 : i ≤ 999999999) : ∃ s, rotI i = some (.str s) := by
  refine ⟨toString i, ?_⟩
  unfold rotI
  rw [if_pos]
  by_cases hz : i.natAbs = 0
  · rw [hz]; decide
  · have h3 : i.natAbs.log2 < 30 := (Nat.log2_lt hz).mpr (by have : (2 : Nat) ^ 30 = 1073741824 := rfl; omega)
    omega
theorem eqS_self (s : Str) (m : Mem) : cmpD .Eq (.str s) (.str s) m = some true := by
  rw [eqS, eqv_str, decide_eq_true rfl]
theorem is_int {i : Int} (h1 : 0 ≤ i) (h2 : i ≤ 999999999) : callAt T wf (k + 1) 22 [.int i, .int i] m = .ok (.bl true) m := by
  obtain ⟨s, hs⟩ := rot_ok h1 h2
  refine call_eqG (fn := f22) rfl rfl rfl rfl ?_
  have q1 : ∀ m : Mem, isiD m (.int i) [.tuple, .list] = some false := fun _ => rfl
  have q2 : ∀ m : Mem, isiD m (.int i) [.bool] = some false := fun _ => rfl
  have q3 : ∀ m : Mem, isiD m (.int i) [.str] = some false := fun _ => rfl
  have q4 : ∀ m : Mem, isiD m (.int i) [.int] = some true := fun _ => rfl
  have q5 : ∀ m : Mem, cmpD .Is (.int i) .non m = some false := fun _ => rfl
  have q6 : ∀ m : Mem, biD .repr [.int i] m = .ok (.str s) m := fun m => by
    show R.of (rotI i) m = _
    rw [hs]; rfl
  simp only [f22, b22, startR, List.map_cons, List.map_nil, List.length_cons, List.length_nil, List.cons_append, List.nil_append, List.replicate_succ, List.replicate_zero, Nat.reduceAdd, Nat.reduceSub, EV.w_scons, EV.w_ifs, EV.w_isi, EV.w_var, EV.w_or, EV.w_cmp, EV.w_none, EV.w_not, EV.w_and, EV.w_ret, EV.w_bi, EV.w_cons, EV.w_nil, List.getElem?_cons_zero, List.getElem?_cons_succ, q1, q2, q3, q4, q5, q6, Option.some.injEq, exists_eq_left', D.bl.injEq, Bool.not_true, Bool.not_false, Bool.false_eq_true, if_false, ite_false, if_true, ite_true, EV.w_snil, Wr_ok, eqS_self]
theorem is_non : callAt T wf (k + 1) 22 [.non, .non] m = .ok (.bl true) m := by
  refine call_eqG (fn := f22) rfl rfl rfl rfl ?_
  have q1 : ∀ m : Mem, isiD m .non [.tuple, .list] = some false := fun _ => rfl
  have q5 : ∀ m : Mem, cmpD .Is .non .non m = some true := fun _ => rfl
  simp only [f22, b22, startR, List.map_cons, List.map_nil, List.length_cons, List.length_nil, List.cons_append, List.nil_append, List.replicate_succ, List.replicate_zero, Nat.reduceAdd, Nat.reduceSub, EV.w_scons, EV.w_ifs, EV.w_ife, EV.w_isi, EV.w_var, EV.w_or, EV.w_cmp, EV.w_none, EV.w_not, EV.w_and, EV.w_ret, EV.w_bi, EV.w_cons, EV.w_nil, List.getElem?_cons_zero, List.getElem?_cons_succ, q1, q5, Option.some.injEq, exists_eq_left', D.bl.injEq, Bool.not_true, Bool.not_false, Bool.false_eq_true, if_false, ite_false, if_true, ite_true, EV.w_snil, Wr_ok]
theorem is_str {x : Str} (h : (reprText x).length ≤ lim) (h2 : sOk (reprText x) = true) : callAt T wf (k + 1) 22 [.str x, .str x] m = .ok (.bl true) m := by
  refine call_eqG (fn := f22) rfl rfl rfl rfl ?_
  have q1 : ∀ m : Mem, isiD m (.str x) [.tuple, .list] = some false := fun _ => rfl
  have q2 : ∀ m : Mem, isiD m (.str x) [.bool] = some false := fun _ => rfl
  have q3 : ∀ m : Mem, isiD m (.str x) [.str] = some true := fun _ => rfl
  have q5 : ∀ m : Mem, cmpD .Is (.str x) .non m = some false := fun _ => rfl
  have q6 : ∀ m : Mem, biD .repr [.str x] m = .ok (.str (reprText x)) m := fun m => by
    show (if (reprText x).length ≤ lim ∧ sOk (reprText x) = true then R.ok (D.str (reprText x)) m else .bad) = _
    exact if_pos ⟨h, h2⟩
  simp only [f22, b22, startR, List.map_cons, List.map_nil, List.length_cons, List.length_nil, List.cons_append, List.nil_append, List.replicate_succ, List.replicate_zero, Nat.reduceAdd, Nat.reduceSub, EV.w_scons, EV.w_ifs, EV.w_isi, EV.w_var, EV.w_or, EV.w_cmp, EV.w_none, EV.w_not, EV.w_and, EV.w_ret, EV.w_bi, EV.w_cons, EV.w_nil, List.getElem?_cons_zero, List.getElem?_cons_succ, q1, q2, q3, q5, q6, Option.some.injEq, exists_eq_left', D.bl.injEq, Bool.not_true, Bool.not_false, Bool.false_eq_true, if_false, ite_false, if_true, ite_true, EV.w_snil, Wr_ok, eqS_self]
theorem is_tup {xs : List D} (hl : xs.length ≤ 1000) (hb : bels 0 xs = true) (h : ∀ x ∈ xs, ∀ m, callAt T wf k 22 [x, x] m = .ok (.bl true) m) : callAt T wf (k + 1) 22 [.tup xs, .tup xs] m = .ok (.bl true) m := by
  refine call_eqG (fn := f22) rfl rfl rfl ?_ ?_
  · show (bels 0 xs && (bels 0 xs && true)) = true
    rw [hb]; rfl
  have hi : ∀ (ds : List D) (m : Mem), isiD m (.tup ds) [.tuple, .list] = some true := fun _ _ => rfl
  have hi2 : ∀ (ds : List D) (m : Mem), isiD m (.tup ds) [.tuple] = some true := fun _ _ => rfl
  have hne : ∀ m : Mem, cmpD .NotEq (.bl true) (.bl true) m = some false := fun m => by
    show some (!(PyData.eqv (.bool true) (.bool true))) = _
    simp [PyData.eqv]
  have hlen : ∀ (ds : List D) (m : Mem), biD .len [.tup ds] m = .ok (.int ds.length) m := fun _ _ => rfl
  simp only [f22, b22, startR, List.map_cons, List.map_nil, List.length_cons, List.length_nil, List.cons_append, List.nil_append, List.replicate_succ, List.replicate_zero, Nat.reduceAdd, Nat.reduceSub, EV.w_scons, EV.w_ifs, EV.w_isi, EV.w_var, EV.w_or, EV.w_cmp, EV.w_not, EV.w_and, EV.w_ret, EV.w_bi, EV.w_cons, EV.w_nil, List.getElem?_cons_zero, List.getElem?_cons_succ, hi, hi2, Option.some.injEq, exists_eq_left', D.bl.injEq, hne, Bool.not_true, Bool.false_eq_true, if_false, ite_false, if_true, ite_true, EV.w_snil, hlen, Wr_ok, eq_ok, decide_true]
  refine w_lcpZ ?_
  simp only [EV.w_var, List.getElem?_cons_zero, List.getElem?_cons_succ]
  refine ⟨(xs.zip xs).map fun p => .pr p.1 p.2, rfl, ?_, ?_⟩
  · rw [List.length_map, List.length_zip, Nat.min_self]
    show _ ≤ 16777216
    omega
  · rw [show wipeR [some (D.tup xs), some (D.tup xs), none, none] ([(Str.ofString "one", 2), (Str.ofString "other", 3)].map (·.2)) = [some (.tup xs), some (.tup xs), none, none] from rfl]
    rw [lcp_bool (p := fun _ => true) fun x hx => ?_, Wr_ok]
    · rw [show ∀ x, biD .all x ([] : Mem) = allD x [] from fun _ => rfl, allD_map, Wr_ok]
      congr 1
      rw [List.all_map, List.all_eq_true]
      intro _ _; rfl
    · obtain ⟨p, hp, rfl⟩ := List.mem_map.mp hx
      obtain ⟨j, hj⟩ := List.mem_iff_getElem?.mp hp
      rw [List.getElem?_zip_eq_some] at hj
      have e2 : p.1 = p.2 := Option.some.inj (hj.1.symm.trans hj.2)
      refine ⟨[some (.tup xs), some (.tup xs), some p.1, some p.2], rfl, rfl, ?_⟩
      show calmR (evE (callAt T wf k) (loAt T wf k) (.call 22 (.cons (.var 2) (.cons (.var 3) .nil))) [some (.tup xs), some (.tup xs), some p.1, some p.2] []) = _
      rw [show evE (callAt T wf k) (loAt T wf k) (.call 22 (.cons (.var 2) (.cons (.var 3) .nil))) [some (.tup xs), some (.tup xs), some p.1, some p.2] [] = callAt T wf k 22 [p.1, p.2] [] from rfl]
      rw [← e2, h p.1 (List.mem_of_getElem? hj.1)]
      rfl
def inP (i : Int) : Prop := 0 ≤ i ∧ i ≤ 999999999
theorem is_ints {l : List Int} (hl : l.length ≤ 1000) (h : ∀ i ∈ l, inP i) : callAt T wf (k + 2) 22 [.tup (l.map .int), .tup (l.map .int)] m = .ok (.bl true) m := by
  refine is_tup (by rw [List.length_map]; exact hl) (bel_ints 0 l) fun x hx m => ?_
  obtain ⟨i, hi, rfl⟩ := List.mem_map.mp hx
  exact is_int (h i hi).1 (h i hi).2
theorem is_road {r : List Int × Int} (hl : r.1.length ≤ 1000) (h : ∀ i ∈ r.1, inP i) (h2 : inP r.2) : callAt T wf (k + 3) 22 [roadD r, roadD r] m = .ok (.bl true) m := by
  refine is_tup (show 2 ≤ 1000 by omega) ?_ fun x hx m => ?_
  · show (bels 0 _ && (true && true)) = true
    rw [bel_ints]; rfl
  · rcases List.mem_cons.mp hx with rfl | hx
    · exact is_ints hl h
    · rw [List.mem_singleton.mp hx]
      exact is_int h2.1 h2.2
theorem is_opt {o : Option Int} (h : ∀ v, o = some v → inP v) : callAt T wf (k + 1) 22 [optD o, optD o] m = .ok (.bl true) m := by
  cases o with
  | none => exact is_non
  | some v => exact is_int (h v rfl).1 (h v rfl).2
/-- what a road tells -/
theorem road_in {L : KL} (h : Hp1 L) : ∀ (n : Nat) (row : List Int) (p : Int), (∀ i ∈ row, inP i) → inP p → (∀ i ∈ (road (fL L) n row p).1, inP i) ∧ inP (road (fL L) n row p).2 ∧ (road (fL L) n row p).1.length ≤ row.length + n
  | 0, row, p, h1, h2 => ⟨h1, h2, Nat.le_refl _⟩
  | n + 1, row, p, h1, h2 => by
    unfold road
    cases hf : fL L p with
    | none => exact ⟨h1, h2, by dsimp only; omega⟩
    | some q =>
      dsimp only
      by_cases hp : p ∈ row
      · rw [if_pos hp]; exact ⟨h1, h2, by dsimp only; omega⟩
      · rw [if_neg hp]
        have hq := (h.k _ (kget_mem hf)).2
        have := road_in h n (row ++ [p]) q (fun i hi => by
          rcases List.mem_append.mp hi with hi | hi
          · exact h1 i hi
          · rw [List.mem_singleton.mp hi]; exact h2) hq
        rw [List.length_append, List.length_singleton] at this
        exact ⟨this.1, this.2.1, by omega⟩
end
/-! the text of a word -/
theorem rch : ∀ c ∈ letters.cps.toList, ∀ q ∈ [34, 39], PySem.Builtin.Str.reprChar q c = [c] := by decide +kernel
theorem let_lt : ∀ c ∈ letters.cps.toList, c < 1114112 := by decide +kernel
theorem rfold {q : Nat} (hq : q ∈ [34, 39]) : ∀ (l : List Nat) (acc : Array Nat), (∀ c ∈ l, letB c = true) → l.foldl (fun out c => out ++ (PySem.Builtin.Str.reprChar q c).toArray) acc = acc ++ l.toArray
  | [], acc, _ => by simp
  | c :: l, acc, h => by
    rw [List.foldl_cons, rch c (of_decide_eq_true (h c List.mem_cons_self)) q hq, rfold hq l _ fun x hx => h x (List.mem_cons_of_mem _ hx)]
    simp
theorem quote_in (x : Str) : reprQuote x ∈ [34, 39] := by
  unfold reprQuote
  split <;> simp
theorem word_repr {cs : List Nat} (hl : cs.length ≤ 100) (h : ∀ c ∈ cs, letB c = true) : (reprText ⟨cs.toArray⟩).length ≤ lim ∧ sOk (reprText ⟨cs.toArray⟩) = true := by
  have e : reprText ⟨cs.toArray⟩ = ⟨(#[reprQuote ⟨cs.toArray⟩] ++ cs.toArray).push (reprQuote ⟨cs.toArray⟩)⟩ := by
    unfold reprText
    rw [List.foldl_toArray, rfold (quote_in _) cs _ h]
  have hq := quote_in ⟨cs.toArray⟩
  rw [e]
  refine ⟨?_, ?_⟩
  · show Array.size _ ≤ 16777216
    rw [Array.size_push, Array.size_append]
    simp
    omega
  · unfold sOk
    have hb : reprQuote ⟨cs.toArray⟩ < 1114112 := by
      simp only [List.mem_cons, List.not_mem_nil, or_false] at hq
      omega
    have hc : ∀ c ∈ cs, c < 1114112 := fun c hc => let_lt c (of_decide_eq_true (h c hc))
    show Array.all _ _ = true
    rw [Array.all_eq_true']
    intro x hx
    simp at hx
    rw [decide_eq_true_eq]
    show x < 1114112
    rcases hx with rfl | hx | rfl
    · exact hb
    · exact hc x hx
    · exact hb
end K02

/-! k02: places. -/
namespace K02
open PySem PySem.Spec PyProof.Rows L2 EV
section
variable {k : Nat} {c : Cell} {ms : Mem} {L : KL}
theorem fresh_ok (hc : HC c) : Dr ms (callAt T wf (k + 2) 23 [.ref 0] (c :: ms)) fun d => ∃ i, d = .int i ∧ 1 ≤ i ∧ i ≤ 999999999 := by
  refine Dr.by (fn := f23) rfl rfl rfl ?_
  have ep : ∀ m : Mem, binD .Pow (.int 10) (.int 9) m = .ok (.int 1000000000) m := fun m => rfl
  have es : ∀ m : Mem, binD .Sub (.int 1000000000) (.int 1) m = .ok (.int 999999999) m := fun m => rfl
  simp only [f23, b23, startR, List.map_cons, List.map_nil, List.length_cons, List.length_nil, List.cons_append, List.nil_append, List.replicate_succ, List.replicate_zero, Nat.reduceAdd, Nat.reduceSub, EV.w_scons, EV.w_ret, EV.w_bin, EV.w_call, EV.w_cons, EV.w_nil, EV.w_var, EV.w_int, List.getElem?_cons_zero, ep, es, Wr_ok]
  refine Dr.wr (draw_ok hc (by omega) (by omega)) ?_
  rintro _ c1 hc1 ⟨r, rfl, hr1, hr2⟩
  rw [add_ok, Wr_ok]
  exact Ed.here hc1 (fun _ => rfl) ⟨1 + r, rfl, by omega, by omega⟩
/-- a list of places, told or as a cell -/
structure Ml (ms : Mem) (d : D) (l : List Int) : Prop where
  add : ∀ c' (xs : List D), xs.length ≤ 100 → binD .Add (.lst xs) d (c' :: ms) = .ok (.lst (xs ++ l.map .int)) (c' :: ms)
  len : l.length ≤ 100
  pl : ∀ i ∈ l, inP i
theorem kI_mem {x : D} (h : Hp1 L) (hx : x ∈ kI L) : ∃ i, x = .int i ∧ 1 ≤ i ∧ i ≤ 999999999 := by
  unfold kI at hx
  obtain ⟨p, hp, rfl⟩ := List.mem_map.mp hx
  obtain ⟨⟨i, e, h1, h2⟩, _⟩ := h.k p hp
  exact ⟨i, by rw [e]; rfl, h1, h2⟩
theorem fL_in {p v : Int} (h : Hp1 L) (e : fL L p = some v) : inP v := (h.k _ (kget_mem e)).2
theorem dget_ok {d : D} {m : Mem} {p : Int} (h : Dc m d L) : dgetD d (.int p) .non m = .ok (optD (fL L p)) m := by
  unfold dgetD
  rw [h.d]
  dsimp only
  show R.ok ((dget (ck L) (cx L) (.inl p)).getD .non) m = _
  rw [dget_k]
  show _ = R.ok (optD (kget L (.inl p))) m
  cases kget L (.inl p) <;> rfl
theorem places_ok {j : Nat} {dM : D} {l : List Int} (hc : HC c) (h : Hp1 L) (hm : ms[j]? = some (.dic (ck L) (cx L))) (hM : Ml ms dM l) (hbM : bels 0 [.ref 0, .ref (j + 1), dM] = false) : Dr ms (callAt T wf (k + 9) 28 [.ref 0, .ref (j + 1), dM] (c :: ms)) fun d => d = .bl true := by
  have hd : ∀ c' : Cell, Dc (c' :: ms) (.ref (j + 1)) L := fun c' => Dc.cell (by rw [List.getElem?_cons_succ]; exact hm)
  refine Dr.by (fn := f28) rfl rfl hbM ?_
  have ep : ∀ m : Mem, binD .Pow (.int 10) (.int 9) m = .ok (.int 1000000000) m := fun m => rfl
  have es : ∀ m : Mem, binD .Sub (.int 1000000000) (.int 1) m = .ok (.int 999999999) m := fun m => rfl
  simp only [f28, b28, startR, List.map_cons, List.map_nil, List.length_cons, List.length_nil, List.cons_append, List.nil_append, List.replicate_succ, List.replicate_zero, Nat.reduceAdd, Nat.reduceSub]
  rw [w_scons, w_asg]
  simp only [EV.w_bi, EV.w_itm, EV.w_cons, EV.w_nil, EV.w_var, List.getElem?_cons_zero, List.getElem?_cons_succ]
  rw [items_ok h.u h.n (hd c).d, Wr_ok, tup_ok, Wr_ok]
  refine ⟨[some (.ref 0), some (.ref (j + 1)), some dM, some (.tup (cI (SL L))), none], rfl, ?_⟩
  rw [w_scons]
  refine wo_forS ?_
  simp only [EV.w_bin, EV.w_bi, EV.w_lst, EV.w_call, EV.w_cons, EV.w_nil, EV.w_var, EV.w_int, List.getElem?_cons_zero, List.getElem?_cons_succ, ep, es, Wr_ok]
  have hkl : (kI (SL L)).length ≤ 60 := by unfold kI; rw [List.length_map]; exact h.s.l
  rw [keys_ok h.u h.l (hd c).q (hd c).d, Wr_ok, hM.add c _ (by omega), Wr_ok]
  refine Dr.wr (fresh_ok (k := k + 6) hc) ?_
  rintro _ c1 hc1 ⟨r, rfl, hr1, hr2⟩
  have hml := hM.len
  have ha : ∀ m : Mem, binD .Add (.lst (kI (SL L) ++ l.map .int)) (.lst [.int r, .int 0, .int 999999999]) m = .ok (.lst (kI (SL L) ++ l.map .int ++ [.int r, .int 0, .int 999999999])) m := fun m => by
    refine if_pos ?_
    rw [List.length_append, List.length_map]
    show _ + _ + 3 ≤ 16777216
    omega
  rw [ha, Wr_ok]
  refine ⟨_, rfl, fun n => nofun, ?_⟩
  have hin : ∀ x ∈ kI (SL L) ++ l.map D.int ++ [.int r, .int 0, .int 999999999], ∃ i, x = .int i ∧ inP i := fun x hx => by
    rcases List.mem_append.mp hx with hx | hx
    · rcases List.mem_append.mp hx with hx | hx
      · obtain ⟨i, e, h1, h2⟩ := kI_mem h.s hx
        exact ⟨i, e, by omega, h2⟩
      · obtain ⟨i, hi, rfl⟩ := List.mem_map.mp hx
        exact ⟨i, rfl, hM.pl i hi⟩
    · simp only [List.mem_cons, List.not_mem_nil, or_false] at hx
      rcases hx with rfl | rfl | rfl
      · exact ⟨r, rfl, by omega, hr2⟩
      · exact ⟨0, rfl, by omega, by omega⟩
      · exact ⟨999999999, rfl, by omega, by omega⟩
  refine for_wo _ (fun i ρ m => ∃ a4 c', ρ = [some (.ref 0), some (.ref (j + 1)), some dM, some (.tup (cI (SL L))), a4] ∧ m = c' :: ms ∧ HC c') _ _ ⟨none, c1, rfl, rfl, hc1⟩ ?_ ?_
  · rintro i x ρ m hx ⟨a4, c', rfl, rfl, hc'⟩
    obtain ⟨p, rfl, hp⟩ := hin x (List.mem_of_getElem? hx)
    refine ⟨[some (.ref 0), some (.ref (j + 1)), some dM, some (.tup (cI (SL L))), some (.int p)], rfl, ?_⟩
    rw [w_scons, w_ifs, w_not]
    simp only [EV.w_call, EV.w_dget, EV.w_none, EV.w_cons, EV.w_nil, EV.w_var, List.getElem?_cons_zero, List.getElem?_cons_succ]
    have e1 : C (k + 8) 14 [.tup (cI (SL L)), .int p] (c' :: ms) = .ok (optD (fL L p)) (c' :: ms) := pts_ok (k := k + 1) h hp.1 hp.2
    rw [e1, Wr_ok]
    refine ⟨by unfold isDic; rw [(hd c').d]; rfl, ?_⟩
    rw [dget_ok (hd c'), Wr_ok]
    have e2 : C (k + 8) 22 [optD (fL L p), optD (fL L p)] (c' :: ms) = .ok (.bl true) (c' :: ms) := is_opt (k := k + 7) fun v e => fL_in h e
    rw [e2, Wr_ok]
    refine ⟨true, rfl, false, rfl, ?_⟩
    rw [if_neg (by decide), w_snil, w_scons, w_ifs, w_not]
    simp only [EV.w_call, EV.w_cons, EV.w_nil, EV.w_var, List.getElem?_cons_zero, List.getElem?_cons_succ]
    have e3 : C (k + 8) 16 [.tup (cI (SL L)), .int p] (c' :: ms) = .ok (roadD (road (fL L) (L.length + 1) [] p)) (c' :: ms) := rf_ok (k := k + 1) h hp.1 hp.2
    have e4 : C (k + 8) 26 [.ref (j + 1), .int p] (c' :: ms) = .ok (roadD (road (fL L) (L.length + 1) [] p)) (c' :: ms) := lroad_ok (k := k + 7) (hd c') h.l rfl
    rw [e3, Wr_ok, e4, Wr_ok]
    have hr := road_in h (L.length + 1) [] p (fun _ z => by cases z) hp
    have hl := h.l
    have e5 : C (k + 8) 22 [roadD (road (fL L) (L.length + 1) [] p), roadD (road (fL L) (L.length + 1) [] p)] (c' :: ms) = .ok (.bl true) (c' :: ms) := is_road (k := k + 5) (by have := hr.2.2; rw [List.length_nil] at this; omega) hr.1 hr.2.1
    rw [e5, Wr_ok]
    refine ⟨true, rfl, false, rfl, ?_⟩
    rw [if_neg (by decide), w_snil, w_snil]
    exact ⟨_, c', rfl, rfl, hc'⟩
  · rintro ρ m ⟨a4, c', rfl, rfl, hc'⟩
    rw [w_scons, w_ret, w_bool]
    exact Ed.here hc' (fun _ => rfl) rfl
end
end K02

/-! k02: worth_of, lost_cells. -/
namespace K02
open PySem PySem.Spec PyProof.Rows L2 EV
/-- a word of letters -/
structure LW (s : Str) : Prop where
  l1 : 1 ≤ s.length
  l8 : s.length ≤ 8
  a : s.cps.toList.all letB = true
theorem LW.of {s : Str} (h : nameB (.str s) = true) : LW s ∧ bndB s = false := by
  have h2 : (decide ((1 : Int) ≤ s.length) && decide ((s.length : Int) ≤ 8) && !bndB s && s.cps.toList.all letB) = true := h
  simp only [Bool.and_eq_true, decide_eq_true_eq, Bool.not_eq_true'] at h2
  exact ⟨⟨by omega, by omega, h2.2⟩, h2.1.2⟩
theorem LW.name {s : Str} (h : LW s) (b : bndB s = false) : nameB (.str s) = true := by
  show (decide ((1 : Int) ≤ s.length) && decide ((s.length : Int) ≤ 8) && !bndB s && s.cps.toList.all letB) = true
  have h1 := h.l1
  have h8 := h.l8
  rw [decide_eq_true (by omega), decide_eq_true (by omega), b, h.a]; rfl
theorem LW.lim {s : Str} (h : LW s) : s.length ≤ EV.lim := by
  have := h.l8
  show _ ≤ 16777216
  omega
theorem LW.ok {s : Str} (h : LW s) : sOk s = true := by
  unfold sOk
  rw [Array.all_eq_true']
  intro c hc
  rw [decide_eq_true_eq]
  have := List.all_eq_true.mp h.a c (by simpa using hc)
  exact let_lt c (of_decide_eq_true this)
theorem LW.rep {s : Str} (h : LW s) : (reprText s).length ≤ EV.lim ∧ sOk (reprText s) = true := by
  have := word_repr (cs := s.cps.toList) (by have := h.l8; show s.cps.toList.length ≤ 100; rw [Array.length_toList]; have : s.cps.size ≤ 8 := h.l8; omega) fun c hc => List.all_eq_true.mp h.a c hc
  exact this
theorem LW.rev {s : Str} (h : LW s) : LW ⟨s.cps.toList.reverse.toArray⟩ := by
  have hs : (⟨s.cps.toList.reverse.toArray⟩ : Str).length = s.length := by
    show s.cps.toList.reverse.toArray.size = s.cps.size
    simp
  refine ⟨by rw [hs]; exact h.l1, by rw [hs]; exact h.l8, ?_⟩
  show s.cps.toList.reverse.all letB = true
  rw [List.all_reverse]
  exact h.a
theorem LW.key {s : Str} (h : LW s) (b : bndB s = false) : NK (.inr s) := ⟨s, rfl, h.lim, h.ok, h.name b⟩
section
variable {k : Nat} {m : Mem} {L S : KL}
theorem neS (x y : Str) (m : Mem) : cmpD .NotEq (.str x) (.str y) m = some (!decide (x = y)) := by
  show (cmpD .Eq (.str x) (.str y) m).map (!·) = _
  rw [eqS, eqv_str]; rfl
theorem eqS2 (x y : Str) (m : Mem) : cmpD .Eq (.str x) (.str y) m = some (decide (x = y)) := by rw [eqS, eqv_str]
theorem bnd_ne {x y : Str} (h : bndB x = false) (hy : bndB y = true) : x ≠ y := fun e => by rw [e, hy] at h; cases h
theorem bnd_nil : bndB (Str.ofString "nil") = true := by decide +kernel
theorem worth_ok {w : Str} {v : Int} (h : Sp1 S) (hw : kget S (.inr w) = some v) : callAt T wf (k + 7) 12 [.tup (cI (SL S)), .str w] m = .ok (.int v) m := by
  have hi : im (.tup (cI (SL S))) = true := items_im h.s.u
  obtain ⟨⟨w', e, hl, ho, hn⟩, hv⟩ := h.k _ (kget_mem hw)
  cases e
  obtain ⟨lw, hb⟩ := LW.of hn
  refine call_eqG (fn := f12) rfl rfl rfl (bel1 hi) ?_
  have e1 : callAt T wf (k + 6) 7 [.tup (cI (SL S))] [] = .ok (.bl (rowB 8 stackP (.tup (cI (SL S))))) [] := j_stack (k := k + 2) hi
  rw [stack_row h] at e1
  have e2 : callAt T wf (k + 6) 3 [.str w] [] = .ok (.bl (termB (.str w))) [] := j_term (k := k + 4) (decide_eq_true hl)
  rw [show termB (.str w) = true by show (nameB (.str w) || _) = true; rw [hn]; rfl] at e2
  have hne : decide (w = Str.ofString "nil") = false := decide_eq_false (bnd_ne hb bnd_nil)
  have hd : Dc [] (.dic (ck (SL S)) (cx (SL S))) (SL S) := Dc.self
  have i1 := notin (in_dic (k := .str w) (q := .inr w) hd.s hd.q hd.d rfl)
  rw [SL_get h.n, hw] at i1
  have e3 : callAt T wf (k + 6) 11 [.dic (ck (SL S)) (cx (SL S)), .str w] [] = .ok (.int v) [] := by
    refine call_eqG (fn := f11) rfl rfl rfl ?_ ?_
    · show (bels 0 (cx (SL S)) && (true && true)) = true
      rw [bels_cx]; rfl
    simp only [f11, b11, startR, List.map_cons, List.map_nil, List.length_cons, List.length_nil, List.cons_append, List.nil_append, List.replicate_zero, Nat.reduceAdd, Nat.reduceSub]
    rw [w_scons, w_ret, w_ife, w_cmp]
    simp only [EV.w_idx, EV.w_var, EV.w_glo, EV.w_int, List.getElem?_cons_zero, List.getElem?_cons_succ]
    refine ⟨_, eqS2 _ _ _, false, by rw [hne], ?_⟩
    rw [if_neg (by decide)]
    exact ⟨_, idx_dic (v := v) (q := .inr w) hd.s hd.q hd.d rfl (by rw [SL_get h.n]; exact hw), rfl⟩
  simp only [f12, b12, startR, List.map_cons, List.map_nil, List.length_cons, List.length_nil, List.cons_append, List.nil_append, List.replicate_succ, List.replicate_zero, Nat.reduceAdd, Nat.reduceSub]
  rw [w_scons, w_ifs]
  simp only [EV.w_not, EV.w_call, EV.w_cons, EV.w_nil, EV.w_var, List.getElem?_cons_zero, List.getElem?_cons_succ]
  rw [e1, Wr_ok]
  refine ⟨true, rfl, false, rfl, ?_⟩
  rw [if_neg (by decide), w_snil, w_scons, w_ifs]
  simp only [EV.w_not, EV.w_call, EV.w_cons, EV.w_nil, EV.w_var, List.getElem?_cons_zero, List.getElem?_cons_succ]
  rw [e2, Wr_ok]
  refine ⟨true, rfl, false, rfl, ?_⟩
  rw [if_neg (by decide), w_snil, w_scons, w_asg]
  simp only [EV.w_bi, EV.w_cons, EV.w_nil, EV.w_var, List.getElem?_cons_zero, List.getElem?_cons_succ]
  rw [dict_k h.s.n, Wr_ok]
  refine ⟨[some (.tup (cI (SL S))), some (.str w), some (.dic (ck (SL S)) (cx (SL S)))], rfl, ?_⟩
  rw [w_scons, w_ifs, w_and, w_cmp]
  simp only [EV.w_var, EV.w_glo, EV.w_cmp, List.getElem?_cons_zero, List.getElem?_cons_succ]
  refine ⟨_, neS _ _ _, true, by rw [hne]; rfl, ?_⟩
  rw [if_pos rfl]
  refine ⟨_, i1, false, rfl, ?_⟩
  rw [if_neg (by decide), w_snil, w_scons, w_ret]
  simp only [EV.w_call, EV.w_cons, EV.w_nil, EV.w_var, List.getElem?_cons_zero, List.getElem?_cons_succ]
  rw [e3, Wr_ok]
theorem nil_ok (h : Sp1 S) : callAt T wf (k + 7) 12 [.tup (cI (SL S)), .str (Str.ofString "nil")] m = .ok (.int 0) m := by
  have hi : im (.tup (cI (SL S))) = true := items_im h.s.u
  refine call_eqG (fn := f12) rfl rfl rfl (bel1 hi) ?_
  have e1 : callAt T wf (k + 6) 7 [.tup (cI (SL S))] [] = .ok (.bl (rowB 8 stackP (.tup (cI (SL S))))) [] := j_stack (k := k + 2) hi
  rw [stack_row h] at e1
  have e2 : callAt T wf (k + 6) 3 [.str (Str.ofString "nil")] [] = .ok (.bl (termB (.str (Str.ofString "nil")))) [] := j_term (k := k + 4) (by decide +kernel)
  rw [show termB (.str (Str.ofString "nil")) = true by decide +kernel] at e2
  have e3 : callAt T wf (k + 6) 11 [.dic (ck (SL S)) (cx (SL S)), .str (Str.ofString "nil")] [] = .ok (.int 0) [] := by
    refine call_eqG (fn := f11) rfl rfl rfl ?_ ?_
    · show (bels 0 (cx (SL S)) && (true && true)) = true
      rw [bels_cx]; rfl
    simp only [f11, b11, startR, List.map_cons, List.map_nil, List.length_cons, List.length_nil, List.cons_append, List.nil_append, List.replicate_zero, Nat.reduceAdd, Nat.reduceSub]
    rw [w_scons, w_ret, w_ife, w_cmp]
    simp only [EV.w_idx, EV.w_var, EV.w_glo, EV.w_int, List.getElem?_cons_zero, List.getElem?_cons_succ]
    refine ⟨_, eqS2 _ _ _, true, by rw [decide_eq_true rfl], ?_⟩
    rw [if_pos rfl]
    trivial
  simp only [f12, b12, startR, List.map_cons, List.map_nil, List.length_cons, List.length_nil, List.cons_append, List.nil_append, List.replicate_succ, List.replicate_zero, Nat.reduceAdd, Nat.reduceSub]
  rw [w_scons, w_ifs]
  simp only [EV.w_not, EV.w_call, EV.w_cons, EV.w_nil, EV.w_var, List.getElem?_cons_zero, List.getElem?_cons_succ]
  rw [e1, Wr_ok]
  refine ⟨true, rfl, false, rfl, ?_⟩
  rw [if_neg (by decide), w_snil, w_scons, w_ifs]
  simp only [EV.w_not, EV.w_call, EV.w_cons, EV.w_nil, EV.w_var, List.getElem?_cons_zero, List.getElem?_cons_succ]
  rw [e2, Wr_ok]
  refine ⟨true, rfl, false, rfl, ?_⟩
  rw [if_neg (by decide), w_snil, w_scons, w_asg]
  simp only [EV.w_bi, EV.w_cons, EV.w_nil, EV.w_var, List.getElem?_cons_zero, List.getElem?_cons_succ]
  rw [dict_k h.s.n, Wr_ok]
  refine ⟨[some (.tup (cI (SL S))), some (.str (Str.ofString "nil")), some (.dic (ck (SL S)) (cx (SL S)))], rfl, ?_⟩
  rw [w_scons, w_ifs, w_and, w_cmp]
  simp only [EV.w_var, EV.w_glo, EV.w_cmp, List.getElem?_cons_zero, List.getElem?_cons_succ]
  refine ⟨_, neS _ _ _, false, by rw [decide_eq_true rfl]; rfl, ?_⟩
  rw [if_neg (by decide)]
  refine ⟨false, rfl, ?_⟩
  rw [if_neg (by decide), w_snil, w_scons, w_ret]
  simp only [EV.w_call, EV.w_cons, EV.w_nil, EV.w_var, List.getElem?_cons_zero, List.getElem?_cons_succ]
  rw [e3, Wr_ok]
theorem nx_eq {o : O} {ρ1 : Rho} {m1 : Mem} (h : Wo o (fun ρ m => ρ = ρ1 ∧ m = m1) fun _ _ => False) : o = .nx ρ1 m1 := by
  cases o with
  | nx ρ m => obtain ⟨rfl, rfl⟩ := h; rfl
  | rt _ _ => exact False.elim h
  | bk _ _ => exact False.elim h
  | ct _ _ => exact False.elim h
  | ex _ _ _ _ => exact False.elim h
  | bad => exact False.elim h
theorem noname_ok {w : Str} (h : Sp1 S) (lw : LW w) (hb : bndB w = false) (hw : kget S (.inr w) = none) : callAt T wf (k + 7) 12 [.tup (cI (SL S)), .str w] m = .ex 6 (some (.str w)) m := by
  have hi : im (.tup (cI (SL S))) = true := items_im h.s.u
  have hn := lw.name hb
  refine call_exd m rfl (bel1 hi) ?_
  have e1 : callAt T wf (k + 6) 7 [.tup (cI (SL S))] [] = .ok (.bl (rowB 8 stackP (.tup (cI (SL S))))) [] := j_stack (k := k + 2) hi
  rw [stack_row h] at e1
  have e2 : callAt T wf (k + 6) 3 [.str w] [] = .ok (.bl (termB (.str w))) [] := j_term (k := k + 4) (decide_eq_true lw.lim)
  rw [show termB (.str w) = true by show (nameB (.str w) || _) = true; rw [hn]; rfl] at e2
  have hne : decide (w = Str.ofString "nil") = false := decide_eq_false (bnd_ne hb bnd_nil)
  have hd : Dc [] (.dic (ck (SL S)) (cx (SL S))) (SL S) := Dc.self
  have i1 := notin (in_dic (k := .str w) (q := .inr w) hd.s hd.q hd.d rfl)
  rw [SL_get h.n, hw] at i1
  rw [callAt_succ]
  show runFn (callAt T wf (k + 6)) (loAt T wf (k + 6)) wf f12 [.tup (cI (SL S)), .str w] [] = _
  unfold runFn
  rw [if_pos (show [D.tup (cI (SL S)), D.str w].length = f12.np from rfl), isoR_run (.inl rfl)]
  suffices hs : exSs (callAt T wf (k + 6)) (loAt T wf (k + 6)) wf f12.body (startR f12.ns [.tup (cI (SL S)), .str w]) [] = .ex 6 (some (.str w)) [some (.tup (cI (SL S))), some (.str w), some (.dic (ck (SL S)) (cx (SL S)))] [] by rw [hs]; rfl
  have cons : ∀ {s : EV.St} {r : Ss} {ρ ρ1 : Rho} {m1 : Mem}, exS (callAt T wf (k + 6)) (loAt T wf (k + 6)) wf s ρ [] = .nx ρ1 m1 → exSs (callAt T wf (k + 6)) (loAt T wf (k + 6)) wf (.cons s r) ρ [] = exSs (callAt T wf (k + 6)) (loAt T wf (k + 6)) wf r ρ1 m1 := fun {s r ρ ρ1 m1} h => by
    show (exS _ _ _ s ρ []).then _ = _
    rw [h]; rfl
  simp only [f12, b12, startR, List.map_cons, List.map_nil, List.length_cons, List.length_nil, List.cons_append, List.nil_append, List.replicate_succ, List.replicate_zero, Nat.reduceAdd, Nat.reduceSub]
  rw [cons (nx_eq (ρ1 := [some (.tup (cI (SL S))), some (.str w), none]) (m1 := []) ?_), cons (nx_eq (ρ1 := [some (.tup (cI (SL S))), some (.str w), none]) (m1 := []) ?_), cons (nx_eq (ρ1 := [some (.tup (cI (SL S))), some (.str w), some (.dic (ck (SL S)) (cx (SL S)))]) (m1 := []) ?_)]
  · have hc : evE (callAt T wf (k + 6)) (loAt T wf (k + 6)) (.and (.cmp .NotEq (.var 1) (.glo (Str.ofString "NIL") (.str (Str.ofString "nil")))) (.cmp .NotIn (.var 1) (.var 2))) [some (.tup (cI (SL S))), some (.str w), some (.dic (ck (SL S)) (cx (SL S)))] [] = .ok (.bl true) [] := by
      refine wr_eq ?_
      rw [w_and, w_cmp]
      simp only [EV.w_var, EV.w_glo, EV.w_cmp, List.getElem?_cons_zero, List.getElem?_cons_succ]
      refine ⟨_, neS _ _ _, true, by rw [hne]; rfl, ?_⟩
      rw [if_pos rfl]
      exact ⟨_, i1, by first | exact ⟨rfl, rfl⟩ | exact ⟨rfl, trivial⟩⟩
    show ((O.test (evE _ _ (.and _ _) _ []) _ _)).then _ = _
    rw [hc]
    rfl
  · rw [w_asg]
    simp only [EV.w_bi, EV.w_cons, EV.w_nil, EV.w_var, List.getElem?_cons_zero, List.getElem?_cons_succ]
    rw [dict_k h.s.n, Wr_ok]
    exact ⟨_, rfl, rfl, rfl⟩
  · rw [w_ifs]
    simp only [EV.w_not, EV.w_call, EV.w_cons, EV.w_nil, EV.w_var, List.getElem?_cons_zero, List.getElem?_cons_succ]
    rw [e2, Wr_ok]
    refine ⟨true, rfl, false, rfl, ?_⟩
    rw [if_neg (by decide), w_snil]
    first | exact ⟨rfl, rfl⟩ | exact ⟨rfl, trivial⟩
  · rw [w_ifs]
    simp only [EV.w_not, EV.w_call, EV.w_cons, EV.w_nil, EV.w_var, List.getElem?_cons_zero, List.getElem?_cons_succ]
    rw [e1, Wr_ok]
    refine ⟨true, rfl, false, rfl, ?_⟩
    rw [if_neg (by decide), w_snil]
    first | exact ⟨rfl, rfl⟩ | exact ⟨rfl, trivial⟩
/-! lost cells -/
def rowsOf (L : KL) (p : Key × Int) : List Int := (road (fL L) (L.length + 1) [] p.2).1
def onRoad (L S : KL) (i : Int) : Prop := ∃ p ∈ S, i ∈ rowsOf L p
theorem addk_mem {row : List Int} {p i : Int} : i ∈ addk row p ↔ i ∈ row ∨ i = p := by
  unfold addk
  split
  · rename_i h
    exact ⟨.inl, fun z => z.elim id fun e => e ▸ h⟩
  · rw [List.mem_append, List.mem_singleton]
theorem addk_len {row : List Int} {p : Int} : (addk row p).length ≤ row.length + 1 := by
  unfold addk
  split
  · omega
  · rw [List.length_append, List.length_singleton]; exact Nat.le_refl _
theorem adds_mem {i : Int} : ∀ (l met : List Int), i ∈ l.foldl addk met ↔ i ∈ met ∨ i ∈ l
  | [], met => by simp
  | x :: l, met => by rw [List.foldl_cons, adds_mem l, addk_mem, List.mem_cons, or_assoc]
theorem adds_len : ∀ (l met : List Int), (l.foldl addk met).length ≤ met.length + l.length
  | [], met => by simp
  | x :: l, met => by
    have h1 := adds_len l (addk met x)
    have h2 := addk_len (row := met) (p := x)
    rw [List.foldl_cons, List.length_cons]
    omega
def metR (L : KL) : KL → List Int → List Int
  | [], met => met
  | p :: r, met => metR L r ((rowsOf L p).foldl addk met)
theorem metR_mem {i : Int} : ∀ (S : KL) (met : List Int), i ∈ metR L S met ↔ i ∈ met ∨ onRoad L S i
  | [], met => by
    show i ∈ met ↔ _
    exact ⟨.inl, fun h => h.elim id fun ⟨p, hp, _⟩ => by cases hp⟩
  | p :: r, met => by
    show i ∈ metR L r _ ↔ _
    rw [metR_mem r, adds_mem, or_assoc]
    refine or_congr_right ⟨fun h => ?_, fun ⟨q, hq, h⟩ => ?_⟩
    · rcases h with h | ⟨q, hq, h⟩
      · exact ⟨p, List.mem_cons_self, h⟩
      · exact ⟨q, List.mem_cons_of_mem _ hq, h⟩
    · rcases List.mem_cons.mp hq with rfl | hq
      · exact .inl h
      · exact .inr ⟨q, hq, h⟩
theorem in_loop {o : Lo} {a0 a1 a3 a4 : Option D} : ∀ (l : List Int) (met : List Int) (a5 : Option D), met.length + l.length ≤ 900 →
    Wo (forL none (tgD (.nm 5)) (fun ρ' m' => exSs (callAt T wf k) o wf (.cons (.seti (.var 2) (.var 5) (.lit (.bool true))) .nil) ρ' m') (l.map .int) [a0, a1, some (.ref 0), a3, a4, a5] [metC met])
      (fun ρ' m' => ∃ a5, ρ' = [a0, a1, some (.ref 0), a3, a4, a5] ∧ m' = [metC (l.foldl addk met)]) (fun _ _ => False)
  | [], met, a5, _ => by
    rw [List.map_nil]
    unfold forL
    exact ⟨a5, rfl, rfl⟩
  | x :: l, met, a5, hn => by
    rw [List.length_cons] at hn
    rw [List.map_cons]
    unfold forL
    rw [if_pos (show ckD none _ = true from rfl), show tgD (.nm 5) (.int x) [a0, a1, some (.ref 0), a3, a4, a5] = some [a0, a1, some (.ref 0), a3, a4, some (.int x)] from rfl]
    dsimp only
    refine Wo_turn ?_
    rw [w_scons, w_seti]
    simp only [EV.w_var, EV.w_bool, List.getElem?_cons_zero, List.getElem?_cons_succ]
    refine ⟨_, set_met (m := [metC met]) (row := met) (p := x) (n := 0) (by omega) rfl, ?_⟩
    rw [w_snil, List.foldl_cons]
    have hal := addk_len (row := met) (p := x)
    exact in_loop l (addk met x) (some (.int x)) (by omega)
def lostP (met : List Int) : D → Bool
  | .int i => !decide (i ∈ met)
  | _ => true
theorem kI_int (h : Hp1 L) : ∀ d ∈ kI (SL L), ∃ i, d = .int i ∧ inP i := fun d hd => by
  obtain ⟨i, e, h1, h2⟩ := kI_mem h.s hd
  exact ⟨i, e, by omega, h2⟩
theorem rows_len (h : Hp1 L) (p : Key × Int) (hp : inP p.2) : (rowsOf L p).length ≤ 61 ∧ ∀ i ∈ rowsOf L p, inP i := by
  have := road_in h (L.length + 1) [] p.2 (fun _ z => by cases z) hp
  have hl := h.l
  exact ⟨by have := this.2.2; rw [List.length_nil] at this; show (road (fL L) (L.length + 1) [] p.2).1.length ≤ 61; omega, this.1⟩
theorem out_loop {o : Lo} {a0 : Option D} (h : Hp1 L) : ∀ (R : KL) (met : List Int) (a3 a4 a5 : Option D), (∀ p ∈ R, inP p.2) → met.length + 70 * R.length ≤ 900 →
    Wo (forL none (tgD (.tp (.cons (.nm 3) (.cons (.nm 4) .nil)))) (fun ρ' m' => exSs (callAt T wf (k + 1)) o wf (.cons (.fors (.nm 5) (.ex (.idx (.call 15 (.cons (.var 1) (.cons (.var 4) .nil))) (.lit (.int 0)))) (.cons (.seti (.var 2) (.var 5) (.lit (.bool true))) .nil)) .nil) ρ' m') (cI R) [a0, some (.dic (ck (SL L)) (cx (SL L))), some (.ref 0), a3, a4, a5] [metC met])
      (fun ρ' m' => ∃ a3 a4 a5, ρ' = [a0, some (.dic (ck (SL L)) (cx (SL L))), some (.ref 0), a3, a4, a5] ∧ m' = [metC (metR L R met)]) (fun _ _ => False)
  | [], met, a3, a4, a5, _, _ => by
    show Wo (forL none _ _ [] _ _) _ _
    unfold forL
    exact ⟨a3, a4, a5, rfl, rfl⟩
  | p :: R, met, a3, a4, a5, hp, hn => by
    rw [List.length_cons] at hn
    show Wo (forL none _ _ (.tup [keyOf p.1, .int p.2] :: cI R) _ _) _ _
    unfold forL
    rw [if_pos (show ckD none _ = true from rfl), show tgD (.tp (.cons (.nm 3) (.cons (.nm 4) .nil))) (.tup [keyOf p.1, .int p.2]) [a0, some (.dic (ck (SL L)) (cx (SL L))), some (.ref 0), a3, a4, a5] = some [a0, some (.dic (ck (SL L)) (cx (SL L))), some (.ref 0), some (keyOf p.1), some (.int p.2), a5] from rfl]
    dsimp only
    refine Wo_turn ?_
    rw [w_scons]
    refine wo_forS ?_
    simp only [EV.w_idx, EV.w_call, EV.w_cons, EV.w_nil, EV.w_var, EV.w_int, List.getElem?_cons_zero, List.getElem?_cons_succ]
    have hr : callAt T wf (k + 1) 15 [.dic (ck (SL L)) (cx (SL L)), .int p.2] [metC met] = .ok (.tup [.lst ((road (fL (SL L)) ((SL L).length + 1) [] p.2).1.map .int), .int (road (fL (SL L)) ((SL L).length + 1) [] p.2).2]) [metC met] := raw_ok h.s.l
    rw [fS h.n, SL_len] at hr
    rw [hr, Wr_ok]
    refine ⟨.lst ((rowsOf L p).map .int), rfl, _, rfl, fun n => nofun, ?_⟩
    have hl := (rows_len h p (hp p List.mem_cons_self)).1
    refine (in_loop (rowsOf L p) met a5 (by omega)).imp ?_ fun _ _ z => z
    rintro ρ' m' ⟨a5', rfl, rfl⟩
    rw [w_snil]
    have hal := adds_len (rowsOf L p) met
    exact out_loop h R ((rowsOf L p).foldl addk met) _ _ a5' (fun q hq => hp q (List.mem_cons_of_mem _ hq)) (by omega)
theorem raw_lost_ok (h : Hp1 L) (hs : Sp1 S) : callAt T wf (k + 7) 17 [.tup [.tup (cI (SL S)), .tup (cI (SL L))]] m = .ok (.lst ((kI (SL L)).filter (lostP (metR L (SL S) [])))) m := by
  have hb : bels 0 ((kI (SL L)).filter (lostP (metR L (SL S) []))) = true := by
    have : ∀ l : List D, (∀ d ∈ l, ∃ i, d = .int i ∧ inP i) → bels 0 l = true := fun l => by
      induction l with
      | nil => exact fun _ => rfl
      | cons a r ih =>
        intro hl
        obtain ⟨i, e, _⟩ := hl a List.mem_cons_self
        unfold bels
        rw [e, ih fun d hd => hl d (List.mem_cons_of_mem _ hd)]; rfl
    exact this _ fun d hd => kI_int h d (List.mem_filter.mp hd).1
  have i1 := items_im hs.s.u
  have i2 := items_im h.s.u
  refine call_eqG (fn := f17) rfl rfl hb ?_ ?_
  · show (bels 0 [.tup (cI (SL S)), .tup (cI (SL L))] && true) = true
    rw [bel1 i1 (bel1 i2)]; rfl
  simp only [f17, b17, startR, List.map_cons, List.map_nil, List.length_cons, List.length_nil, List.cons_append, List.nil_append, List.replicate_succ, List.replicate_zero, Nat.reduceAdd, Nat.reduceSub]
  rw [w_scons, w_asg]
  simp only [EV.w_tup, EV.w_bi, EV.w_idx, EV.w_alc, EV.w_cons, EV.w_nil, EV.w_var, EV.w_int, List.getElem?_cons_zero, List.getElem?_cons_succ]
  refine ⟨.tup (cI (SL L)), rfl, ?_⟩
  rw [dict_k h.s.n, Wr_ok]
  show Wr (R.ok (D.dic [] []) ([] : Mem)) _
  rw [Wr_ok]
  show Wr (R.ok (D.ref 0) [metC []]) _
  rw [Wr_ok]
  refine ⟨[some (.tup [.tup (cI (SL S)), .tup (cI (SL L))]), some (.dic (ck (SL L)) (cx (SL L))), some (.ref 0), none, none, none], rfl, ?_⟩
  rw [w_scons]
  refine wo_forS ?_
  simp only [EV.w_idx, EV.w_var, EV.w_int, List.getElem?_cons_zero]
  refine ⟨.tup (cI (SL S)), rfl, cI (SL S), rfl, fun n => nofun, ?_⟩
  have hsl := hs.s.l
  refine (out_loop (k := k + 5) (a0 := some (.tup [.tup (cI (SL S)), .tup (cI (SL L))])) h (SL S) [] none none none (fun p hp => (hs.s.k p hp).2) (by simp only [List.length_nil]; omega)).imp ?_ fun _ _ z => z.elim
  rintro ρ' m' ⟨a3, a4, a5, rfl, rfl⟩
  rw [w_scons, w_ret]
  refine w_lcpF ?_
  simp only [EV.w_bi, EV.w_cons, EV.w_nil, EV.w_var, List.getElem?_cons_zero, List.getElem?_cons_succ]
  have hd : Dc [metC (metR L (SL S) [])] (.dic (ck (SL L)) (cx (SL L))) (SL L) := Dc.self
  rw [keys_ok h.s.u h.s.l hd.q hd.d, Wr_ok, SL_self]
  have hkl : (kI (SL L)).length ≤ 60 := by unfold kI; rw [List.length_map]; exact h.s.l
  refine ⟨kI (SL L), rfl, fun n => nofun, by show _ ≤ 16777216; omega, ?_⟩
  rw [lcp_filter (p := lostP (metR L (SL S) [])) (kI (SL L)) [] fun x hx => ?_, List.nil_append, Wr_ok]
  obtain ⟨i, rfl, hi⟩ := kI_int h x hx
  refine ⟨[some (.tup [.tup (cI (SL S)), .tup (cI (SL L))]), some (.dic (ck (SL L)) (cx (SL L))), some (.ref 0), a3, some (.int i), a5], rfl, ?_, rfl⟩
  have : evE (callAt T wf (k + 6)) (loAt T wf (k + 6)) (.cmp .NotIn (.var 4) (.var 2)) [some (.tup [.tup (cI (SL S)), .tup (cI (SL L))]), some (.dic (ck (SL L)) (cx (SL L))), some (.ref 0), a3, some (.int i), a5] [metC (metR L (SL S) [])] = .ok (.bl (!decide (i ∈ metR L (SL S) []))) [metC (metR L (SL S) [])] := by
    refine wr_eq ?_
    rw [w_cmp]
    simp only [EV.w_var, List.getElem?_cons_zero, List.getElem?_cons_succ]
    first | exact ⟨_, notin (in_met rfl), rfl, rfl⟩ | exact ⟨_, notin (in_met rfl), rfl, trivial⟩
  show calmR (tst (evE _ _ _ _ _)) = _
  rw [this]
  rfl
theorem lost_ok (h : Hp1 L) (hs : Sp1 S) : callAt T wf (k + 8) 18 [.tup [.tup (cI (SL S)), .tup (cI (SL L))]] m = .ok (.tup ((kI (SL L)).filter (lostP (metR L (SL S) [])))) m := by
  have hb : bels 0 ((kI (SL L)).filter (lostP (metR L (SL S) []))) = true := by
    have : ∀ l : List D, (∀ d ∈ l, ∃ i, d = .int i ∧ inP i) → bels 0 l = true := fun l => by
      induction l with
      | nil => exact fun _ => rfl
      | cons a r ih =>
        intro hl
        obtain ⟨i, e, _⟩ := hl a List.mem_cons_self
        unfold bels
        rw [e, ih fun d hd => hl d (List.mem_cons_of_mem _ hd)]; rfl
    exact this _ fun d hd => kI_int h d (List.mem_filter.mp hd).1
  have i1 := items_im hs.s.u
  have i2 := items_im h.s.u
  have hi : im (.tup [.tup (cI (SL S)), .tup (cI (SL L))]) = true := by
    show (im (.tup (cI (SL S))) && (im (.tup (cI (SL L))) && true)) = true
    rw [i1, i2]; rfl
  refine call_eqG (fn := f18) rfl rfl hb (bel1 hi) ?_
  have e1 : callAt T wf (k + 7) 10 [.tup [.tup (cI (SL S)), .tup (cI (SL L))]] [] = .ok .non [] := by
    refine call_eqG (fn := f10) rfl rfl rfl (bel1 hi) ?_
    have e2 : callAt T wf (k + 6) 9 [.tup [.tup (cI (SL S)), .tup (cI (SL L))]] [] = .ok (.bl (stateB (.tup [.tup (cI (SL S)), .tup (cI (SL L))]))) [] := j_state (k := k + 1) hi
    rw [is_row_state (stack_row hs) (heap_row h)] at e2
    simp only [f10, b10, startR, List.map_cons, List.map_nil, List.length_cons, List.length_nil, List.cons_append, List.nil_append, List.replicate_zero, Nat.reduceAdd, Nat.reduceSub]
    rw [w_scons, w_ifs]
    simp only [EV.w_not, EV.w_call, EV.w_cons, EV.w_nil, EV.w_var, List.getElem?_cons_zero]
    rw [e2, Wr_ok]
    refine ⟨true, rfl, false, rfl, ?_⟩
    rw [if_neg (by decide), w_snil, w_snil]
    trivial
  simp only [f18, b18, startR, List.map_cons, List.map_nil, List.length_cons, List.length_nil, List.cons_append, List.nil_append, List.replicate_zero, Nat.reduceAdd, Nat.reduceSub]
  rw [w_scons, w_expr]
  simp only [EV.w_call, EV.w_cons, EV.w_nil, EV.w_var, List.getElem?_cons_zero]
  rw [e1, Wr_ok, w_scons, w_ret]
  simp only [EV.w_bi, EV.w_call, EV.w_cons, EV.w_nil, EV.w_var, List.getElem?_cons_zero]
  rw [raw_lost_ok h hs, Wr_ok, K02.tup_ok, Wr_ok]
end
end K02

/-! k02: _law_is_stack_right. -/
namespace K02
open PySem PySem.Spec PyProof.Rows L2 EV
theorem w_lamc {C : Nat → List D → Mem → R D} {o : Lo} {ρ : Rho} {m : Mem} {Q : D → Mem → Prop} {f : Nat} {e : Ex} : Wr (evE C o (.lamc f e) ρ m) Q = Wr (o.give f e ρ m) Q := rfl
section
variable {k : Nat} {c : Cell} {ms : Mem} {L S : KL}
def keptR (L : KL) : KL → List Int → List Int
  | [], met => met
  | p :: r, met => keptR L r (met ++ rowsOf L p)
theorem keptR_mem {i : Int} : ∀ (S : KL) (met : List Int), i ∈ keptR L S met ↔ i ∈ met ∨ onRoad L S i
  | [], met => by
    show i ∈ met ↔ _
    exact ⟨.inl, fun h => h.elim id fun ⟨p, hp, _⟩ => by cases hp⟩
  | p :: r, met => by
    show i ∈ keptR L r _ ↔ _
    rw [keptR_mem r, List.mem_append, or_assoc]
    refine or_congr_right ⟨fun h => ?_, fun ⟨q, hq, h⟩ => ?_⟩
    · rcases h with h | ⟨q, hq, h⟩
      · exact ⟨p, List.mem_cons_self, h⟩
      · exact ⟨q, List.mem_cons_of_mem _ hq, h⟩
    · rcases List.mem_cons.mp hq with rfl | hq
      · exact .inl h
      · exact .inr ⟨q, hq, h⟩
theorem lost_eq (R : KL) : lostP (metR L R []) = lostP (keptR L R []) := by
  funext d
  cases d with
  | int i =>
    show (!decide (i ∈ metR L R [])) = !decide (i ∈ keptR L R [])
    congr 1
    rw [decide_eq_decide, metR_mem, keptR_mem]
  | _ => rfl
theorem st_loop {j : Nat} {dS : D} {o : Lo} {a3 a5 a8 a9 : Option D} (h : Hp1 L) (hs : Sp1 S) (hm : Dc (c :: ms) (.ref (j + 1)) L) (hdS : Dc (c :: ms) dS S) :
    ∀ (R : KL) (kept : List Int) (a4 : Option D), (∀ p ∈ R, p ∈ S) → kept.length + 70 * R.length ≤ 900 →
    Wo (forL none (tgD (.nm 4)) (fun ρ' m' => exSs (C (k + 8)) o wf (.cons (.ifs (.not (.call 22 (.cons (.call 12 (.cons (.var 6) (.cons (.var 4) .nil))) (.cons (.idx (.var 1) (.var 4)) .nil)))) (.cons (.ret (.lit (.bool false))) .nil) .nil) (.cons (.asg (.nm 7) (.bin .Add (.var 7) (.bi .list (.cons (.idx (.call 26 (.cons (.var 2) (.cons (.idx (.var 1) (.var 4)) .nil))) (.lit (.int 0))) .nil)))) .nil)) ρ' m') (kI R)
        [some (.ref 0), some dS, some (.ref (j + 1)), a3, a4, a5, some (.tup (cI (SL S))), some (.lst (kept.map .int)), a8, a9] (c :: ms))
      (fun ρ' m' => ∃ a4, ρ' = [some (.ref 0), some dS, some (.ref (j + 1)), a3, a4, a5, some (.tup (cI (SL S))), some (.lst ((keptR L R kept).map .int)), a8, a9] ∧ m' = c :: ms ∧ (keptR L R kept).length ≤ 900) (Ed ms fun d => d = .bl true)
  | [], kept, a4, _, hl => by
    show Wo (forL none _ _ [] _ _) _ _
    unfold forL
    exact ⟨a4, rfl, rfl, by show kept.length ≤ 900; rw [List.length_nil] at hl; omega⟩
  | p :: R, kept, a4, hp, hl => by
    rw [List.length_cons] at hl
    obtain ⟨⟨w, ew, hw1, hw2, hw3⟩, hpv⟩ := hs.k p (hp p List.mem_cons_self)
    have hg : kget S (.inr w) = some p.2 := kget_of hs.n (by rw [← ew]; exact hp p List.mem_cons_self)
    show Wo (forL none _ _ (keyOf p.1 :: kI R) _ _) _ _
    rw [ew]
    show Wo (forL none _ _ (.str w :: kI R) _ _) _ _
    unfold forL
    rw [if_pos (show ckD none _ = true from rfl), show tgD (.nm 4) (.str w) [some (.ref 0), some dS, some (.ref (j + 1)), a3, a4, a5, some (.tup (cI (SL S))), some (.lst (kept.map .int)), a8, a9] = some [some (.ref 0), some dS, some (.ref (j + 1)), a3, some (.str w), a5, some (.tup (cI (SL S))), some (.lst (kept.map .int)), a8, a9] from rfl]
    dsimp only
    refine Wo_turn ?_
    rw [w_scons, w_ifs]
    simp only [EV.w_not, EV.w_call, EV.w_idx, EV.w_cons, EV.w_nil, EV.w_var, List.getElem?_cons_zero, List.getElem?_cons_succ]
    have e1 : C (k + 8) 12 [.tup (cI (SL S)), .str w] (c :: ms) = .ok (.int p.2) (c :: ms) := worth_ok (k := k + 1) hs hg
    have e2 : C (k + 8) 22 [.int p.2, .int p.2] (c :: ms) = .ok (.bl true) (c :: ms) := is_int (k := k + 7) hpv.1 hpv.2
    have hx : idxD dS (.str w) (c :: ms) = some (.int p.2) := idx_dic (q := .inr w) hdS.s hdS.q hdS.d rfl hg
    rw [e1, Wr_ok]
    refine ⟨_, hx, ?_⟩
    rw [e2, Wr_ok]
    refine ⟨true, rfl, false, rfl, ?_⟩
    rw [if_neg (by decide), w_snil, w_scons, w_asg]
    simp only [EV.w_bin, EV.w_bi, EV.w_idx, EV.w_call, EV.w_int, EV.w_cons, EV.w_nil, EV.w_var, List.getElem?_cons_zero, List.getElem?_cons_succ]
    refine ⟨_, hx, ?_⟩
    have e3 : C (k + 8) 26 [.ref (j + 1), .int p.2] (c :: ms) = .ok (roadD (road (fL L) (L.length + 1) [] p.2)) (c :: ms) := lroad_ok (k := k + 7) hm h.l rfl
    rw [e3, Wr_ok]
    refine ⟨.tup ((rowsOf L p).map .int), rfl, ?_⟩
    rw [show ∀ (l : List D) (m : Mem), biD .list [.tup l] m = .ok (.lst l) m from fun _ _ => rfl, Wr_ok]
    have hr := (rows_len h p hpv).1
    have ha : binD .Add (.lst (kept.map .int)) (.lst ((rowsOf L p).map .int)) (c :: ms) = .ok (.lst ((kept ++ rowsOf L p).map .int)) (c :: ms) := by
      rw [List.map_append]
      refine if_pos ?_
      rw [List.length_map, List.length_map]
      show _ ≤ 16777216
      omega
    rw [ha, Wr_ok]
    refine ⟨[some (.ref 0), some dS, some (.ref (j + 1)), a3, some (.str w), a5, some (.tup (cI (SL S))), some (.lst ((kept ++ rowsOf L p).map .int)), a8, a9], rfl, ?_⟩
    rw [w_snil]
    exact st_loop h hs hm hdS R (kept ++ rowsOf L p) _ (fun q hq => hp q (List.mem_cons_of_mem _ hq)) (by rw [List.length_append]; omega)
theorem inS {x : Str} {m : Mem} : inD m (.str x) (.lst [.str (Str.ofString "nil"), .str (Str.ofString "new"), .str (Str.ofString "free"), .str (Str.ofString "if"), .str (Str.ofString "else"), .str (Str.ofString "while"), .str (Str.ofString "keep"), .str (Str.ofString "emp")]) = some (bndB x) := rfl
def four : List D := [.str (Str.ofString "nilx"), .str (Str.ofString "m"), .str (Str.ofString "zzzzzzzz"), .str (Str.ofString "a")]
theorem LW.by {s : Str} (h : (decide (1 ≤ s.length) && decide (s.length ≤ 8) && s.cps.toList.all letB) = true) : LW s := by
  simp only [Bool.and_eq_true, decide_eq_true_eq] at h
  exact ⟨h.1.1, h.1.2, h.2⟩
theorem four_ok : ∀ d ∈ four, ∃ s, d = .str s ∧ LW s := fun d hd => by
  simp only [four, List.mem_cons, List.not_mem_nil, or_false] at hd
  rcases hd with rfl | rfl | rfl | rfl
  · exact ⟨_, rfl, LW.by (by decide +kernel)⟩
  · exact ⟨_, rfl, LW.by (by decide +kernel)⟩
  · exact ⟨_, rfl, LW.by (by decide +kernel)⟩
  · exact ⟨_, rfl, LW.by (by decide +kernel)⟩
theorem name_rep : (reprText (Str.ofString "name")).length ≤ EV.lim ∧ sOk (reprText (Str.ofString "name")) = true := (LW.by (s := Str.ofString "name") (by decide +kernel)).rep
def revOf : D → D
  | .str s => .str ⟨s.cps.toList.reverse.toArray⟩
  | d => d
theorem told_eq {w : Str} {ρ : Rho} {m : Mem} {K : Nat} (h : Sp1 S) (lw : LW w) (hb : bndB w = false) (hw : kget S (.inr w) = none) (h6 : ρ[6]? = some (some (.tup (cI (SL S))))) (h4 : ρ[4]? = some (some (.str w))) :
    (loAt T wf (k + 10)).give 27 (.call 12 (.cons (.var 6) (.cons (.var 4) .nil))) ρ m = .ok (.tup [.str (Str.ofString "name"), .str w]) m := by
  have e1 : evE (callAt T wf (k + 8)) (lo0 (k + 8)) (.call 12 (.cons (.var 6) (.cons (.var 4) .nil))) ρ m = .ex 6 (some (.str w)) m := by
    have : evE (callAt T wf (k + 8)) (lo0 (k + 8)) (.call 12 (.cons (.var 6) (.cons (.var 4) .nil))) ρ m = ((evE (callAt T wf (k + 8)) (lo0 (k + 8)) (.var 6) ρ m).bind fun d m1 => ((evE (callAt T wf (k + 8)) (lo0 (k + 8)) (.var 4) ρ m1).bind fun e m2 => R.ok [e] m2).bind fun ds m2 => R.ok (d :: ds) m2).bind fun ds m1 => callAt T wf (k + 8) 12 ds m1 := rfl
    rw [this]
    have v6 : ∀ m, evE (callAt T wf (k + 8)) (lo0 (k + 8)) (.var 6) ρ m = .ok (.tup (cI (SL S))) m := fun m => by
      show (match ρ[6]? with | some (some d) => R.ok d m | _ => .bad) = _
      rw [h6]
    have v4 : ∀ m, evE (callAt T wf (k + 8)) (lo0 (k + 8)) (.var 4) ρ m = .ok (.str w) m := fun m => by
      show (match ρ[4]? with | some (some d) => R.ok d m | _ => .bad) = _
      rw [h4]
    rw [v6, R.bind_ok, v4, R.bind_ok, R.bind_ok, R.bind_ok]
    exact noname_ok (k := k + 1) h lw hb hw
  show giveR (.d (some (.t (Str.ofString "none"))) [(6, (.tf (Str.ofString "name"))), (0, (.t (Str.ofString "other")))] 7) (evE (callAt T wf (k + 8)) (lo0 (k + 8)) (.call 12 (.cons (.var 6) (.cons (.var 4) .nil))) ρ m) = _
  rw [e1]
  rfl
theorem stack_right {j : Nat} {dS : D} (hc : HC c) (h : Hp1 L) (hs : Sp1 S) (hm : ms[j]? = some (.dic (ck L) (cx L))) (hdS : ∀ c' : Cell, Dc (c' :: ms) dS S) (hb : bels 0 [.ref 0, dS, .ref (j + 1)] = false) : Dr ms (callAt T wf (k + 11) 29 [.ref 0, dS, .ref (j + 1)] (c :: ms)) fun d => d = .bl true := by
  have hd : ∀ c' : Cell, Dc (c' :: ms) (.ref (j + 1)) L := fun c' => Dc.cell (by rw [List.getElem?_cons_succ]; exact hm)
  refine Dr.by (fn := f29) rfl rfl hb ?_
  simp only [f29, b29, startR, List.map_cons, List.map_nil, List.length_cons, List.length_nil, List.cons_append, List.nil_append, List.replicate_succ, List.replicate_zero, Nat.reduceAdd, Nat.reduceSub]
  rw [w_scons, w_asg]
  simp only [EV.w_tup, EV.w_lst, EV.w_bi, EV.w_itm, EV.w_cons, EV.w_nil, EV.w_var, List.getElem?_cons_zero, List.getElem?_cons_succ]
  rw [items_ok hs.u hs.n (hdS c).d, Wr_ok, K02.tup_ok, Wr_ok]
  refine ⟨[some (.ref 0), some dS, some (.ref (j + 1)), none, none, none, some (.tup (cI (SL S))), some (.lst (([] : List Int).map .int)), none, none], rfl, ?_⟩
  rw [w_scons, w_asg]
  simp only [EV.w_bi, EV.w_itm, EV.w_cons, EV.w_nil, EV.w_var, List.getElem?_cons_zero, List.getElem?_cons_succ]
  rw [items_ok h.u h.n (hd c).d, Wr_ok, K02.tup_ok, Wr_ok]
  refine ⟨[some (.ref 0), some dS, some (.ref (j + 1)), some (.tup (cI (SL L))), none, none, some (.tup (cI (SL S))), some (.lst (([] : List Int).map .int)), none, none], rfl, ?_⟩
  rw [w_scons]
  refine wo_forS ?_
  simp only [EV.w_bi, EV.w_cons, EV.w_nil, EV.w_var, List.getElem?_cons_zero, List.getElem?_cons_succ]
  have hsl := hs.l
  have hll := h.l
  rw [keys_ok hs.u (by omega) (hdS c).q (hdS c).d, Wr_ok]
  refine ⟨_, rfl, fun n => nofun, ?_⟩
  refine (st_loop (k := k + 2) h hs (hd c) (hdS c) (SL S) [] none (fun p hp => (SL_perm S).mem_iff.mp hp) (by rw [SL_len, List.length_nil]; omega)).imp ?_ fun _ _ z => z
  rintro ρ' m' ⟨a4, rfl, rfl, hkl⟩
  rw [w_scons, w_asg]
  simp only [EV.w_bi, EV.w_cons, EV.w_nil]
  refine w_lcpF ?_
  simp only [EV.w_bi, EV.w_cons, EV.w_nil, EV.w_var, List.getElem?_cons_zero, List.getElem?_cons_succ]
  rw [keys_ok h.u h.l (hd c).q (hd c).d, Wr_ok]
  have hkI : (kI (SL L)).length ≤ 60 := by unfold kI; rw [List.length_map]; exact h.s.l
  refine ⟨kI (SL L), rfl, fun n => nofun, by show _ ≤ 16777216; omega, ?_⟩
  rw [lcp_filter (p := lostP (keptR L (SL S) [])) (kI (SL L)) [] fun x hx => ?cond, List.nil_append, Wr_ok]
  case cond =>
    obtain ⟨i, rfl, hi⟩ := kI_int h x hx
    refine ⟨[some (.ref 0), some dS, some (.ref (j + 1)), some (.tup (cI (SL L))), a4, none, some (.tup (cI (SL S))), some (.lst ((keptR L (SL S) []).map .int)), some (.int i), none], rfl, ?_, rfl⟩
    have : evE (C (k + 10)) (loAt T wf (k + 10)) (.cmp .NotIn (.var 8) (.var 7)) [some (.ref 0), some dS, some (.ref (j + 1)), some (.tup (cI (SL L))), a4, none, some (.tup (cI (SL S))), some (.lst ((keptR L (SL S) []).map .int)), some (.int i), none] (c :: ms) = .ok (.bl (!decide (i ∈ keptR L (SL S) []))) (c :: ms) := by
      refine wr_eq ?_
      rw [w_cmp]
      simp only [EV.w_var, List.getElem?_cons_zero, List.getElem?_cons_succ]
      first | exact ⟨_, notin (in_ints (fun z => nofun) rfl), rfl, rfl⟩ | exact ⟨_, notin (in_ints (fun z => nofun) rfl), rfl, trivial⟩
    show calmR (tst (evE _ _ _ _ _)) = _
    rw [this]
    rfl
  rw [K02.tup_ok, Wr_ok]
  refine ⟨[some (.ref 0), some dS, some (.ref (j + 1)), some (.tup (cI (SL L))), a4, some (.tup ((kI (SL L)).filter (lostP (keptR L (SL S) [])))), some (.tup (cI (SL S))), some (.lst ((keptR L (SL S) []).map .int)), none, none], rfl, ?_⟩
  rw [w_scons, w_ifs, w_or]
  simp only [EV.w_not, EV.w_call, EV.w_tup, EV.w_str, EV.w_int, EV.w_cons, EV.w_nil, EV.w_var, List.getElem?_cons_zero, List.getElem?_cons_succ]
  have e1 : C (k + 10) 18 [.tup [.tup (cI (SL S)), .tup (cI (SL L))]] (c :: ms) = .ok (.tup ((kI (SL L)).filter (lostP (metR L (SL S) [])))) (c :: ms) := lost_ok (k := k + 2) h hs
  rw [lost_eq] at e1
  have hfl : ((kI (SL L)).filter (lostP (keptR L (SL S) []))).length ≤ 60 := Nat.le_trans (List.length_filter_le _ _) hkI
  have hfi : ∀ d ∈ (kI (SL L)).filter (lostP (keptR L (SL S) [])), ∃ i, d = .int i ∧ inP i := fun d hd => kI_int h d (List.mem_filter.mp hd).1
  have e2 : C (k + 10) 22 [.tup ((kI (SL L)).filter (lostP (keptR L (SL S) []))), .tup ((kI (SL L)).filter (lostP (keptR L (SL S) [])))] (c :: ms) = .ok (.bl true) (c :: ms) := by
    refine is_tup (k := k + 9) (by omega) ?_ fun x hx m => ?_
    · have : ∀ l : List D, (∀ d ∈ l, ∃ i, d = .int i ∧ inP i) → bels 0 l = true := fun l => by
        induction l with
        | nil => exact fun _ => rfl
        | cons a r ih =>
          intro hl
          obtain ⟨i, e, _⟩ := hl a List.mem_cons_self
          unfold bels
          rw [e, ih fun d hd => hl d (List.mem_cons_of_mem _ hd)]; rfl
      exact this _ hfi
    · obtain ⟨i, rfl, hi⟩ := hfi x hx
      exact is_int (k := k + 8) hi.1 hi.2
  rw [e1, Wr_ok, e2, Wr_ok]
  refine ⟨true, rfl, false, rfl, ?_⟩
  rw [if_neg (by decide)]
  have e3 : C (k + 10) 12 [.tup (cI (SL S)), .str (Str.ofString "nil")] (c :: ms) = .ok (.int 0) (c :: ms) := nil_ok (k := k + 3) hs
  have e4 : C (k + 10) 22 [.int 0, .int 0] (c :: ms) = .ok (.bl true) (c :: ms) := is_int (k := k + 9) (by omega) (by omega)
  rw [e3, Wr_ok, e4, Wr_ok]
  refine ⟨true, rfl, false, rfl, ?_⟩
  rw [if_neg (by decide), w_snil, w_scons, w_asg]
  simp only [EV.w_bin, EV.w_lst, EV.w_call, EV.w_str, EV.w_cons, EV.w_nil, EV.w_var, List.getElem?_cons_zero, List.getElem?_cons_succ]
  refine w_lcpS ?_
  simp only [EV.w_bi, EV.w_cons, EV.w_nil, EV.w_var, List.getElem?_cons_zero, List.getElem?_cons_succ]
  rw [keys_ok hs.u (by omega) (hdS c).q (hdS c).d, Wr_ok]
  have hkS : (kI (SL S)).length ≤ 8 := by unfold kI; rw [List.length_map]; exact hs.s.l
  refine ⟨kI (SL S), rfl, fun n => nofun, by show _ ≤ 16777216; omega, ?_⟩
  have hstr : ∀ x ∈ kI (SL S), ∃ s, x = .str s ∧ LW s := fun x hx => by
    unfold kI at hx
    obtain ⟨p, hp, rfl⟩ := List.mem_map.mp hx
    obtain ⟨⟨w, ew, _, _, hn⟩, _⟩ := hs.s.k p hp
    exact ⟨w, by rw [ew]; rfl, (LW.of hn).1⟩
  rw [lcp_pure (f := revOf) (q := none) rfl (kI (SL S)) [] fun x hx => ?el, List.nil_append, Wr_ok]
  case el =>
    obtain ⟨s, rfl, lw⟩ := hstr x hx
    refine ⟨[some (.ref 0), some dS, some (.ref (j + 1)), some (.tup (cI (SL L))), a4, some (.tup ((kI (SL L)).filter (lostP (keptR L (SL S) [])))), some (.tup (cI (SL S))), some (.lst ((keptR L (SL S) []).map .int)), none, some (.str s)], rfl, rfl, ?_⟩
    show calmR (R.of (revD (.str s) (c :: ms)) (c :: ms)) = _
    rw [show revD (.str s) (c :: ms) = some (revOf (.str s)) from if_pos lw.lim]
    rfl
  have ha : binD .Add (.lst four) (.lst ((kI (SL S)).map revOf)) (c :: ms) = .ok (.lst (four ++ (kI (SL S)).map revOf)) (c :: ms) := by
    refine if_pos ?_
    rw [List.length_map]
    show 4 + _ ≤ 16777216
    omega
  rw [show (D.lst [.str (Str.ofString "nilx"), .str (Str.ofString "m"), .str (Str.ofString "zzzzzzzz"), .str (Str.ofString "a")]) = .lst four from rfl, ha, Wr_ok]
  have hall : ∀ x ∈ four ++ (kI (SL S)).map revOf, ∃ s, x = .str s ∧ LW s := fun x hx => by
    rcases List.mem_append.mp hx with hx | hx
    · exact four_ok x hx
    · obtain ⟨y, hy, rfl⟩ := List.mem_map.mp hx
      obtain ⟨s, rfl, lw⟩ := hstr y hy
      exact ⟨_, rfl, lw.rev⟩
  refine Dr.wr (some_ok (k := k + 8) hc ?_ ?_ ?_) ?_
  · rw [List.length_append]; show 1 ≤ 4 + _; omega
  · rw [List.length_append, List.length_map]; show 4 + _ < 1000000; omega
  · intro x hx n
    obtain ⟨s, rfl, _⟩ := hall x hx
    rfl
  intro d c1 hc1 hdm
  obtain ⟨w, rfl, lw⟩ := hall d hdm
  refine ⟨[some (.ref 0), some dS, some (.ref (j + 1)), some (.tup (cI (SL L))), some (.str w), some (.tup ((kI (SL L)).filter (lostP (keptR L (SL S) [])))), some (.tup (cI (SL S))), some (.lst ((keptR L (SL S) []).map .int)), none, none], rfl, ?_⟩
  rw [w_scons, w_ifs, w_or, w_cmp]
  simp only [EV.w_cmp, EV.w_lst, EV.w_str, EV.w_cons, EV.w_nil, EV.w_var, List.getElem?_cons_zero, List.getElem?_cons_succ]
  have i1 := isin (in_dic (k := .str w) (q := .inr w) (hdS c1).s (hdS c1).q (hdS c1).d rfl)
  have done : ∀ {N : Rho → Mem → Prop} {ρ : Rho}, Wo (exSs (C (k + 10)) (loAt T wf (k + 10)) wf (.cons (.ret (.lit (.bool true))) .nil) ρ (c1 :: ms)) N (Ed ms fun d => d = .bl true) := fun {N ρ} => by
    rw [w_scons, w_ret, w_bool]
    exact Ed.here hc1 (fun _ => rfl) rfl
  cases hg : kget S (.inr w) with
  | some v =>
    rw [hg] at i1
    refine ⟨_, i1, true, rfl, ?_⟩
    rw [if_pos rfl]
    refine ⟨true, rfl, ?_⟩
    rw [if_pos rfl]
    exact done
  | none =>
    rw [hg] at i1
    refine ⟨_, i1, false, rfl, ?_⟩
    rw [if_neg (by decide)]
    refine ⟨_, isin inS, ?_⟩
    cases hbn : bndB w with
    | true =>
      refine ⟨true, rfl, ?_⟩
      rw [if_pos rfl]
      exact done
    | false =>
      refine ⟨false, rfl, ?_⟩
      rw [if_neg (by decide), w_snil, w_scons, w_ret]
      simp only [EV.w_call, EV.w_tup, EV.w_str, EV.w_cons, EV.w_nil, w_lamc, EV.w_var, List.getElem?_cons_zero, List.getElem?_cons_succ]
      rw [told_eq (K := 0) hs lw hbn hg rfl rfl, Wr_ok]
      have e5 : C (k + 10) 22 [.tup [.str (Str.ofString "name"), .str w], .tup [.str (Str.ofString "name"), .str w]] (c1 :: ms) = .ok (.bl true) (c1 :: ms) := by
        refine is_tup (k := k + 9) (show 2 ≤ 1000 by omega) rfl fun x hx m => ?_
        rcases List.mem_cons.mp hx with rfl | hx
        · exact is_str (k := k + 8) name_rep.1 name_rep.2
        · rw [List.mem_singleton.mp hx]
          exact is_str (k := k + 8) lw.rep.1 lw.rep.2
      rw [e5, Wr_ok]
      exact Ed.here hc1 (fun _ => rfl) rfl
end
end K02

/-! k02: the drawn heaps. -/
namespace K02
open PySem PySem.Spec PyProof.Rows L2 EV
section
variable {k : Nat} {c : Cell} {ms : Mem} {L S : KL}
theorem atC {x y : Cell} : (c :: (ms ++ [x, y]))[ms.length + 1]? = some x := by
  rw [List.getElem?_cons_succ, List.getElem?_append_right (Nat.le_refl _), Nat.sub_self]; rfl
theorem sub1 {n : Nat} : n.succ - n = 1 := by omega
theorem atM {x y : Cell} : (c :: (ms ++ [x, y]))[ms.length + 2]? = some y := by
  rw [List.getElem?_cons_succ, List.getElem?_append_right (Nat.le_succ _), sub1]; rfl
theorem putC {x y z : Cell} : (c :: (ms ++ [x, y])).set (ms.length + 1) z = c :: (ms ++ [z, y]) := by
  rw [List.set_cons_succ, List.set_append_right _ _ (Nat.le_refl _), Nat.sub_self]; rfl
theorem putM {x y z : Cell} : (c :: (ms ++ [x, y])).set (ms.length + 2) z = c :: (ms ++ [x, z]) := by
  rw [List.set_cons_succ, List.set_append_right _ _ (Nat.le_succ _), sub1]; rfl
theorem lenC {xs : List D} {n : Nat} {m : Mem} (h : m[n]? = some (.lst xs)) : biD .len [.ref n] m = .ok (.int xs.length) m := by
  show lenD [.ref n] m = _
  unfold lenD
  dsimp only
  have : seqOf m (.ref n) = some xs := by unfold seqOf lstOf; dsimp only; rw [h]
  rw [this]
/-- one of a list's cell -/
theorem some_okR {xs : List D} {j : Nat} (hc : HC c) (hm : ms[j]? = some (.lst xs)) (h1 : 1 ≤ xs.length) (h2 : xs.length < 1000000) (hb : ∀ x ∈ xs, ∀ n, bel n x = true) : Dr ms (callAt T wf (k + 2) 21 [.ref 0, .ref (j + 1)] (c :: ms)) fun d => d ∈ xs := by
  have hmc : ∀ c' : Cell, (c' :: ms)[j + 1]? = some (.lst xs) := fun c' => by rw [List.getElem?_cons_succ]; exact hm
  refine Dr.by (fn := f21) rfl rfl rfl ?_
  simp only [f21, b21, startR, List.map_cons, List.map_nil, List.length_cons, List.length_nil, List.cons_append, List.nil_append, List.replicate_zero, Nat.reduceAdd, Nat.reduceSub]
  rw [w_scons, w_ret]
  simp only [EV.w_idx, EV.w_bi, EV.w_call, EV.w_cons, EV.w_nil, EV.w_var, List.getElem?_cons_zero, List.getElem?_cons_succ]
  rw [lenC (hmc c), Wr_ok]
  refine Dr.wr (draw_ok (k := k) hc (by omega) (by omega)) ?_
  rintro _ c1 hc1 ⟨r, rfl, hr1, hr2⟩
  obtain ⟨i, rfl⟩ := Int.eq_ofNat_of_zero_le hr1
  have hj : i < xs.length := by omega
  refine ⟨xs.getD i .non, ?_, Ed.here hc1 (hb _ (getD_mem hj)) (getD_mem hj)⟩
  have hs : seqOf (c1 :: ms) (.ref (j + 1)) = some xs := by unfold seqOf lstOf; dsimp only; rw [hmc c1]
  unfold idxD
  dsimp only
  rw [hs]
  exact at_nat hj
theorem ints_bel {l : List Int} : ∀ x ∈ l.map D.int, ∀ n, bel n x = true := fun x hx n => by
  obtain ⟨i, _, rfl⟩ := List.mem_map.mp hx
  rfl
/-- what the heap's loops keep -/
structure HI (left : Int) (L : KL) (l : List Int) : Prop where
  h : Hp1 L
  n : (L.length : Int) ≤ left
  e : l.length = L.length + 1
  p : ∀ i ∈ l, inP i
def lefts : List Int := [0, 1, 3, 6, 20, 60]
def heapM (ms : Mem) (c : Cell) (L : KL) (l : List Int) : Mem := c :: (ms ++ [.dic (ck L) (cx L), .lst (l.map .int)])
theorem at_ok {l : List Int} (hc : HC c) (hi : ∀ i ∈ l, inP i) (h1 : 1 ≤ l.length) (h2 : l.length ≤ 100) {a1 a4 a5 a6 a7 : Option D} {Q : D → Mem → Prop} (q : ∀ i c', HC c' → inP i → Q (.int i) (heapM ms c' L l)) :
    Wr (evE (C (k + 3)) (loAt T wf (k + 3)) (.ife (.cmp .Gt (.call 20 (.cons (.var 0) (.cons (.lit (.int 4)) .nil))) (.lit (.int 0))) (.call 23 (.cons (.var 0) .nil)) (.call 21 (.cons (.var 0) (.cons (.var 3) .nil)))) [some (.ref 0), a1, some (.ref (ms.length + 1)), some (.ref (ms.length + 2)), a4, a5, a6, a7] (heapM ms c L l)) Q := by
  rw [w_ife, w_cmp]
  simp only [EV.w_call, EV.w_cons, EV.w_nil, EV.w_var, EV.w_int, List.getElem?_cons_zero, List.getElem?_cons_succ]
  refine Dr.wr (draw_ok (k := k + 2) hc (by omega) (by omega)) ?_
  rintro _ c1 hc1 ⟨r, rfl, hr1, hr2⟩
  refine ⟨_, gt_ok _ _ _, _, rfl, ?_⟩
  by_cases hr : 0 < r
  · rw [if_pos (decide_eq_true hr)]
    refine Dr.wr (fresh_ok (k := k + 1) hc1) ?_
    rintro _ c2 hc2 ⟨i, rfl, h1, h2⟩
    exact q i c2 hc2 ⟨by omega, h2⟩
  · rw [if_neg (by rw [decide_eq_false hr]; decide)]
    refine Dr.wr (some_okR (k := k + 1) (j := ms.length + 1) (xs := l.map .int) hc1 ?_ (by rw [List.length_map]; omega) (by rw [List.length_map]; omega) ints_bel) ?_
    · rw [List.getElem?_append_right (Nat.le_succ _), sub1]; rfl
    · intro d c2 hc2 hd
      obtain ⟨i, hi2, rfl⟩ := List.mem_map.mp hd
      exact q i c2 hc2 (hi i hi2)
theorem to_ok {l : List Int} {at' : Int} (hc : HC c) (hi : ∀ i ∈ l, inP i) (ha : inP at') (h2 : l.length ≤ 100) {a1 a4 a6 a7 : Option D} {Q : D → Mem → Prop} (q : ∀ i c', HC c' → inP i → Q (.int i) (heapM ms c' L l)) :
    Wr (evE (C (k + 3)) (loAt T wf (k + 3)) (.ife (.cmp .Gt (.call 20 (.cons (.var 0) (.cons (.lit (.int 6)) .nil))) (.lit (.int 0))) (.call 23 (.cons (.var 0) .nil)) (.call 21 (.cons (.var 0) (.cons (.bin .Add (.var 3) (.lst (.cons (.var 5) .nil))) .nil)))) [some (.ref 0), a1, some (.ref (ms.length + 1)), some (.ref (ms.length + 2)), a4, some (.int at'), a6, a7] (heapM ms c L l)) Q := by
  rw [w_ife, w_cmp]
  simp only [EV.w_call, EV.w_bin, EV.w_lst, EV.w_cons, EV.w_nil, EV.w_var, EV.w_int, List.getElem?_cons_zero, List.getElem?_cons_succ]
  refine Dr.wr (draw_ok (k := k + 2) hc (by omega) (by omega)) ?_
  rintro _ c1 hc1 ⟨r, rfl, hr1, hr2⟩
  refine ⟨_, gt_ok _ _ _, _, rfl, ?_⟩
  by_cases hr : 0 < r
  · rw [if_pos (decide_eq_true hr)]
    refine Dr.wr (fresh_ok (k := k + 1) hc1) ?_
    rintro _ c2 hc2 ⟨i, rfl, h1, h2⟩
    exact q i c2 hc2 ⟨by omega, h2⟩
  · rw [if_neg (by rw [decide_eq_false hr]; decide)]
    have hadd : binD .Add (.ref (ms.length + 2)) (.lst [.int at']) (c1 :: (ms ++ [.dic (ck L) (cx L), .lst (l.map .int)])) = .ok (.lst ((l ++ [at']).map .int)) (c1 :: (ms ++ [.dic (ck L) (cx L), .lst (l.map .int)])) := by
      show addD (.ref (ms.length + 2)) (.lst [.int at']) _ = _
      unfold addD
      dsimp only
      have : lstOf (c1 :: (ms ++ [.dic (ck L) (cx L), .lst (l.map .int)])) (.ref (ms.length + 2)) = some (l.map .int) := by unfold lstOf; dsimp only; rw [atM]
      rw [this]
      dsimp only [lstOf]
      rw [if_pos (by rw [List.length_map]; show _ + 1 ≤ 16777216; omega), List.map_append]
      rfl
    rw [hadd, Wr_ok]
    refine Dr.wr (some_ok (k := k + 1) hc1 (by rw [List.length_map, List.length_append, List.length_singleton]; omega) (by rw [List.length_map, List.length_append, List.length_singleton]; omega) ints_bel) ?_
    intro d c2 hc2 hd
    obtain ⟨i, hi2, rfl⟩ := List.mem_map.mp hd
    refine q i c2 hc2 ?_
    rcases List.mem_append.mp hi2 with hi2 | hi2
    · exact hi i hi2
    · rw [List.mem_singleton.mp hi2]; exact ha
def heapI (ms : Mem) (left : Int) (ρ : Rho) (m : Mem) : Prop := ∃ a1 a5 a6 a7 c' L l, ρ = [some (.ref 0), a1, some (.ref (ms.length + 1)), some (.ref (ms.length + 2)), some (.int left), a5, a6, a7] ∧ m = heapM ms c' L l ∧ HC c' ∧ HI left L l
def heapJ (ms : Mem) (left : Int) (ρ : Rho) (m : Mem) : Prop := ∃ a1 a6 a7 c' L l at', ρ = [some (.ref 0), a1, some (.ref (ms.length + 1)), some (.ref (ms.length + 2)), some (.int left), some (.int at'), a6, a7] ∧ m = heapM ms c' L l ∧ HC c' ∧ HI left L l ∧ inP at'
theorem turn_ok {left : Int} {ρ : Rho} {m : Mem} {T0 : D → Mem → Prop} (hl : left ≤ 60) (hI : heapJ ms left ρ m) :
    Wo (exSs (C (k + 3)) (loAt T wf (k + 3)) wf (.cons (.ifs (.and (.cmp .Gt (.var 5) (.lit (.int 0))) (.and (.cmp .NotIn (.var 5) (.var 2)) (.cmp .Lt (.bi .len (.cons (.var 2) .nil)) (.var 4)))) (.cons (.asg (.nm 7) (.ife (.cmp .Gt (.call 20 (.cons (.var 0) (.cons (.lit (.int 6)) .nil))) (.lit (.int 0))) (.call 23 (.cons (.var 0) .nil)) (.call 21 (.cons (.var 0) (.cons (.bin .Add (.var 3) (.lst (.cons (.var 5) .nil))) .nil))))) (.cons (.sasg (.var 2) (.var 5) 5 (.cons (.var 7) (.cons (.var 7) .nil))) (.cons (.expr (.bm .append (.var 3) (.cons (.var 7) .nil))) .nil))) .nil) .nil) ρ m) (heapJ ms left) T0 := by
  obtain ⟨a1, a6, a7, c, L, l, at', rfl, rfl, hc, hi, ha⟩ := hI
  have hd : Dc (heapM ms c L l) (.ref (ms.length + 1)) L := Dc.cell atC
  have hlen := hi.h.l
  have hel := hi.e
  have same : heapJ ms left [some (.ref 0), a1, some (.ref (ms.length + 1)), some (.ref (ms.length + 2)), some (.int left), some (.int at'), a6, a7] (heapM ms c L l) := ⟨a1, a6, a7, c, L, l, at', rfl, rfl, hc, hi, ha⟩
  rw [w_scons, w_ifs, w_and, w_cmp]
  simp only [EV.w_var, EV.w_int, EV.w_and, EV.w_cmp, EV.w_bi, EV.w_cons, EV.w_nil, List.getElem?_cons_zero, List.getElem?_cons_succ]
  refine ⟨_, gt_ok _ _ _, _, rfl, ?_⟩
  by_cases h0 : 0 < at'
  case neg =>
    rw [if_neg (by rw [decide_eq_false h0]; decide)]
    refine ⟨false, rfl, ?_⟩
    rw [if_neg (by decide), w_snil, w_snil]
    exact same
  rw [if_pos (decide_eq_true h0)]
  have i1 := notin (in_dic (k := .int at') (q := .inl at') hd.s hd.q hd.d rfl)
  refine ⟨_, i1, _, rfl, ?_⟩
  cases hg : kget L (.inl at') with
  | some v =>
    rw [if_neg (show ¬ (!(some v).isSome) = true by simp)]
    refine ⟨false, rfl, ?_⟩
    rw [if_neg (by decide), w_snil, w_snil]
    exact same
  | none =>
    rw [if_pos (by rfl), lenL hd.s hd.q hd.d, Wr_ok]
    refine ⟨_, lt_ok _ _ _, _, rfl, ?_⟩
    by_cases hlt : (L.length : Int) < left
    case neg =>
      rw [if_neg (by rw [decide_eq_false hlt]; decide), w_snil, w_snil]
      exact same
    rw [if_pos (decide_eq_true hlt), w_scons, w_asg]
    refine to_ok hc hi.p ha (by omega) fun to c1 hc1 hto => ?_
    refine ⟨[some (.ref 0), a1, some (.ref (ms.length + 1)), some (.ref (ms.length + 2)), some (.int left), some (.int at'), a6, some (.int to)], rfl, ?_⟩
    rw [w_scons]
    refine w_sasg ?_
    simp only [EV.w_cons, EV.w_nil, EV.w_var, List.getElem?_cons_zero, List.getElem?_cons_succ]
    refine ⟨_, _, rfl, ?_⟩
    have hset := set_k (L := L) (q := .inl at') (k := .int at') (v := to) (m := heapM ms c1 L l) (n := ms.length + 1) rfl (by omega) atC
    rw [show (heapM ms c1 L l).set (ms.length + 1) (.dic (ck (kput L (.inl at') to)) (cx (kput L (.inl at') to))) = heapM ms c1 (kput L (.inl at') to) l from putC] at hset
    refine ⟨_, hset, Nat.le_of_ble_eq_true rfl, ?_⟩
    rw [w_scons, w_expr, w_app]
    simp only [EV.w_cons, EV.w_nil, EV.w_var, List.set_cons_succ, List.set_cons_zero, List.getElem?_cons_zero, List.getElem?_cons_succ]
    have hk : kput L (.inl at') to = L ++ [(.inl at', to)] := by
      unfold kput
      rw [if_neg (by rw [kin_k, hg]; decide)]
    have hty : tyM .append (.ref (ms.length + 2)) (heapM ms c1 (kput L (.inl at') to) l) = true := by
      unfold tyM
      dsimp only
      rw [show (heapM ms c1 (kput L (.inl at') to) l)[ms.length + 2]? = _ from atM]
    refine ⟨hty, ?_⟩
    have happ : appendD (.ref (ms.length + 2)) [.int to] (heapM ms c1 (kput L (.inl at') to) l) = .ok .non (heapM ms c1 (kput L (.inl at') to) (l ++ [to])) := by
      unfold appendD
      dsimp only
      rw [show (heapM ms c1 (kput L (.inl at') to) l)[ms.length + 2]? = _ from atM]
      dsimp only
      rw [if_pos (by rw [List.length_map]; show _ < 16777216; omega)]
      rw [show (heapM ms c1 (kput L (.inl at') to) l).set (ms.length + 2) _ = _ from putM]
      unfold heapM
      rw [List.map_append]
      rfl
    rw [happ, Wr_ok, w_snil, w_snil]
    refine ⟨a1, a6, some (.int to), c1, kput L (.inl at') to, l ++ [to], to, rfl, rfl, hc1, ⟨⟨kput_nodup hi.h.n, fun p hp => ?_, ?_⟩, ?_, ?_, ?_⟩, hto⟩
    · rcases kput_mem hp with rfl | hp
      · exact ⟨⟨at', rfl, by omega, ha.2⟩, hto⟩
      · exact hi.h.k p hp
    · rw [hk, List.length_append, List.length_singleton]; omega
    · rw [hk, List.length_append, List.length_singleton]; omega
    · rw [hk, List.length_append, List.length_append, List.length_singleton, List.length_singleton]; omega
    · intro i hi2
      rcases List.mem_append.mp hi2 with hi2 | hi2
      · exact hi.p i hi2
      · rw [List.mem_singleton.mp hi2]; exact hto
theorem gc_tup {M m : Mem} {xs : List D} (h : bels M.length xs = false) : gcR M (.ok (.tup xs) m) = .ok (.tup xs) m := by
  unfold gcR
  dsimp only
  rw [if_neg (show ¬ bel M.length (.tup xs) = true by show ¬ bels M.length xs = true; rw [h]; decide), ite_self]
theorem heap_ok (hc : HC c) : Wr (callAt T wf (k + 4) 24 [.ref 0] (c :: ms)) fun d m => d = .tup [.ref (ms.length + 1), .ref (ms.length + 2)] ∧ ∃ c' L l, m = heapM ms c' L l ∧ HC c' ∧ Hp1 L ∧ l.length ≤ 61 ∧ 1 ≤ l.length ∧ ∀ i ∈ l, inP i := by
  refine Wr_call (fn := f24) (.inr rfl) rfl rfl ?_
  simp only [f24, b24, startR, List.map_cons, List.map_nil, List.length_cons, List.length_nil, List.cons_append, List.nil_append, List.replicate_succ, List.replicate_zero, Nat.reduceAdd, Nat.reduceSub]
  rw [w_scons, w_par]
  simp only [EV.w_alc, EV.w_lst, EV.w_call, EV.w_cons, EV.w_nil, EV.w_int, EV.w_var, List.getElem?_cons_zero, List.getElem?_cons_succ]
  show Wr (R.ok (D.dic [] []) (c :: ms)) _
  rw [Wr_ok]
  show Wr (R.ok (D.ref (ms.length + 1)) (c :: ms ++ [.dic [] []])) _
  rw [Wr_ok]
  show Wr (R.ok (D.ref (c :: ms ++ [Cell.dic [] []]).length) (c :: ms ++ [.dic [] []] ++ [.lst [.int 0]])) _
  rw [Wr_ok]
  have hmem : (c :: ms ++ [Cell.dic [] []] ++ [.lst [.int 0]]) = c :: (ms ++ [.dic [] [], .lst [.int 0]]) := by simp
  have hlen : (c :: ms ++ [Cell.dic [] []]).length = ms.length + 2 := by simp
  rw [hmem, hlen]
  have hlf : lefts.map D.int = [.int 0, .int 1, .int 3, .int 6, .int 20, .int 60] := rfl
  rw [← hlf]
  have h21 : Dr (ms ++ [.dic [] [], .lst [.int 0]]) (callAt T wf (k + 3) 21 [.ref 0, .lst (lefts.map D.int)] (c :: (ms ++ [.dic [] [], .lst [.int 0]]))) fun d => d ∈ lefts.map D.int := some_ok (k := k + 1) hc (by show 1 ≤ 6; omega) (by show 6 < 1000000; omega) ints_bel
  refine Dr.wr h21 ?_
  intro d c1 hc1 hd
  obtain ⟨left, hleft, rfl⟩ := List.mem_map.mp hd
  have hl60 : 0 ≤ left ∧ left ≤ 60 := by
    simp only [lefts, List.mem_cons, List.not_mem_nil, or_false] at hleft
    omega
  refine ⟨[some (.ref 0), none, some (.ref (ms.length + 1)), some (.ref (ms.length + 2)), some (.int left), none, none, none], rfl, ?_⟩
  rw [w_scons]
  refine wo_forR 8 rfl rfl (by omega) (by decide) ?_
  refine for_wo _ (fun _ => heapI ms left) _ _ ⟨none, none, none, none, c1, [], [0], rfl, rfl, hc1, ⟨⟨List.nodup_nil, (fun p hp => by cases hp), Nat.zero_le _⟩, hl60.1, rfl, fun i hi => ?_⟩⟩ ?_ ?_
  · rw [List.mem_singleton.mp hi]; exact ⟨by omega, by omega⟩
  · rintro i x ρ m hx ⟨a1, a5, a6, a7, c2, L, l, rfl, rfl, hc2, hi⟩
    refine ⟨[some (.ref 0), some x, some (.ref (ms.length + 1)), some (.ref (ms.length + 2)), some (.int left), a5, a6, a7], rfl, ?_⟩
    have hL := hi.h.l
    have hE := hi.e
    rw [w_scons, w_asg]
    refine at_ok (k := k) hc2 hi.p (by omega) (by omega) fun at' c3 hc3 hat => ?_
    refine ⟨[some (.ref 0), some x, some (.ref (ms.length + 1)), some (.ref (ms.length + 2)), some (.int left), some (.int at'), a6, a7], rfl, ?_⟩
    rw [w_scons]
    refine wo_forRW ?_
    simp only [EV.w_lst, EV.w_call, EV.w_cons, EV.w_nil, EV.w_int, EV.w_var, List.getElem?_cons_zero, List.getElem?_cons_succ]
    rw [show ([D.int 0, .int 1, .int 2, .int 5, .int left] : List D) = [0, 1, 2, 5, left].map D.int from rfl]
    have h22 : Dr (ms ++ [.dic (ck L) (cx L), .lst (l.map .int)]) (callAt T wf (k + 3) 21 [.ref 0, .lst (([0, 1, 2, 5, left] : List Int).map D.int)] (c3 :: (ms ++ [.dic (ck L) (cx L), .lst (l.map .int)]))) fun d => d ∈ ([0, 1, 2, 5, left] : List Int).map D.int := some_ok (k := k + 1) hc3 (by show 1 ≤ 5; omega) (by show 5 < 1000000; omega) ints_bel
    refine Dr.wr h22 ?_
    intro d c4 hc4 hd
    obtain ⟨st, hst, rfl⟩ := List.mem_map.mp hd
    have hst2 : 0 ≤ st ∧ st ≤ 60 := by
      simp only [List.mem_cons, List.not_mem_nil, or_false] at hst
      omega
    refine ⟨st, rfl, by omega, by show st ≤ (16777216 : Int); omega, ?_⟩
    refine for_wo _ (fun _ => heapJ ms left) _ _ ⟨some x, a6, a7, c4, L, l, at', rfl, rfl, hc4, hi, hat⟩ ?_ ?_
    · rintro i2 y ρ m hy hJ
      obtain ⟨b1, b6, b7, c5, L5, l5, at5, rfl, h5⟩ := hJ
      refine ⟨[some (.ref 0), b1, some (.ref (ms.length + 1)), some (.ref (ms.length + 2)), some (.int left), some (.int at5), some y, b7], rfl, ?_⟩
      exact turn_ok (k := k) hl60.2 ⟨b1, some y, b7, c5, L5, l5, at5, rfl, h5⟩
    · rintro ρ m ⟨b1, b6, b7, c5, L5, l5, at5, rfl, rfl, hc5, hi5, _⟩
      rw [w_snil]
      exact ⟨b1, some (.int at5), b6, b7, c5, L5, l5, rfl, rfl, hc5, hi5⟩
  · rintro ρ m ⟨a1, a5, a6, a7, c2, L, l, rfl, rfl, hc2, hi⟩
    rw [w_scons, w_ret]
    simp only [EV.w_tup, EV.w_cons, EV.w_nil, EV.w_var, List.getElem?_cons_zero, List.getElem?_cons_succ]
    rw [gc_tup (by
      unfold bels bel
      rw [decide_eq_false (by rw [List.length_cons]; omega)]; rfl), Wr_ok]
    have hL := hi.h.l
    have hE := hi.e
    exact ⟨rfl, c2, L, l, rfl, hc2, hi.h, by omega, by omega, hi.p⟩
end
end K02

/-! k02: the drawn stacks. -/
namespace K02
open PySem PySem.Spec PyProof.Rows L2 EV
theorem glue1 (cs : List Nat) : Txt.join (Str.ofString "") (cs.map fun c => ⟨#[c]⟩) = ⟨cs.toArray⟩ := by
  have e0 : (Str.ofString "").cps = #[] := rfl
  have go : ∀ (cs : List Nat) (acc : Array Nat), (cs.map fun c => (⟨#[c]⟩ : Str)).foldl (fun acc p => acc ++ (Str.ofString "").cps ++ p.cps) acc = acc ++ cs.toArray := by
    intro cs
    induction cs with
    | nil => intro acc; simp
    | cons c cs ih =>
      intro acc
      rw [List.map_cons, List.foldl_cons, ih, e0]
      apply Array.ext'
      simp
  show Builtin.Str.glued _ _ = _
  unfold Builtin.Str.glued
  cases cs with
  | nil => rfl
  | cons c cs =>
    rw [List.map_cons, List.drop_one, List.tail_cons, go]
    show Str.mk (#[c] ++ cs.toArray) = _
    congr 1
    apply Array.ext'
    simp
theorem one_let {ys : List D} (h : ∀ y ∈ ys, ∃ c, y = .str ⟨#[c]⟩ ∧ letB c = true) : ∃ cs : List Nat, ys = cs.map (fun c => D.str ⟨#[c]⟩) ∧ ∀ x ∈ cs, letB x = true := by
  induction ys with
  | nil => exact ⟨[], rfl, by simp⟩
  | cons y ys ih =>
    obtain ⟨c, rfl, hc⟩ := h y List.mem_cons_self
    obtain ⟨cs, rfl, hcs⟩ := ih fun z hz => h z (List.mem_cons_of_mem _ hz)
    exact ⟨c :: cs, rfl, fun x hx => by
      rcases List.mem_cons.mp hx with rfl | hx
      · exact hc
      · exact hcs x hx⟩
theorem let_at {r : Nat} (h : r < 26) : ∃ c, atI letters.cps.toList (r : Int) = some c ∧ letB c = true := by
  have hl : letters.cps.toList.length = 26 := rfl
  refine ⟨letters.cps.toList[r], atI_nat (List.getElem?_eq_getElem (by omega)), decide_eq_true (List.getElem_mem _)⟩
theorem let_len : letters.length ≤ lim := by decide +kernel
section
variable {k : Nat} {c : Cell} {ms : Mem} {L S : KL}
theorem join_ok {cs : List Nat} {m : Mem} (hl : cs.length ≤ 100) : joinD (.str (Str.ofString "")) [.lst (cs.map fun c => .str ⟨#[c]⟩)] m = .ok (.str ⟨cs.toArray⟩) m := by
  unfold joinD
  have e := allOf_map (f := isS) (g := .str) (fun _ => rfl) (cs.map fun c => (⟨#[c]⟩ : Str))
  rw [List.map_map] at e
  have e2 : (lstOf m (.lst (cs.map fun c => D.str ⟨#[c]⟩))).bind (allOf isS) = some (cs.map fun c => (⟨#[c]⟩ : Str)) := e
  dsimp only
  rw [e2]
  dsimp only
  rw [if_pos, glue1]
  have : ((cs.map fun c => (⟨#[c]⟩ : Str)).map (·.length)).sum = cs.length := by
    rw [List.map_map]
    clear e e2 hl
    induction cs with
    | nil => rfl
    | cons a cs ih => rw [List.map_cons, List.sum_cons, ih, List.length_cons]; show 1 + _ = _; omega
  rw [this]
  show _ + 0 * _ ≤ 16777216
  omega
theorem word_ok {n : Int} (hc : HC c) (h1 : 1 ≤ n) (h8 : n ≤ 8) {a0 a1 a2 a3 a4 a6 a7 a8 : Option D} {Q : D → Mem → Prop} (h0 : a0 = some (.ref 0)) (q : ∀ w c', HC c' → LW w → Q (.str w) (c' :: ms)) :
    Wr (evE (C (k + 1)) (loAt T wf (k + 1)) (.bm .join (.lit (.str (Str.ofString ""))) (.cons (.lcp [((Str.ofString "k"), 8)] (.nm 8) (.rng1 (.var 5)) .no (.idx (.lit (.str (Str.ofString "abcdefghijklmnopqrstuvwxyz"))) (.call 20 (.cons (.var 0) (.cons (.lit (.int 26)) .nil))))) .nil)) [a0, a1, a2, a3, a4, some (.int n), a6, a7, a8] (c :: ms)) Q := by
  subst h0
  rw [w_join, w_cons]
  refine w_lcpR ?_
  simp only [EV.w_var, List.getElem?_cons_zero, List.getElem?_cons_succ]
  refine ⟨n, rfl, by omega, by show n ≤ (16777216 : Int); omega, ?_⟩
  refine lcp_wr (ms := ms) (P := fun _ y => ∃ c, y = .str ⟨#[c]⟩ ∧ letB c = true) hc (fun x hx => ⟨[some (.ref 0), a1, a2, a3, a4, some (.int n), a6, a7, some x], rfl, fun _ => rfl, fun c hc => ?_⟩) ?_
  · rw [Wr_calm, w_idx]
    simp only [EV.w_str, EV.w_call, EV.w_cons, EV.w_nil, EV.w_var, EV.w_int, List.getElem?_cons_zero]
    refine Dr.wr (draw_ok (k := k) hc (by omega) (by omega)) ?_
    rintro _ c1 hc1 ⟨r, rfl, hr1, hr2⟩
    obtain ⟨j, rfl⟩ := Int.eq_ofNat_of_zero_le hr1
    obtain ⟨ch, z2, z3⟩ := let_at (r := j) (by omega)
    have e : idxD (.str letters) (.int (j : Nat)) (c1 :: ms) = some (.str ⟨#[ch]⟩) := by
      show (if letters.length ≤ lim then (atI letters.cps.toList (j : Int)).map fun c => D.str ⟨#[c]⟩ else none) = _
      rw [if_pos let_len, z2]; rfl
    exact ⟨_, e, c1, rfl, hc1, ch, rfl, z3⟩
  · intro ys c1 hc1 hl hp
    obtain ⟨cs, rfl, hcs⟩ := one_let (all_of hl hp fun _ _ z => z)
    have hn : cs.length = n.toNat := by simpa using hl
    rw [w_nil, join_ok (by omega), Wr_ok]
    refine q _ c1 hc1 ⟨?_, ?_, List.all_eq_true.mpr hcs⟩
    · show 1 ≤ cs.toArray.size; rw [List.size_toArray]; omega
    · show cs.toArray.size ≤ 8; rw [List.size_toArray]; omega
theorem atS {x : Cell} : (c :: (ms ++ [x]))[ms.length + 1]? = some x := by
  rw [List.getElem?_cons_succ, List.getElem?_append_right (Nat.le_refl _), Nat.sub_self]; rfl
theorem putS {x z : Cell} : (c :: (ms ++ [x])).set (ms.length + 1) z = c :: (ms ++ [z]) := by
  rw [List.set_cons_succ, List.set_append_right _ _ (Nat.le_refl _), Nat.sub_self]; rfl
theorem gc_ref {c' X : Cell} : gcR (c :: ms) (.ok (.ref (ms.length + 1)) (c' :: (ms ++ [X]))) = .ok (.ref (ms.length + 1)) (c' :: (ms ++ [X])) := by
  unfold gcR
  dsimp only
  split
  · rw [if_neg (show ¬ bel (c :: ms).length (.ref (ms.length + 1)) = true by show ¬ decide (ms.length + 1 < ms.length + 1) = true; simp)]
    rw [show (c' :: (ms ++ [X]))[ms.length + 1]? = some X from atS]
    dsimp only
    split
    · have : (c' :: (ms ++ [X])).take (c :: ms).length = c' :: ms := by
        rw [List.length_cons, List.take_succ_cons, List.take_left]
      rw [this]
      rfl
    · rfl
  · rfl
theorem old_cell {j : Nat} {x X : Cell} (h : ms[j]? = some x) : (ms ++ [X])[j]? = some x := by
  rw [List.getElem?_append_left (List.getElem?_eq_some_iff.mp h).1]; exact h
def stackM (ms : Mem) (c : Cell) (S : KL) : Mem := c :: (ms ++ [.dic (ck S) (cx S)])
def stackI (ms : Mem) (jC jM : Nat) (i : Nat) (ρ : Rho) (m : Mem) : Prop := ∃ a4 a5 a6 a7 a8 c' S, ρ = [some (.ref 0), some (.ref (jC + 1)), some (.ref (jM + 1)), some (.ref (ms.length + 1)), a4, a5, a6, a7, a8] ∧ m = stackM ms c' S ∧ HC c' ∧ Sp1 S ∧ S.length ≤ i
theorem stack_ok {jC jM : Nat} {l : List Int} (hc : HC c) (h : Hp1 L) (hm : ms[jC]? = some (.dic (ck L) (cx L))) (hl : ms[jM]? = some (.lst (l.map .int))) (h1 : 1 ≤ l.length) (h2 : l.length ≤ 100) (hi : ∀ i ∈ l, inP i) :
    Wr (callAt T wf (k + 4) 25 [.ref 0, .ref (jC + 1), .ref (jM + 1)] (c :: ms)) fun d m => d = .ref (ms.length + 1) ∧ ∃ c' S, m = stackM ms c' S ∧ HC c' ∧ Sp1 S := by
  refine Wr_call (fn := f25) (.inr rfl) rfl rfl ?_
  simp only [f25, b25, startR, List.map_cons, List.map_nil, List.length_cons, List.length_nil, List.cons_append, List.nil_append, List.replicate_succ, List.replicate_zero, Nat.reduceAdd, Nat.reduceSub]
  rw [w_scons, w_asg, w_alc]
  show Wr (R.ok (D.dic [] []) (c :: ms)) _
  rw [Wr_ok]
  show Wr (R.ok (D.ref (ms.length + 1)) (c :: ms ++ [.dic [] []])) _
  rw [Wr_ok]
  refine ⟨[some (.ref 0), some (.ref (jC + 1)), some (.ref (jM + 1)), some (.ref (ms.length + 1)), none, none, none, none, none], rfl, ?_⟩
  rw [show (c :: ms ++ [Cell.dic [] []]) = stackM ms c [] from rfl, w_scons]
  refine wo_forRW ?_
  simp only [EV.w_call, EV.w_cons, EV.w_nil, EV.w_int, EV.w_var, List.getElem?_cons_zero]
  have g0 : Dr (ms ++ [.dic (ck []) (cx [])]) (callAt T wf (k + 3) 20 [.ref 0, .int 9] (stackM ms c [])) fun d => ∃ r, d = .int r ∧ 0 ≤ r ∧ r < 9 := draw_ok (k := k + 2) hc (by omega) (by omega)
  refine Dr.wr g0 ?_
  rintro _ c1 hc1 ⟨r, rfl, hr1, hr2⟩
  refine ⟨r, rfl, by omega, by show r ≤ (16777216 : Int); omega, ?_⟩
  refine for_wo _ (stackI ms jC jM) _ _ ⟨none, none, none, none, none, c1, [], rfl, rfl, hc1, ⟨List.nodup_nil, (fun p hp => by cases hp), Nat.zero_le _⟩, Nat.le_refl _⟩ ?_ ?_
  · rintro i x ρ m hx ⟨a4, a5, a6, a7, a8, c2, S, rfl, rfl, hc2, hS, hSl⟩
    have hi8 : i < 8 := by
      have := (List.getElem?_eq_some_iff.mp hx).1
      rw [List.length_map, List.length_range] at this
      omega
    refine ⟨[some (.ref 0), some (.ref (jC + 1)), some (.ref (jM + 1)), some (.ref (ms.length + 1)), some x, a5, a6, a7, a8], rfl, ?_⟩
    rw [w_scons, w_asg]
    simp only [EV.w_bin, EV.w_call, EV.w_cons, EV.w_nil, EV.w_int, EV.w_var, List.getElem?_cons_zero]
    have g4 : Dr (ms ++ [.dic (ck S) (cx S)]) (callAt T wf (k + 3) 20 [.ref 0, .int 8] (stackM ms c2 S)) fun d => ∃ r, d = .int r ∧ 0 ≤ r ∧ r < 8 := draw_ok (k := k + 2) hc2 (by omega) (by omega)
    refine Dr.wr g4 ?_
    rintro _ c3 hc3 ⟨sz, rfl, hs1, hs2⟩
    rw [add_ok, Wr_ok]
    refine ⟨[some (.ref 0), some (.ref (jC + 1)), some (.ref (jM + 1)), some (.ref (ms.length + 1)), some x, some (.int (1 + sz)), a6, a7, a8], rfl, ?_⟩
    rw [w_scons, w_asg]
    refine word_ok (k := k + 2) (n := 1 + sz) (ms := ms ++ [.dic (ck S) (cx S)]) hc3 (by omega) (by omega) rfl fun w c4 hc4 lw => ?_
    refine ⟨[some (.ref 0), some (.ref (jC + 1)), some (.ref (jM + 1)), some (.ref (ms.length + 1)), some x, some (.int (1 + sz)), some (.str w), a7, a8], rfl, ?_⟩
    rw [w_scons, w_asg]
    simp only [EV.w_lst, EV.w_bin, EV.w_bi, EV.w_call, EV.w_cons, EV.w_nil, EV.w_int, EV.w_var, List.getElem?_cons_zero, List.getElem?_cons_succ]
    have g5 : Dr (ms ++ [.dic (ck S) (cx S)]) (callAt T wf (k + 3) 23 [.ref 0] (c4 :: (ms ++ [.dic (ck S) (cx S)]))) fun d => ∃ i, d = .int i ∧ 1 ≤ i ∧ i ≤ 999999999 := fresh_ok (k := k + 1) hc4
    refine Dr.wr g5 ?_
    rintro _ c5 hc5 ⟨v1, rfl, hv1, hv1'⟩
    have g1 : Dr (ms ++ [.dic (ck S) (cx S)]) (callAt T wf (k + 3) 21 [.ref 0, .ref (jM + 1)] (c5 :: (ms ++ [.dic (ck S) (cx S)]))) fun d => d ∈ l.map D.int := some_okR (k := k + 1) hc5 (old_cell hl) (by rw [List.length_map]; omega) (by rw [List.length_map]; omega) ints_bel
    refine Dr.wr g1 ?_
    intro d2 c6 hc6 hd2
    obtain ⟨v2, hv2, rfl⟩ := List.mem_map.mp hd2
    have hd : Dc (c6 :: (ms ++ [.dic (ck S) (cx S)])) (.ref (jC + 1)) L := Dc.cell (by rw [List.getElem?_cons_succ]; exact old_cell hm)
    rw [keys_ok h.u h.l hd.q hd.d, Wr_ok]
    have hkI : (kI (SL L)).length ≤ 60 := by unfold kI; rw [List.length_map]; exact h.s.l
    have ha : ∀ m : Mem, binD .Add (.lst (kI (SL L))) (.lst [.int 5]) m = .ok (.lst (kI (SL L) ++ [.int 5])) m := fun m => by
      refine if_pos ?_
      show _ + 1 ≤ 16777216
      omega
    rw [ha, Wr_ok]
    have hin : ∀ x ∈ kI (SL L) ++ [.int 5], ∃ i, x = .int i ∧ inP i := fun x hx => by
      rcases List.mem_append.mp hx with hx | hx
      · exact kI_int h x hx
      · rw [List.mem_singleton.mp hx]; exact ⟨5, rfl, by omega, by omega⟩
    have g2 : Dr (ms ++ [.dic (ck S) (cx S)]) (callAt T wf (k + 3) 21 [.ref 0, .lst (kI (SL L) ++ [.int 5])] (c6 :: (ms ++ [.dic (ck S) (cx S)]))) fun d => d ∈ kI (SL L) ++ [.int 5] := some_ok (k := k + 1) hc6 (by rw [List.length_append, List.length_singleton]; omega) (by rw [List.length_append, List.length_singleton]; omega) fun x hx n => by
      obtain ⟨i, rfl, _⟩ := hin x hx
      rfl
    refine Dr.wr g2 ?_
    intro d3 c7 hc7 hd3
    obtain ⟨v3, rfl, hv3⟩ := hin d3 hd3
    refine ⟨[some (.ref 0), some (.ref (jC + 1)), some (.ref (jM + 1)), some (.ref (ms.length + 1)), some x, some (.int (1 + sz)), some (.str w), some (.lst (([0, v1, v2, v3] : List Int).map D.int)), a8], rfl, ?_⟩
    rw [w_scons, w_ifs, w_cmp]
    simp only [EV.w_lst, EV.w_str, EV.w_cons, EV.w_nil, EV.w_var, List.getElem?_cons_zero, List.getElem?_cons_succ]
    refine ⟨_, notin inS, ?_⟩
    cases hb : bndB w with
    | true =>
      refine ⟨false, rfl, ?_⟩
      rw [if_neg (by decide), w_snil, w_snil]
      exact ⟨_, _, _, _, _, c7, S, rfl, rfl, hc7, hS, by omega⟩
    | false =>
      refine ⟨true, rfl, ?_⟩
      rw [if_pos rfl, w_scons, w_seti]
      simp only [EV.w_call, EV.w_cons, EV.w_nil, EV.w_var, List.getElem?_cons_zero, List.getElem?_cons_succ]
      have g3 : Dr (ms ++ [.dic (ck S) (cx S)]) (callAt T wf (k + 3) 21 [.ref 0, .lst (([0, v1, v2, v3] : List Int).map D.int)] (c7 :: (ms ++ [.dic (ck S) (cx S)]))) fun d => d ∈ ([0, v1, v2, v3] : List Int).map D.int := some_ok (k := k + 1) hc7 (by show 1 ≤ 4; omega) (by show 4 < 1000000; omega) ints_bel
      refine Dr.wr g3 ?_
      intro d4 c8 hc8 hd4
      obtain ⟨v4, hv4, rfl⟩ := List.mem_map.mp hd4
      have hp4 : inP v4 := by
        simp only [List.mem_cons, List.not_mem_nil, or_false] at hv4
        rcases hv4 with rfl | rfl | rfl | rfl
        · exact ⟨by omega, by omega⟩
        · exact ⟨by omega, by omega⟩
        · exact hi _ hv2
        · exact hv3
      have hset := set_k (L := S) (q := .inr w) (k := .str w) (v := v4) (m := c8 :: (ms ++ [.dic (ck S) (cx S)])) (n := ms.length + 1) rfl (by omega) atS
      rw [putS] at hset
      refine ⟨_, hset, ?_⟩
      rw [w_snil, w_snil]
      have hkl := kput_len (L := S) (q := .inr w) (v := v4)
      refine ⟨_, _, _, _, _, c8, kput S (.inr w) v4, rfl, rfl, hc8, ⟨kput_nodup hS.n, fun p hp => ?_, by omega⟩, by omega⟩
      rcases kput_mem hp with rfl | hp
      · exact ⟨lw.key hb, hp4⟩
      · exact hS.k p hp
  · rintro ρ m ⟨a4, a5, a6, a7, a8, c2, S, rfl, rfl, hc2, hS, hSl⟩
    rw [w_scons, w_ret]
    simp only [EV.w_var, List.getElem?_cons_zero, List.getElem?_cons_succ]
    rw [show stackM ms c2 S = c2 :: (ms ++ [.dic (ck S) (cx S)]) from rfl, gc_ref, Wr_ok]
    exact ⟨rfl, c2, S, rfl, hc2, hS⟩
end
end K02

/-! k02: the law. -/
namespace K02
open PySem PySem.Spec PyProof.Rows L2 EV
theorem dict_kL {L : KL} {m : Mem} (n : (ck L).Nodup) : biD .dict [.lst (cI L)] m = .ok (.dic (ck L) (cx L)) m := by
  show dictD [.lst (cI L)] m = _
  unfold dictD
  dsimp only
  show (match splitP (cI L) with | some p => R.of (dspD p.1 p.2 [] []) m | none => .bad) = _
  rw [split_k]
  dsimp only
  rw [show dspD (kI L) (cx L) [] [] = _ from dsp_k L [] n]
  rfl
theorem Ml.cell {ms : Mem} {j : Nat} {l : List Int} (h : ms[j]? = some (.lst (l.map .int))) (hl : l.length ≤ 100) (hi : ∀ i ∈ l, inP i) : Ml ms (.ref (j + 1)) l where
  add := fun c' xs hx => by
    show addD (.lst xs) (.ref (j + 1)) (c' :: ms) = _
    unfold addD
    dsimp only
    have e : lstOf (c' :: ms) (.ref (j + 1)) = some (l.map .int) := by
      unfold lstOf
      dsimp only
      rw [List.getElem?_cons_succ, h]
    rw [e]
    show (if xs.length + (l.map D.int).length ≤ lim then _ else _) = _
    rw [if_pos]
    rw [List.length_map]
    show _ ≤ 16777216
    omega
  len := hl
  pl := hi
theorem Ml.nil {ms : Mem} : Ml ms (.lst []) [] where
  add := fun c' xs hx => if_pos (by show _ + 0 ≤ 16777216; omega)
  len := Nat.zero_le _
  pl := fun i hi => by cases hi
def nearL (near : Int) : KL := (List.range 60).map fun (k : Nat) => (.inl (near + (k : Int)), near + (k : Int) + 1)
theorem nearL_ck (near : Int) : ck (nearL near) = (List.range 60).map fun (k : Nat) => .inl (near + (k : Int)) := by
  unfold ck nearL
  rw [List.map_map]; rfl
theorem nearL_hp {near : Int} (h1 : 1 ≤ near) (h2 : near ≤ 999999939) : Hp1 (nearL near) where
  n := by
    rw [nearL_ck]
    refine List.Pairwise.map _ (fun a b h e => h ?_) List.nodup_range
    injection e with e
    omega
  k := fun p hp => by
    unfold nearL at hp
    obtain ⟨k, hk, rfl⟩ := List.mem_map.mp hp
    have := List.mem_range.mp hk
    exact ⟨⟨near + (k : Int), rfl, by omega, by omega⟩, by show 0 ≤ _; omega, by show _ ≤ (999999999 : Int); omega⟩
  l := by unfold nearL; rw [List.length_map, List.length_range]; exact Nat.le_refl _
theorem near_put {near v : Int} (h1 : 1 ≤ near) (h2 : near ≤ 999999939) (hv : 0 ≤ v ∧ v ≤ 999999999) : Hp1 (kput (nearL near) (.inl (near + 59)) v) where
  n := kput_nodup (nearL_hp h1 h2).n
  k := fun p hp => by
    rcases kput_mem hp with rfl | hp
    · exact ⟨⟨near + 59, rfl, by omega, by omega⟩, hv⟩
    · exact (nearL_hp h1 h2).k p hp
  l := by
    have e : kin (ck (nearL near)) (.inl (near + 59)) = true := by
      rw [kin_mem, nearL_ck]
      exact List.mem_map.mpr ⟨59, List.mem_range.mpr (by omega), rfl⟩
    unfold kput
    rw [if_pos e, List.length_map]
    exact (nearL_hp h1 h2).l
def lawJ (ns : List Int) (x : D) (ms : Mem) (ρ : Rho) (m : Mem) : Prop := ∃ a5 c' more, ρ = [some (.scr ns), some (.ref 0), some x, none, some (.ref (ms.length + 1)), a5, some (.ref (ms.length + 2)), none] ∧ m = c' :: more ∧ HC c'
theorem law (ns : List Int) (h63 : ns.length ≤ 63) : ∃ m, callAt T wf 40 30 [.scr ns] [] = .ok (.bl true) m := by
  obtain ⟨c0, h0, hc0⟩ := hand_ok (k := 38) ns
  have key : Wo (exSs (C 39) (loAt T wf 39) wf f30.body (startR f30.ns [.scr ns]) []) (fun _ _ => False) (fun d _ => d = .bl true) := by
    simp only [f30, b30, startR, List.map_cons, List.map_nil, List.length_cons, List.length_nil, List.cons_append, List.nil_append, List.replicate_succ, List.replicate_zero, Nat.reduceAdd, Nat.reduceSub]
    rw [w_scons, w_asg]
    simp only [EV.w_call, EV.w_cons, EV.w_nil, EV.w_var, List.getElem?_cons_zero]
    rw [show C 39 19 [.scr ns] [] = .ok (.ref 0) [c0] from h0, Wr_ok]
    refine ⟨[some (.scr ns), some (.ref 0), none, none, none, none, none, none], rfl, ?_⟩
    rw [w_scons]
    refine wo_forR 3 rfl rfl (by omega) (by decide) ?_
    refine for_wo _ (fun i ρ m => ∃ a2 a4 a5 a6 c' ms, ρ = [some (.scr ns), some (.ref 0), a2, none, a4, a5, a6, none] ∧ m = c' :: ms ∧ HC c') _ _ ⟨none, none, none, none, c0, [], rfl, rfl, hc0⟩ ?_ ?_
    · rintro i x ρ m hx ⟨a2, a4, a5, a6, c1, ms, rfl, rfl, hc1⟩
      refine ⟨[some (.scr ns), some (.ref 0), some x, none, a4, a5, a6, none], rfl, ?_⟩
      rw [w_scons, w_asg]
      simp only [EV.w_call, EV.w_cons, EV.w_nil, EV.w_var, List.getElem?_cons_zero, List.getElem?_cons_succ]
      refine (heap_ok (k := 35) (ms := ms) hc1).imp ?_
      rintro d m ⟨rfl, c2, L, l, rfl, hc2, hL, hl1, hl2, hli⟩
      refine ⟨[some (.scr ns), some (.ref 0), some x, none, some (.ref (ms.length + 1)), a5, some (.ref (ms.length + 2)), none], rfl, ?_⟩
      have hcell : (ms ++ [.dic (ck L) (cx L), .lst (l.map .int)])[ms.length]? = some (.dic (ck L) (cx L)) := by
        rw [List.getElem?_append_right (Nat.le_refl _), Nat.sub_self]; rfl
      have hmet : (ms ++ [.dic (ck L) (cx L), .lst (l.map .int)])[ms.length + 1]? = some (.lst (l.map .int)) := by
        rw [List.getElem?_append_right (Nat.le_succ _), sub1]; rfl
      rw [w_scons, w_ifs]
      simp only [EV.w_not, EV.w_call, EV.w_cons, EV.w_nil, EV.w_var, List.getElem?_cons_zero, List.getElem?_cons_succ]
      have g1 : Dr (ms ++ [.dic (ck L) (cx L), .lst (l.map .int)]) (C 39 28 [.ref 0, .ref (ms.length + 1), .ref (ms.length + 2)] (c2 :: (ms ++ [.dic (ck L) (cx L), .lst (l.map .int)]))) fun d => d = .bl true := places_ok (k := 30) hc2 hL hcell (Ml.cell hmet (by omega) hli) rfl
      refine Dr.wr g1 ?_
      rintro _ c3 hc3 rfl
      refine ⟨true, rfl, false, rfl, ?_⟩
      rw [if_neg (by decide), w_snil, w_scons]
      refine wo_forR 2 rfl rfl (by omega) (by decide) ?_
      refine for_wo _ (fun _ ρ m => ∃ a5 c' more, ρ = [some (.scr ns), some (.ref 0), some x, none, some (.ref (ms.length + 1)), a5, some (.ref (ms.length + 2)), none] ∧ m = c' :: (ms ++ [.dic (ck L) (cx L), .lst (l.map .int)] ++ more) ∧ HC c') _ _ ⟨a5, c3, [], rfl, by rw [List.append_nil], hc3⟩ ?_ ?_
      · rintro i2 y ρ m hy ⟨b5, c4, more, rfl, rfl, hc4⟩
        refine ⟨[some (.scr ns), some (.ref 0), some x, none, some (.ref (ms.length + 1)), some y, some (.ref (ms.length + 2)), none], rfl, ?_⟩
        have kc : ∀ z, (ms ++ [.dic (ck L) (cx L), .lst (l.map .int)] ++ z)[ms.length]? = some (.dic (ck L) (cx L)) := fun z => by
          rw [List.getElem?_append_left (List.getElem?_eq_some_iff.mp hcell).1]; exact hcell
        have km : ∀ z, (ms ++ [.dic (ck L) (cx L), .lst (l.map .int)] ++ z)[ms.length + 1]? = some (.lst (l.map .int)) := fun z => by
          rw [List.getElem?_append_left (List.getElem?_eq_some_iff.mp hmet).1]; exact hmet
        rw [w_scons, w_ifs]
        simp only [EV.w_not, EV.w_call, EV.w_cons, EV.w_nil, EV.w_var, List.getElem?_cons_zero, List.getElem?_cons_succ]
        generalize hM : ms ++ [.dic (ck L) (cx L), .lst (l.map .int)] ++ more = M
        have kcM : M[ms.length]? = some (.dic (ck L) (cx L)) := by rw [← hM]; exact kc _
        have kmM : M[ms.length + 1]? = some (.lst (l.map .int)) := by rw [← hM]; exact km _
        refine (stack_ok (k := 35) (ms := M) (jC := ms.length) (jM := ms.length + 1) hc4 hL kcM kmM hl2 (by omega) hli).imp ?_
        rintro d m ⟨rfl, c5, S, rfl, hc5, hS⟩
        have hjS : (M ++ [.dic (ck S) (cx S)])[M.length]? = some (.dic (ck S) (cx S)) := by
          rw [List.getElem?_append_right (Nat.le_refl _), Nat.sub_self]; rfl
        have g2 : Dr (M ++ [.dic (ck S) (cx S)]) (C 39 29 [.ref 0, .ref (M.length + 1), .ref (ms.length + 1)] (c5 :: (M ++ [.dic (ck S) (cx S)]))) fun d => d = .bl true := stack_right (k := 28) hc5 hL hS (old_cell kcM) (fun c' => Dc.cell (by rw [List.getElem?_cons_succ]; exact hjS)) rfl
        refine Dr.wr g2 ?_
        rintro _ c6 hc6 rfl
        refine ⟨true, rfl, false, rfl, ?_⟩
        rw [if_neg (by decide), w_snil, w_snil]
        exact ⟨some y, c6, more ++ [.dic (ck S) (cx S)], rfl, by rw [← hM, List.append_assoc], hc6⟩
      · rintro ρ m ⟨b5, c4, more, rfl, rfl, hc4⟩
        rw [w_snil]
        exact ⟨some x, _, b5, _, c4, _, rfl, rfl, hc4⟩
    · rintro ρ m ⟨a2, a4, a5, a6, c1, ms, rfl, rfl, hc1⟩
      rw [w_scons, w_asg]
      have ep : ∀ m : Mem, binD .Pow (.int 10) (.int 9) m = .ok (.int 1000000000) m := fun m => rfl
      have es : ∀ m : Mem, binD .Sub (.int 1000000000) (.int 61) m = .ok (.int 999999939) m := fun m => rfl
      simp only [EV.w_bin, EV.w_bi, EV.w_call, EV.w_cons, EV.w_nil, EV.w_var, EV.w_int, List.getElem?_cons_zero, List.getElem?_cons_succ]
      refine Dr.wr (fresh_ok (k := 37) hc1) ?_
      rintro _ c2 hc2 ⟨r, rfl, hr1, hr2⟩
      rw [int_ok, Wr_ok, ep, Wr_ok, es, Wr_ok, mod_ok _ (by omega), Wr_ok, add_ok, Wr_ok]
      generalize hn : r.fmod 999999939 + 1 = near
      have hn1 : 1 ≤ near ∧ near ≤ 999999939 := by
        have e1 := Int.fmod_nonneg_of_pos r (show (0 : Int) < 999999939 by omega)
        have e2 := Int.fmod_lt_of_pos r (show (0 : Int) < 999999939 by omega)
        omega
      refine ⟨[some (.scr ns), some (.ref 0), a2, some (.int near), a4, a5, a6, none], rfl, ?_⟩
      rw [w_scons, w_asg]
      simp only [EV.w_alc, EV.w_bi, EV.w_cons, EV.w_nil]
      rw [ev_lcpR 60 (show evE (C 39) (loAt T wf 39) (.lit (.int 60)) [some (.scr ns), some (.ref 0), a2, some (.int near), a4, a5, a6, none] (c2 :: ms) = .ok (.int 60) (c2 :: ms) from rfl) rfl (by omega) (by decide)]
      have hlc : lcpL none (tgD (.nm 7)) (fun _ m => .ok true m) (fun ρ' m => calmR (evE (C 39) (loAt T wf 39) (.tup (.cons (.bin .Add (.var 3) (.var 7)) (.cons (.bin .Add (.bin .Add (.var 3) (.var 7)) (.lit (.int 1))) .nil))) ρ' m)) (wipeR [some (.scr ns), some (.ref 0), a2, some (.int near), a4, a5, a6, none] ([((Str.ofString "k"), 7)].map (·.2))) ((List.range 60).map fun (j : Nat) => D.int (0 + (j : Int))) [] (c2 :: ms) = .ok (.lst (cI (nearL near))) (c2 :: ms) := by
        rw [lcp_pure (f := fun d => match d with | .int i => .tup [.int (near + i), .int (near + i + 1)] | _ => .non) (q := none) rfl _ _ fun y hy => ?_, List.nil_append]
        · refine congrArg (fun z => R.ok (D.lst z) _) ?_
          unfold cI nearL
          rw [List.map_map, List.map_map]
          refine List.map_congr_left fun i hi => ?_
          show D.tup [.int (near + (0 + (i : Int))), .int (near + (0 + (i : Int)) + 1)] = D.tup [.int (near + (i : Int)), .int (near + (i : Int) + 1)]
          rw [Int.zero_add]
        · obtain ⟨i, hi, rfl⟩ := List.mem_map.mp hy
          exact ⟨_, rfl, rfl, rfl⟩
      rw [hlc, Wr_ok, dict_kL (nearL_hp hn1.1 hn1.2).n, Wr_ok]
      show Wr (R.ok (D.ref (ms.length + 1)) (c2 :: ms ++ [.dic (ck (nearL near)) (cx (nearL near))])) _
      rw [Wr_ok]
      refine ⟨[some (.scr ns), some (.ref 0), a2, some (.int near), some (.ref (ms.length + 1)), a5, a6, none], rfl, ?_⟩
      have fin : ∀ (L : KL) (c3 : Cell), HC c3 → Hp1 L → Wo (exSs (C 39) (loAt T wf 39) wf (.cons (.ret (.and (.call 28 (.cons (.var 1) (.cons (.var 4) (.cons (.lst .nil) .nil)))) (.call 29 (.cons (.var 1) (.cons (.dsp (.cons (.lit (.str (Str.ofString "b"))) (.bin .Add (.var 3) (.lit (.int 7))) (.cons (.lit (.str (Str.ofString "c"))) (.lit (.int 0)) .nil))) (.cons (.var 4) .nil)))))) .nil) [some (.scr ns), some (.ref 0), a2, some (.int near), some (.ref (ms.length + 1)), a5, a6, none] (c3 :: (ms ++ [.dic (ck L) (cx L)]))) (fun _ _ => False) (fun d _ => d = .bl true) := by
        intro L c3 hc3 hL
        have hcell : (ms ++ [.dic (ck L) (cx L)])[ms.length]? = some (.dic (ck L) (cx L)) := by
          rw [List.getElem?_append_right (Nat.le_refl _), Nat.sub_self]; rfl
        rw [w_scons, w_ret, w_and]
        simp only [EV.w_call, EV.w_cons, EV.w_nil, EV.w_var, EV.w_lst, List.getElem?_cons_zero, List.getElem?_cons_succ]
        have g1 : Dr (ms ++ [.dic (ck L) (cx L)]) (C 39 28 [.ref 0, .ref (ms.length + 1), .lst []] (c3 :: (ms ++ [.dic (ck L) (cx L)]))) fun d => d = .bl true := places_ok (k := 30) hc3 hL hcell Ml.nil rfl
        refine Dr.wr g1 ?_
        rintro _ c4 hc4 rfl
        refine ⟨true, rfl, ?_⟩
        rw [if_pos rfl]
        have ed : evE (C 39) (loAt T wf 39) (.dsp (.cons (.lit (.str (Str.ofString "b"))) (.bin .Add (.var 3) (.lit (.int 7))) (.cons (.lit (.str (Str.ofString "c"))) (.lit (.int 0)) .nil))) [some (.scr ns), some (.ref 0), a2, some (.int near), some (.ref (ms.length + 1)), a5, a6, none] (c4 :: (ms ++ [.dic (ck L) (cx L)])) = .ok (.dic [.inr (Str.ofString "b"), .inr (Str.ofString "c")] [.int (near + 7), .int 0]) (c4 :: (ms ++ [.dic (ck L) (cx L)])) := by
          have l1 : ∀ s : String, litD (.str (Str.ofString s)) = some (.str (Str.ofString s)) := fun s => if_pos (sOk_of s)
          have l2 : ∀ s : Int, litD (.int s) = some (.int s) := fun _ => rfl
          simp only [evE, evKV, l1, l2, R.of_some, R.bind_ok, calmR, List.getElem?_cons_zero, List.getElem?_cons_succ, add_ok]
          rfl
        rw [ed, Wr_ok]
        have bc : ∀ s ∈ [Str.ofString "b", Str.ofString "c"], NK (.inr s) := fun s hs => by
          simp only [List.mem_cons, List.not_mem_nil, or_false] at hs
          rcases hs with rfl | rfl
          · exact ⟨_, rfl, by decide +kernel, by decide +kernel, by decide +kernel⟩
          · exact ⟨_, rfl, by decide +kernel, by decide +kernel, by decide +kernel⟩
        have hS : Sp1 [(.inr (Str.ofString "b"), near + 7), (.inr (Str.ofString "c"), 0)] := by
          refine ⟨?_, fun p hp => ?_, by show 2 ≤ 8; omega⟩
          · show [(Sum.inr (Str.ofString "b") : Key), .inr (Str.ofString "c")].Nodup
            decide +kernel
          · simp only [List.mem_cons, List.not_mem_nil, or_false] at hp
            rcases hp with rfl | rfl
            · exact ⟨bc _ (by simp), by show 0 ≤ _; omega, by show _ ≤ (999999999 : Int); omega⟩
            · exact ⟨bc _ (by simp), by decide, by decide⟩
        have g2 : Dr (ms ++ [.dic (ck L) (cx L)]) (C 39 29 [.ref 0, .dic [.inr (Str.ofString "b"), .inr (Str.ofString "c")] [.int (near + 7), .int 0], .ref (ms.length + 1)] (c4 :: (ms ++ [.dic (ck L) (cx L)]))) fun d => d = .bl true := stack_right (k := 28) hc4 hL hS hcell (fun c' => ⟨fun z => nofun, rfl, rfl⟩) rfl
        refine Dr.wr g2 ?_
        rintro _ c5 hc5 rfl
        rfl
      rw [w_scons, w_ifs, w_cmp]
      simp only [EV.w_call, EV.w_cons, EV.w_nil, EV.w_var, EV.w_int, List.getElem?_cons_zero, List.getElem?_cons_succ]
      have g3 : Dr (ms ++ [.dic (ck (nearL near)) (cx (nearL near))]) (C 39 20 [.ref 0, .int 2] (c2 :: (ms ++ [.dic (ck (nearL near)) (cx (nearL near))]))) fun d => ∃ r, d = .int r ∧ 0 ≤ r ∧ r < 2 := draw_ok (k := 38) hc2 (by omega) (by omega)
      refine Dr.wr g3 ?_
      rintro _ c3 hc3 ⟨r2, rfl, _, _⟩
      refine ⟨_, eq_ok _ _ _, _, rfl, ?_⟩
      by_cases hr : r2 = 0
      · rw [decide_eq_true hr, if_pos rfl, w_scons, w_seti]
        simp only [EV.w_bin, EV.w_call, EV.w_cons, EV.w_nil, EV.w_var, EV.w_int, List.getElem?_cons_zero, List.getElem?_cons_succ]
        have g4 : Dr (ms ++ [.dic (ck (nearL near)) (cx (nearL near))]) (C 39 20 [.ref 0, .int 60] (c3 :: (ms ++ [.dic (ck (nearL near)) (cx (nearL near))]))) fun d => ∃ r, d = .int r ∧ 0 ≤ r ∧ r < 60 := draw_ok (k := 38) hc3 (by omega) (by omega)
        refine Dr.wr g4 ?_
        rintro _ c4 hc4 ⟨r3, rfl, hr3, hr4⟩
        rw [add_ok, Wr_ok, add_ok, Wr_ok]
        have hset := set_k (L := nearL near) (q := .inl (near + 59)) (k := .int (near + 59)) (v := near + r3) (m := c4 :: (ms ++ [.dic (ck (nearL near)) (cx (nearL near))])) (n := ms.length + 1) rfl (by have := (nearL_hp hn1.1 hn1.2).l; omega) atS
        rw [putS] at hset
        refine ⟨_, hset, ?_⟩
        rw [w_snil]
        exact fin _ _ hc4 (near_put hn1.1 hn1.2 ⟨by omega, by omega⟩)
      · rw [decide_eq_false hr, if_neg (by decide), w_snil]
        exact fin _ _ hc3 (nearL_hp hn1.1 hn1.2)
  have : Wr (callAt T wf 40 30 [.scr ns] []) fun d _ => d = .bl true := by
    refine Wr_call (.inl rfl) (fn := f30) rfl rfl ?_
    refine key.imp (fun _ _ z => z.elim) fun d m z => ?_
    subst z
    unfold gcR
    dsimp only
    exact rfl
  cases he : callAt T wf 40 30 [.scr ns] [] with
  | ok d m => rw [he] at this; exact ⟨m, by rw [show d = .bl true from this]⟩
  | ex _ _ _ => rw [he] at this; exact this.elim
  | bad => rw [he] at this; exact this.elim
end K02


open PySem PySem.W PyProof.Rows
set_option maxHeartbeats 0 in
theorem PySem.Challenge.cw_chainclaims_k02_whole_roads_and_lost_cel_holds : PySem.Challenge.rw_chainclaims_k02_whole_roads_and_lost_cel.Holds := by
  w_on; o_law; k_head; (case hw => w_witness2)
  k_fill
  refine EV.law_by (l := PySem.Challenge.rw_chainclaims_k02_whole_roads_and_lost_cel) (n := 63) (k := 40) (iL := 30) (wf := K02.wf) (xs := K02.xs) (T := K02.T) (GK := K02.GK) (fnL := K02.f30) rfl (by decide) rfl ⟨rfl, by decide, by decide⟩ (fun w h Y => PySem.W.km_in_of Y) rfl rfl rfl rfl (by decide +kernel) ?F K02.law
  case F =>
    intro w mg h KX G XPh
    refine' ⟨⟨[], ⟨?evd0, ?evd1, ?evd2, ?evd3, ?evd4, ?evd5, ?evd6, ?evd7, ?evd8, ?evd9, ?evd10, ?evd11, ?evd12, ?evd13, ?evd14, ?evd15, ?evd16, ?evd17, ?evd18, ?evd19, ?evd20, ?evd21, ?evd22, ?evd23, ?evd24, ?evd25, ?evd26, ?evd27, ?evd28, ?evd29, ?evd30, trivial⟩⟩, ⟨?evz0, ?evz1, ?evz2, ?evz3, ?evz4, ?evz5, ?evz6, ?evz7, ?evz8, ?evz9, ?evz10, ?evz11, ?evz12, ?evz13, ?evz14, ?evz15, ?evz16, ?evz17, ?evz18, ?evz19, trivial⟩, ⟨?evg0, ?evg1, ?evg2, ?evg3, ?evg4, ?evg5, ?evg6, trivial⟩, ⟨_, [_, _, _, _, _, _], ?xb, ⟨?xc1, ?xc2, ?xc3, ?xc4, ?xc5, ?xc6, trivial⟩, ?xn, rfl⟩, ⟨[((Str.ofString "_law_is_stack_right"), _, _)], ?mn, List.forall_mem_cons.mpr ⟨⟨?ma0, ?mb0, ?mc0⟩, fun p hp => by cases hp⟩, ?md⟩⟩
    case evd0 => (refine' EV.defOk_mk K02.r0 rfl rfl (fun _ _ _ _ _ _ us hl => match us, hl with | [_], _ => rfl) K02.t0 ?a ?l ?c ?k; (case a => k_is); (case l => k_is); (case c => k_is); (case k => k_is))
    case evd1 => (refine' EV.defOk_mk K02.r1 rfl rfl (fun _ _ _ _ _ _ us hl => match us, hl with | [_, _, _], _ => rfl) K02.t1 ?a ?l ?c ?k; (case a => k_is); (case l => k_is); (case c => k_is); (case k => k_is))
    case evd2 => (refine' EV.defOk_mk K02.r2 rfl rfl (fun _ _ _ _ _ _ us hl => match us, hl with | [_], _ => rfl) K02.t2 ?a ?l ?c ?k; (case a => k_is); (case l => k_is); (case c => k_is); (case k => k_is))
    case evd3 => (refine' EV.defOk_mk K02.r3 rfl rfl (fun _ _ _ _ _ _ us hl => match us, hl with | [_], _ => rfl) K02.t3 ?a ?l ?c ?k; (case a => k_is); (case l => k_is); (case c => k_is); (case k => k_is))
    case evd4 => (refine' EV.defOk_mk K02.r4 rfl rfl (fun _ _ _ _ _ _ us hl => match us, hl with | [_], _ => rfl) K02.t4 ?a ?l ?c ?k; (case a => k_is); (case l => k_is); (case c => k_is); (case k => k_is))
    case evd5 => (refine' EV.defOk_mk K02.r5 rfl rfl (fun _ _ _ _ _ _ us hl => match us, hl with | [_, _, _], _ => rfl) K02.t5 ?a ?l ?c ?k; (case a => k_is); (case l => k_is); (case c => k_is); (case k => k_is))
    case evd6 => (refine' EV.defOk_mk K02.r6 rfl rfl (fun _ _ _ _ _ _ us hl => match us, hl with | [_], _ => rfl) K02.t6 ?a ?l ?c ?k; (case a => k_is); (case l => k_is); (case c => k_is); (case k => k_is))
    case evd7 => (refine' EV.defOk_mk K02.r7 rfl rfl (fun _ _ _ _ _ _ us hl => match us, hl with | [_], _ => rfl) K02.t7 ?a ?l ?c ?k; (case a => k_is); (case l => k_is); (case c => k_is); (case k => k_is))
    case evd8 => (refine' EV.defOk_mk K02.r8 rfl rfl (fun _ _ _ _ _ _ us hl => match us, hl with | [_], _ => rfl) K02.t8 ?a ?l ?c ?k; (case a => k_is); (case l => k_is); (case c => k_is); (case k => k_is))
    case evd9 => (refine' EV.defOk_mk K02.r9 rfl rfl (fun _ _ _ _ _ _ us hl => match us, hl with | [_], _ => rfl) K02.t9 ?a ?l ?c ?k; (case a => k_is); (case l => k_is); (case c => k_is); (case k => k_is))
    case evd10 => (refine' EV.defOk_mk K02.r10 rfl rfl (fun _ _ _ _ _ _ us hl => match us, hl with | [_], _ => rfl) K02.t10 ?a ?l ?c ?k; (case a => k_is); (case l => k_is); (case c => k_is); (case k => k_is))
    case evd11 => (refine' EV.defOk_mk K02.r11 rfl rfl (fun _ _ _ _ _ _ us hl => match us, hl with | [_, _], _ => rfl) K02.t11 ?a ?l ?c ?k; (case a => k_is); (case l => k_is); (case c => k_is); (case k => k_is))
    case evd12 => (refine' EV.defOk_mk K02.r12 rfl rfl (fun _ _ _ _ _ _ us hl => match us, hl with | [_, _], _ => rfl) K02.t12 ?a ?l ?c ?k; (case a => k_is); (case l => k_is); (case c => k_is); (case k => k_is))
    case evd13 => (refine' EV.defOk_mk K02.r13 rfl rfl (fun _ _ _ _ _ _ us hl => match us, hl with | [_, _], _ => rfl) K02.t13 ?a ?l ?c ?k; (case a => k_is); (case l => k_is); (case c => k_is); (case k => k_is))
    case evd14 => (refine' EV.defOk_mk K02.r14 rfl rfl (fun _ _ _ _ _ _ us hl => match us, hl with | [_, _], _ => rfl) K02.t14 ?a ?l ?c ?k; (case a => k_is); (case l => k_is); (case c => k_is); (case k => k_is))
    case evd15 => (refine' EV.defOk_mk K02.r15 rfl rfl (fun _ _ _ _ _ _ us hl => match us, hl with | [_, _], _ => rfl) K02.t15 ?a ?l ?c ?k; (case a => k_is); (case l => k_is); (case c => k_is); (case k => k_is))
    case evd16 => (refine' EV.defOk_mk K02.r16 rfl rfl (fun _ _ _ _ _ _ us hl => match us, hl with | [_, _], _ => rfl) K02.t16 ?a ?l ?c ?k; (case a => k_is); (case l => k_is); (case c => k_is); (case k => k_is))
    case evd17 => (refine' EV.defOk_mk K02.r17 rfl rfl (fun _ _ _ _ _ _ us hl => match us, hl with | [_], _ => rfl) K02.t17 ?a ?l ?c ?k; (case a => k_is); (case l => k_is); (case c => k_is); (case k => k_is))
    case evd18 => (refine' EV.defOk_mk K02.r18 rfl rfl (fun _ _ _ _ _ _ us hl => match us, hl with | [_], _ => rfl) K02.t18 ?a ?l ?c ?k; (case a => k_is); (case l => k_is); (case c => k_is); (case k => k_is))
    case evd19 => (refine' EV.defOk_mk K02.r19 rfl rfl (fun _ _ _ _ _ _ us hl => match us, hl with | [_], _ => rfl) K02.t19 ?a ?l ?c ?k; (case a => k_is); (case l => k_is); (case c => k_is); (case k => k_is))
    case evd20 => (refine' EV.defOk_mk K02.r20 rfl rfl (fun _ _ _ _ _ _ us hl => match us, hl with | [_, _], _ => rfl) K02.t20 ?a ?l ?c ?k; (case a => k_is); (case l => k_is); (case c => k_is); (case k => k_is))
    case evd21 => (refine' EV.defOk_mk K02.r21 rfl rfl (fun _ _ _ _ _ _ us hl => match us, hl with | [_, _], _ => rfl) K02.t21 ?a ?l ?c ?k; (case a => k_is); (case l => k_is); (case c => k_is); (case k => k_is))
    case evd22 => (refine' EV.defOk_mk K02.r22 rfl rfl (fun _ _ _ _ _ _ us hl => match us, hl with | [_, _], _ => rfl) K02.t22 ?a ?l ?c ?k; (case a => k_is); (case l => k_is); (case c => k_is); (case k => k_is))
    case evd23 => (refine' EV.defOk_mk K02.r23 rfl rfl (fun _ _ _ _ _ _ us hl => match us, hl with | [_], _ => rfl) K02.t23 ?a ?l ?c ?k; (case a => k_is); (case l => k_is); (case c => k_is); (case k => k_is))
    case evd24 => (refine' EV.defOk_mk K02.r24 rfl rfl (fun _ _ _ _ _ _ us hl => match us, hl with | [_], _ => rfl) K02.t24 ?a ?l ?c ?k; (case a => k_is); (case l => k_is); (case c => k_is); (case k => k_is))
    case evd25 => (refine' EV.defOk_mk K02.r25 rfl rfl (fun _ _ _ _ _ _ us hl => match us, hl with | [_, _, _], _ => rfl) K02.t25 ?a ?l ?c ?k; (case a => k_is); (case l => k_is); (case c => k_is); (case k => k_is))
    case evd26 => (refine' EV.defOk_mk K02.r26 rfl rfl (fun _ _ _ _ _ _ us hl => match us, hl with | [_, _], _ => rfl) K02.t26 ?a ?l ?c ?k; (case a => k_is); (case l => k_is); (case c => k_is); (case k => k_is))
    case evd27 => (refine' EV.defOk_mk K02.r27 rfl rfl (fun _ _ _ _ _ _ us hl => match us, hl with | [_], _ => rfl) K02.t27 ?a ?l ?c ?k; (case a => k_is); (case l => k_is); (case c => k_is); (case k => k_is))
    case evd28 => (refine' EV.defOk_mk K02.r28 rfl rfl (fun _ _ _ _ _ _ us hl => match us, hl with | [_, _, _], _ => rfl) K02.t28 ?a ?l ?c ?k; (case a => k_is); (case l => k_is); (case c => k_is); (case k => k_is))
    case evd29 => (refine' EV.defOk_mk K02.r29 rfl rfl (fun _ _ _ _ _ _ us hl => match us, hl with | [_, _, _], _ => rfl) K02.t29 ?a ?l ?c ?k; (case a => k_is); (case l => k_is); (case c => k_is); (case k => k_is))
    case evd30 => (refine' EV.defOk_mk K02.r30 rfl rfl (fun _ _ _ _ _ _ us hl => match us, hl with | [_], _ => rfl) K02.t30 ?a ?l ?c ?k; (case a => k_is); (case l => k_is); (case c => k_is); (case k => k_is))
    case evz0 => (refine' PySem.W.mg_none_of KX G ?a; (case a => k_is))
    case evz1 => (refine' PySem.W.mg_none_of KX G ?a; (case a => k_is))
    case evz2 => (refine' PySem.W.mg_none_of KX G ?a; (case a => k_is))
    case evz3 => (refine' PySem.W.mg_none_of KX G ?a; (case a => k_is))
    case evz4 => (refine' PySem.W.mg_none_of KX G ?a; (case a => k_is))
    case evz5 => (refine' PySem.W.mg_none_of KX G ?a; (case a => k_is))
    case evz6 => (refine' PySem.W.mg_none_of KX G ?a; (case a => k_is))
    case evz7 => (refine' PySem.W.mg_none_of KX G ?a; (case a => k_is))
    case evz8 => (refine' PySem.W.mg_none_of KX G ?a; (case a => k_is))
    case evz9 => (refine' PySem.W.mg_none_of KX G ?a; (case a => k_is))
    case evz10 => (refine' PySem.W.mg_none_of KX G ?a; (case a => k_is))
    case evz11 => (refine' PySem.W.mg_none_of KX G ?a; (case a => k_is))
    case evz12 => (refine' PySem.W.mg_none_of KX G ?a; (case a => k_is))
    case evz13 => (refine' PySem.W.mg_none_of KX G ?a; (case a => k_is))
    case evz14 => (refine' PySem.W.mg_none_of KX G ?a; (case a => k_is))
    case evz15 => (refine' PySem.W.mg_none_of KX G ?a; (case a => k_is))
    case evz16 => (refine' PySem.W.mg_none_of KX G ?a; (case a => k_is))
    case evz17 => (refine' PySem.W.mg_none_of KX G ?a; (case a => k_is))
    case evz18 => (refine' PySem.W.mg_none_of KX G ?a; (case a => k_is))
    case evz19 => (refine' PySem.W.mg_none_of KX G ?a; (case a => k_is))
    case evg0 => (refine' EV.grow_of rfl (EV.gval_K KX G ?a ?r); (case a => k_is); (case r => kernel_rfl))
    case evg1 => (refine' EV.grow_of rfl (EV.gval_K KX G ?a ?r); (case a => k_is); (case r => kernel_rfl))
    case evg2 => (refine' EV.grow_of rfl (EV.gval_K KX G ?a ?r); (case a => k_is); (case r => kernel_rfl))
    case evg3 => (refine' EV.grow_of rfl (EV.gval_K KX G ?a ?r); (case a => k_is); (case r => kernel_rfl))
    case evg4 => exact EV.grow_of rfl (EV.gval_L XPh (by decide +kernel))
    case evg5 => (refine' EV.grow_of rfl (EV.gval_K KX G ?a ?r); (case a => k_is); (case r => kernel_rfl))
    case evg6 => (refine' EV.grow_of rfl (EV.gval_K KX G ?a ?r); (case a => k_is); (case r => kernel_rfl))
    case xb => (refine' EV.bdef_mk ?a ?l ?r ?f ?g ?e ?t; (case a => k_is); (case l => k_is); (case r => k_is); (case f => k_is); (case g => k_is); (case e => k_is); (case t => k_is))
    case xc1 => (refine' EV.xdef_mk0 (q := (Str.ofString "NoStack.__init__")) K02.x1 (fun _ _ _ _ _ _ us hl => match us, hl with | [_], _ => rfl) ?a ?l ?s ?e ?t ?k ?fi ?ti ?lf ?cf ?kf; (case a => k_is); (case l => k_is); (case s => k_is); (case e => k_is); (case t => k_is); (case k => k_is); (case fi => k_is); (case ti => k_is); (case lf => k_is); (case cf => k_is); (case kf => k_is))
    case xc2 => (refine' EV.xdef_mk0 (q := (Str.ofString "NoTerm.__init__")) K02.x2 (fun _ _ _ _ _ _ us hl => match us, hl with | [_], _ => rfl) ?a ?l ?s ?e ?t ?k ?fi ?ti ?lf ?cf ?kf; (case a => k_is); (case l => k_is); (case s => k_is); (case e => k_is); (case t => k_is); (case k => k_is); (case fi => k_is); (case ti => k_is); (case lf => k_is); (case cf => k_is); (case kf => k_is))
    case xc3 => (refine' EV.xdef_mk0 (q := (Str.ofString "NoHeap.__init__")) K02.x3 (fun _ _ _ _ _ _ us hl => match us, hl with | [_], _ => rfl) ?a ?l ?s ?e ?t ?k ?fi ?ti ?lf ?cf ?kf; (case a => k_is); (case l => k_is); (case s => k_is); (case e => k_is); (case t => k_is); (case k => k_is); (case fi => k_is); (case ti => k_is); (case lf => k_is); (case cf => k_is); (case kf => k_is))
    case xc4 => (refine' EV.xdef_mk0 (q := (Str.ofString "NoPlace.__init__")) K02.x4 (fun _ _ _ _ _ _ us hl => match us, hl with | [_], _ => rfl) ?a ?l ?s ?e ?t ?k ?fi ?ti ?lf ?cf ?kf; (case a => k_is); (case l => k_is); (case s => k_is); (case e => k_is); (case t => k_is); (case k => k_is); (case fi => k_is); (case ti => k_is); (case lf => k_is); (case cf => k_is); (case kf => k_is))
    case xc5 => (refine' EV.xdef_mk0 (q := (Str.ofString "NoState.__init__")) K02.x5 (fun _ _ _ _ _ _ us hl => match us, hl with | [_], _ => rfl) ?a ?l ?s ?e ?t ?k ?fi ?ti ?lf ?cf ?kf; (case a => k_is); (case l => k_is); (case s => k_is); (case e => k_is); (case t => k_is); (case k => k_is); (case fi => k_is); (case ti => k_is); (case lf => k_is); (case cf => k_is); (case kf => k_is))
    case xc6 => (refine' EV.xdef_mk1 (q := (Str.ofString "NoName.__init__")) K02.x6 (fun _ _ _ _ _ _ us hl => match us, hl with | [_, _], _ => rfl) ?a ?l ?s ?e ?t ?k ?n ?ga ?gg ?hd ?fi ?ti ?lf ?cf ?kf; (case a => k_is); (case l => k_is); (case s => k_is); (case e => k_is); (case t => k_is); (case k => k_is); (case n => k_is); (case ga => k_is); (case gg => k_is); (case hd => k_is); (case fi => k_is); (case ti => k_is); (case lf => k_is); (case cf => k_is); (case kf => k_is))
    case xn => first | decide | decide +kernel | k_is
    case ma0 => (refine' EV.tab_mk ?a ?l ?c ?m ?v; (case a => k_is); (case l => k_is); (case c => rfl); (case m => k_is); (case v => rfl))
    case mb0 => first | kernel_rfl | rfl
    case mc0 => first | rfl | decide +kernel
    case mn => first | rfl | decide +kernel
    case md => first | decide | decide +kernel
