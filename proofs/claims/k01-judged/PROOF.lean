import PyProof.Rows.All
import Wide.All
import OpenK.AllK
import Wide.FinOn
import PySem.Challenge.RW_chainclaims_k01_whole_names_places_and_s
import HandS.ForMost
import HandS.ForExc
import HandS.IsInst
import HandS.Flow
import HandS.Style
import HandS.RaiseMore
import HandS.Conv
import HandS.Defaults
import HandS.Small
import HandS.DictTup
import HandS.Zip
import KE.SortData
set_option Elab.async false
set_option linter.all false
set_option maxRecDepth 100000
set_option maxHeartbeats 8000000
/-! Values without a heap (D), memory of what changes (Mem), how they stand for the layer's values over the layer's heap (Rep, Good), what a step keeps (Nxt). -/
namespace EV
open PySem PySem.Spec PyProof.Rows L2

/-- a value: data, or a cell of the memory -/
inductive D where
  | non | bl (b : Bool) | int (i : Int) | str (x : Str)
  | tup (xs : List D) | lst (xs : List D) | dic (ks : List Key) (xs : List D)
  | ref (n : Nat) | fn | scr (ns : List Int)
deriving Inhabited

mutual
def deq : D → D → Bool
  | .non, .non => true
  | .bl a, .bl b => a == b
  | .int a, .int b => decide (a = b)
  | .str a, .str b => decide (a = b)
  | .tup xs, .tup ys => deqs xs ys
  | .lst xs, .lst ys => deqs xs ys
  | .dic ks xs, .dic ls ys => decide (ks = ls) && deqs xs ys
  | .ref a, .ref b => decide (a = b)
  | .fn, .fn => true
  | .scr a, .scr b => decide (a = b)
  | _, _ => false
def deqs : List D → List D → Bool
  | [], [] => true
  | x :: xs, y :: ys => deq x y && deqs xs ys
  | _, _ => false
end
mutual
theorem deq_iff : ∀ a b : D, deq a b = true ↔ a = b
  | .non, b => by cases b <;> simp [deq]
  | .bl a, b => by cases b <;> simp [deq]
  | .int a, b => by cases b <;> simp [deq]
  | .str a, b => by cases b <;> simp [deq]
  | .tup xs, b => by
    cases b with
    | tup ys => simp [deq, deqs_iff xs ys]
    | _ => simp [deq]
  | .lst xs, b => by
    cases b with
    | lst ys => simp [deq, deqs_iff xs ys]
    | _ => simp [deq]
  | .dic ks xs, b => by
    cases b with
    | dic ls ys => simp [deq, deqs_iff xs ys]
    | _ => simp [deq]
  | .ref a, b => by cases b <;> simp [deq]
  | .fn, b => by cases b <;> simp [deq]
  | .scr a, b => by cases b <;> simp [deq]
theorem deqs_iff : ∀ a b : List D, deqs a b = true ↔ a = b
  | [], b => by cases b <;> simp [deqs]
  | x :: xs, b => by
    cases b with
    | nil => simp [deqs]
    | cons y ys => simp [deqs, deq_iff x y, deqs_iff xs ys]
end
instance : DecidableEq D := fun a b => decidable_of_iff _ (deq_iff a b)
inductive Cell where
  | lst (xs : List D) | dic (ks : List Key) (xs : List D) | ins (c : Nat) (ns : List Str) (xs : List D)
deriving Inhabited, DecidableEq
abbrev Mem := List Cell

/-- a text of code points -/
def sOk (x : Str) : Bool := x.cps.all (· < 0x110000)
/-- what the top has written: its part K, the classes' addresses, tables of code objects -/
structure Gw where
  K : PySem.W.Frag
  cl : Nat → Addr
  xc : Nat → Addr
  xf : Nat → Str

mutual
def Rep (G : Gw) (μ τ : List Addr) (H : Hp) : D → V → Prop
  | .non, v => v = .non
  | .bl b, v => v = .bl b
  | .int i, v => v = .int i
  | .str x, v => v = .str x ∧ sOk x = true
  | .tup ds, v => ∃ a vs, v = .ref a ∧ SqT G.K H a vs ∧ Reps G μ τ H ds vs
  | .lst ds, v => ∃ a vs, v = .ref a ∧ H a = some (.lst vs) ∧ a ∉ μ ∧ a ∉ τ ∧ Reps G μ τ H ds vs
  | .dic ks ds, v => ∃ a vs, v = .ref a ∧ H a = some (.dK (ks.zip vs)) ∧ ks.length = vs.length ∧ a ∉ μ ∧ a ∉ τ ∧ Reps G μ τ H ds vs
  | .ref n, v => ∃ a, v = .ref a ∧ μ[n]? = some a
  | .fn, v => ∃ a, v = .ref a
  | .scr ns, v => ∃ a, v = .ref a ∧ ((Rd H a (.lst (ns.map V.int)) ∧ a ∉ μ ∧ a ∉ τ) ∨ ∀ H', SqL G.K H' a (ns.map V.int))
def Reps (G : Gw) (μ τ : List Addr) (H : Hp) : List D → List V → Prop
  | [], vs => vs = []
  | d :: ds, vs => ∃ v r, vs = v :: r ∧ Rep G μ τ H d v ∧ Reps G μ τ H ds r
end

def CellRep (G : Gw) (μ τ : List Addr) (H : Hp) (a : Addr) : Cell → Prop
  | .lst ds => ∃ vs, H a = some (.lst vs) ∧ Reps G μ τ H ds vs
  | .dic ks ds => ∃ vs, H a = some (.dK (ks.zip vs)) ∧ ks.length = vs.length ∧ Reps G μ τ H ds vs
  | .ins c ns ds => ∃ dx vs, H a = some (.ins (G.cl c) dx (ns.zip vs)) ∧ ns.length = vs.length ∧ Reps G μ τ H ds vs

/-- the memory stands for the tracked cells -/
structure Good (G : Gw) (μ τ : List Addr) (m : Mem) (H : Hp) : Prop where
  len : μ.length = m.length
  cell : ∀ (n : Nat) (c : Cell) (a : Addr), m[n]? = some c → μ[n]? = some a → CellRep G μ τ H a c
  nodup : μ.Nodup
  dis : ∀ a ∈ τ, a ∉ μ ∧ H a ≠ none

/-- what may stand in a tracked cell -/
def MutO : HO → Prop
  | .lst _ => True
  | .dK _ => True
  | .ins _ _ _ => True
  | _ => False
theorem CellRep.mut {G : Gw} {μ τ : List Addr} {H : Hp} {a : Addr} {c : Cell} (h : CellRep G μ τ H a c) : ∃ o, H a = some o ∧ MutO o := by
  cases c with
  | lst ds => obtain ⟨vs, h, _⟩ := h; exact ⟨_, h, trivial⟩
  | dic ks ds => obtain ⟨vs, h, _⟩ := h; exact ⟨_, h, trivial⟩
  | ins c ns ds => obtain ⟨dx, vs, h, _⟩ := h; exact ⟨_, h, trivial⟩
theorem Good.mut {G : Gw} {μ τ : List Addr} {m : Mem} {H : Hp} (g : Good G μ τ m H) {a : Addr} (h : a ∈ μ) : ∃ o, H a = some o ∧ MutO o := by
  obtain ⟨n, hn, e⟩ := List.getElem_of_mem h
  have hm : n < m.length := by rw [← g.len]; exact hn
  exact (g.cell n m[n] a (by simp [hm]) (by simp [hn, e])).mut

/-- a step: new cells are new objects; what stands outside of the tracked cells stays (a code table may grow) -/
structure Nxt (μ τ : List Addr) (H : Hp) (μ' τ' : List Addr) (H' : Hp) : Prop where
  pre : ∀ (n : Nat) (a : Addr), μ[n]? = some a → μ'[n]? = some a
  keep : ∀ a o, H a = some o → a ∉ μ → (∀ ps, o ≠ .tbl ps) → H' a = some o
  tbl : ∀ a ps, H a = some (.tbl ps) → ∃ more, H' a = some (.tbl (ps ++ more))
  newM : ∀ a, a ∈ μ' → a ∈ μ ∨ H a = none
  newT : ∀ a, a ∈ τ' → a ∈ τ ∨ a ∈ μ ∨ H a = none
theorem Nxt.refl {μ τ : List Addr} {H : Hp} : Nxt μ τ H μ τ H := ⟨fun _ _ h => h, fun _ _ h _ _ => h, fun a ps h => ⟨#[], by simpa using h⟩, fun _ h => .inl h, fun _ h => .inl h⟩

section
variable {G : Gw} {μ τ μ' τ' μ'' τ'' μ₀ τ₀ : List Addr} {H H' H'' H₀ : Hp} {m m' : Mem}
theorem Nxt.sub (n : Nxt μ τ H μ' τ' H') {a : Addr} (h : a ∈ μ) : a ∈ μ' := by
  obtain ⟨i, hi, e⟩ := List.getElem_of_mem h
  have := n.pre i a (by simp [hi, e])
  exact List.mem_of_getElem? this
/-- what is no object behind the step was none ahead, or was tracked -/
theorem Nxt.none_of (h : Nxt μ τ H μ' τ' H') {a : Addr} (e : H' a = none) : a ∈ μ ∨ H a = none := by
  cases q : H a with
  | none => exact .inr rfl
  | some o =>
    by_cases ha : a ∈ μ
    · exact .inl ha
    · by_cases ho : ∃ ps, o = .tbl ps
      · obtain ⟨ps, rfl⟩ := ho
        obtain ⟨more, z⟩ := h.tbl a ps q
        rw [z] at e; cases e
      · have z := h.keep a o q ha (fun ps r => ho ⟨ps, r⟩)
        rw [z] at e; cases e
theorem Nxt.trans (h1 : Nxt μ τ H μ' τ' H') (h2 : Nxt μ' τ' H' μ'' τ'' H'') : Nxt μ τ H μ'' τ'' H'' := by
  refine ⟨fun n a e => h2.pre n a (h1.pre n a e), fun a o e hm hn => ?_, fun a ps e => ?_, fun a h => ?_, fun a h => ?_⟩
  · refine h2.keep a o (h1.keep a o e hm hn) (fun z => ?_) hn
    rcases h1.newM a z with z | z
    · exact hm z
    · rw [z] at e; cases e
  · obtain ⟨m1, e1⟩ := h1.tbl a ps e
    obtain ⟨m2, e2⟩ := h2.tbl a _ e1
    exact ⟨m1 ++ m2, by rw [e2, Array.append_assoc]⟩
  · rcases h2.newM a h with z | z
    · exact h1.newM a z
    · exact h1.none_of z
  · rcases h2.newT a h with z | z
    · exact h1.newT a z
    · rcases z with z | z
      · rcases h1.newM a z with z | z
        · exact .inr (.inl z)
        · exact .inr (.inr z)
      · exact .inr (h1.none_of z)
theorem Rd.nxt (h : Nxt μ τ H μ' τ' H') {a : Addr} {u : HO} (hm : a ∉ μ) (r : Rd H a u) (hu : ∀ ps, u ≠ .tbl ps) : Rd H' a u := by
  rcases r with r | ⟨o, r⟩
  · exact .inl (h.keep a _ r hm hu)
  · exact .inr ⟨o, h.keep a _ r hm (fun ps z => by cases z)⟩
theorem Rd_some {H : Hp} {a : Addr} {u : HO} (r : Rd H a u) : H a ≠ none := by
  rcases r with r | ⟨o, r⟩ <;> rw [r] <;> simp
theorem SqT.nxt {K : PySem.W.Frag} (h : Nxt μ τ H μ' τ' H') (hμ : ∀ a ∈ μ, ∃ o, H a = some o ∧ MutO o) {a : Addr} {xs : List V} (r : SqT K H a xs) : SqT K H' a xs := by
  rcases r with r | r
  · refine .inl (Rd.nxt h (fun z => ?_) r (fun ps z => by cases z))
    obtain ⟨o, e, mo⟩ := hμ a z
    rcases r with r | ⟨o', r⟩ <;> rw [r] at e <;> cases e <;> exact mo
  · exact .inr r
theorem not_new (h : Nxt μ τ H μ' τ' H') {a : Addr} (e : H a ≠ none) (h1 : a ∉ μ) (h2 : a ∉ τ) : a ∉ μ' ∧ a ∉ τ' :=
  ⟨fun z => (h.newM a z).elim h1 e, fun z => (h.newT a z).elim h2 fun z => z.elim h1 e⟩
mutual
theorem Rep.nxt (h : Nxt μ τ H μ' τ' H') (hμ : ∀ a ∈ μ, ∃ o, H a = some o ∧ MutO o) : ∀ {d : D} {v : V}, Rep G μ τ H d v → Rep G μ' τ' H' d v
  | .non, _, r => r
  | .bl _, _, r => r
  | .int _, _, r => r
  | .str _, _, r => r
  | .tup ds, v, r => by
    obtain ⟨a, vs, e, q, rs⟩ := r
    exact ⟨a, vs, e, SqT.nxt h hμ q, Reps.nxt h hμ rs⟩
  | .lst ds, v, r => by
    obtain ⟨a, vs, e, q, n1, n2, rs⟩ := r
    obtain ⟨n3, n4⟩ := not_new h (by rw [q]; simp) n1 n2
    exact ⟨a, vs, e, h.keep a _ q n1 (fun ps z => by cases z), n3, n4, Reps.nxt h hμ rs⟩
  | .dic ks ds, v, r => by
    obtain ⟨a, vs, e, q, l, n1, n2, rs⟩ := r
    obtain ⟨n3, n4⟩ := not_new h (by rw [q]; simp) n1 n2
    exact ⟨a, vs, e, h.keep a _ q n1 (fun ps z => by cases z), l, n3, n4, Reps.nxt h hμ rs⟩
  | .ref n, v, r => by
    obtain ⟨a, e, q⟩ := r
    exact ⟨a, e, h.pre n a q⟩
  | .fn, v, r => r
  | .scr ns, v, r => by
    obtain ⟨a, e, ⟨q, n1, n2⟩ | q⟩ := r
    · obtain ⟨n3, n4⟩ := not_new h (Rd_some q) n1 n2
      exact ⟨a, e, .inl ⟨Rd.nxt h n1 q (fun ps z => by cases z), n3, n4⟩⟩
    · exact ⟨a, e, .inr q⟩
theorem Reps.nxt (h : Nxt μ τ H μ' τ' H') (hμ : ∀ a ∈ μ, ∃ o, H a = some o ∧ MutO o) : ∀ {ds : List D} {vs : List V}, Reps G μ τ H ds vs → Reps G μ' τ' H' ds vs
  | [], _, r => r
  | d :: ds, vs, r => by
    obtain ⟨v, r', e, q, rs⟩ := r
    exact ⟨v, r', e, Rep.nxt h hμ q, Reps.nxt h hμ rs⟩
end
theorem Rep.next (h : Nxt μ τ H μ' τ' H') (g : Good G μ τ m H) {d : D} {v : V} (r : Rep G μ τ H d v) : Rep G μ' τ' H' d v := Rep.nxt h (fun _ => g.mut) r
theorem Reps.next (h : Nxt μ τ H μ' τ' H') (g : Good G μ τ m H) {d : List D} {v : List V} (r : Reps G μ τ H d v) : Reps G μ' τ' H' d v := Reps.nxt h (fun _ => g.mut) r

/-! ### rows -/
theorem Reps.length : ∀ {ds : List D} {vs : List V}, Reps G μ τ H ds vs → vs.length = ds.length
  | [], _, r => by cases (show _ = [] from r); rfl
  | d :: ds, vs, r => by
    obtain ⟨v, r', rfl, q, rs⟩ := r
    simp [Reps.length rs]
theorem Reps.get : ∀ {ds : List D} {vs : List V} {i : Nat} {d : D}, Reps G μ τ H ds vs → ds[i]? = some d → ∃ v, vs[i]? = some v ∧ Rep G μ τ H d v
  | d :: ds, _, 0, _, r, e => by
    obtain ⟨v, r', rfl, q, rs⟩ := r
    simp at e; subst e
    exact ⟨v, rfl, q⟩
  | d :: ds, _, i + 1, _, r, e => by
    obtain ⟨v, r', rfl, q, rs⟩ := r
    obtain ⟨w, h1, h2⟩ := Reps.get (i := i) rs (by simpa using e)
    exact ⟨w, by simpa using h1, h2⟩
theorem Reps.getV : ∀ {ds : List D} {vs : List V} {i : Nat} {v : V}, Reps G μ τ H ds vs → vs[i]? = some v → ∃ d, ds[i]? = some d ∧ Rep G μ τ H d v := fun {ds vs i v} r e => by
  have hl := r.length
  have hi := (List.getElem?_eq_some_iff.mp e).1
  have hd : i < ds.length := by omega
  obtain ⟨w, h1, h2⟩ := r.get (i := i) (d := ds[i]) (by simp [hd])
  rw [e] at h1; cases h1
  exact ⟨_, by simp [hd], h2⟩
theorem Reps.cons {d : D} {v : V} {ds : List D} {vs : List V} (q : Rep G μ τ H d v) (r : Reps G μ τ H ds vs) : Reps G μ τ H (d :: ds) (v :: vs) := ⟨v, vs, rfl, q, r⟩
theorem Reps.nil : Reps G μ τ H [] [] := rfl
theorem Reps.append : ∀ {ds es : List D} {vs ws : List V}, Reps G μ τ H ds vs → Reps G μ τ H es ws → Reps G μ τ H (ds ++ es) (vs ++ ws)
  | [], _, _, _, r, s => by cases (show _ = [] from r); exact s
  | d :: ds, es, vs, ws, r, s => by
    obtain ⟨v, r', rfl, q, rs⟩ := r
    exact ⟨v, r' ++ ws, rfl, q, Reps.append rs s⟩
theorem Reps.take : ∀ {ds : List D} {vs : List V} (n : Nat), Reps G μ τ H ds vs → Reps G μ τ H (ds.take n) (vs.take n)
  | _, _, 0, _ => rfl
  | [], _, n + 1, r => by cases (show _ = [] from r); rfl
  | d :: ds, _, n + 1, r => by
    obtain ⟨v, r', rfl, q, rs⟩ := r
    exact ⟨v, r'.take n, rfl, q, Reps.take n rs⟩
theorem Reps.drop : ∀ {ds : List D} {vs : List V} (n : Nat), Reps G μ τ H ds vs → Reps G μ τ H (ds.drop n) (vs.drop n)
  | _, _, 0, r => r
  | [], _, n + 1, r => by cases (show _ = [] from r); rfl
  | d :: ds, _, n + 1, r => by
    obtain ⟨v, r', rfl, q, rs⟩ := r
    exact Reps.drop n rs
theorem Reps.set {d : D} {v : V} (q : Rep G μ τ H d v) : ∀ {ds : List D} {vs : List V} (n : Nat), Reps G μ τ H ds vs → Reps G μ τ H (ds.set n d) (vs.set n v)
  | [], _, _, r => by cases (show _ = [] from r); rfl
  | e :: ds, _, 0, r => by
    obtain ⟨w, r', rfl, p, rs⟩ := r
    exact ⟨v, r', rfl, q, rs⟩
  | e :: ds, _, n + 1, r => by
    obtain ⟨w, r', rfl, p, rs⟩ := r
    exact ⟨w, r'.set n v, rfl, p, Reps.set q n rs⟩
theorem Reps.reverse : ∀ {ds : List D} {vs : List V}, Reps G μ τ H ds vs → Reps G μ τ H ds.reverse vs.reverse
  | [], _, r => by cases (show _ = [] from r); rfl
  | d :: ds, _, r => by
    obtain ⟨v, r', rfl, q, rs⟩ := r
    rw [List.reverse_cons, List.reverse_cons]
    exact (Reps.reverse rs).append (.cons q .nil)

/-! ### the tracked cells change, new ones come -/
theorem Nxt.write {n : Nat} {a : Addr} {o : HO} (g : Good G μ τ m H) (hn : μ[n]? = some a) : Nxt μ τ H μ τ (upd H a o) := by
  have hm : a ∈ μ := List.mem_of_getElem? hn
  refine ⟨fun _ _ h => h, fun b u e hb _ => ?_, fun b ps e => ⟨#[], ?_⟩, fun _ h => .inl h, fun _ h => .inl h⟩
  · rw [upd_ne (fun (z : b = a) => hb (z ▸ hm))]; exact e
  · obtain ⟨u, e', mo⟩ := g.mut hm
    rw [upd_ne (fun z => by subst z; rw [e] at e'; cases e'; exact mo)]
    simpa using e
theorem CellRep.nxt (h : Nxt μ τ H μ' τ' H') (hμ : ∀ a ∈ μ, ∃ o, H a = some o ∧ MutO o) {a : Addr} {c : Cell} (e : H' a = H a) (r : CellRep G μ τ H a c) : CellRep G μ' τ' H' a c := by
  cases c with
  | lst ds => obtain ⟨vs, h1, h2⟩ := r; exact ⟨vs, e.trans h1, h2.nxt h hμ⟩
  | dic ks ds => obtain ⟨vs, h1, h2, h3⟩ := r; exact ⟨vs, e.trans h1, h2, h3.nxt h hμ⟩
  | ins c ns ds => obtain ⟨dx, vs, h1, h2, h3⟩ := r; exact ⟨dx, vs, e.trans h1, h2, h3.nxt h hμ⟩
theorem Good.write {n : Nat} {a : Addr} {o : HO} {c : Cell} (g : Good G μ τ m H) (hn : μ[n]? = some a) (hc : CellRep G μ τ (upd H a o) a c) : Good G μ τ (m.set n c) (upd H a o) := by
  have nx : Nxt μ τ H μ τ (upd H a o) := Nxt.write g hn
  have hm : a ∈ μ := List.mem_of_getElem? hn
  refine ⟨by simpa using g.len, fun k c' b e1 e2 => ?_, g.nodup, fun b hb => ⟨(g.dis b hb).1, ?_⟩⟩
  · by_cases hk : k = n
    · subst hk
      rw [hn] at e2; cases e2
      have hlt : k < m.length := by rw [← g.len]; exact (List.getElem?_eq_some_iff.mp hn).1
      rw [List.getElem?_set_self hlt] at e1; cases e1
      exact hc
    · rw [List.getElem?_set_ne (fun z => hk z.symm)] at e1
      have hb : b ≠ a := fun z => by
        subst z
        obtain ⟨h1, e1'⟩ := List.getElem?_eq_some_iff.mp e2
        obtain ⟨h2, e2'⟩ := List.getElem?_eq_some_iff.mp hn
        exact hk ((List.getElem_inj g.nodup).mp (e1'.trans e2'.symm))
      exact (g.cell k c' b e1 e2).nxt nx (fun _ => g.mut) (upd_ne hb)
  · rw [upd_ne (fun (z : b = a) => (g.dis b hb).1 (z ▸ hm))]
    exact (g.dis b hb).2
/-- a reserved object is let go -/
theorem Nxt.free {p : Addr} (h : Nxt μ τ H μ' (p :: τ) H') : Nxt μ τ H μ' τ H' := ⟨h.pre, h.keep, h.tbl, h.newM, fun a z => .inl z⟩
theorem Good.free {p : Addr} (g : Good G μ (p :: τ) m H) : Good G μ τ m H := by
  have nx : Nxt μ (p :: τ) H μ τ H := ⟨fun _ _ h => h, fun _ _ h _ _ => h, fun a ps h => ⟨#[], by simpa using h⟩, fun _ h => .inl h, fun _ h => .inl (List.mem_cons_of_mem _ h)⟩
  exact ⟨g.len, fun n c a e1 e2 => (g.cell n c a e1 e2).nxt nx (fun _ => g.mut) rfl, g.nodup, fun a h => g.dis a (List.mem_cons_of_mem _ h)⟩
theorem Reps.free {p : Addr} {ds : List D} {vs : List V} (g : Good G μ (p :: τ) m H) (r : Reps G μ (p :: τ) H ds vs) : Reps G μ τ H ds vs :=
  r.nxt (⟨fun _ _ h => h, fun _ _ h _ _ => h, fun a ps h => ⟨#[], by simpa using h⟩, fun _ h => .inl h, fun _ h => .inl (List.mem_cons_of_mem _ h)⟩ : Nxt μ (p :: τ) H μ τ H) (fun _ => g.mut)
/-- a reserved object becomes a tracked cell -/
theorem pre_snoc {p : Addr} {n : Nat} {a : Addr} (h : μ[n]? = some a) : (μ ++ [p])[n]? = some a := by
  rw [List.getElem?_append_left (List.getElem?_eq_some_iff.mp h).1]; exact h
mutual
theorem Rep.track {p : Addr} : ∀ {d : D} {v : V}, Rep G μ (p :: τ) H d v → Rep G (μ ++ [p]) τ H d v
  | .non, _, r => r
  | .bl _, _, r => r
  | .int _, _, r => r
  | .str _, _, r => r
  | .tup ds, v, r => by
    obtain ⟨a, vs, e, q, rs⟩ := r
    exact ⟨a, vs, e, q, Reps.track rs⟩
  | .lst ds, v, r => by
    obtain ⟨a, vs, e, q, n1, n2, rs⟩ := r
    exact ⟨a, vs, e, q, by simp only [List.mem_cons, not_or] at n2; simp only [List.mem_append, List.mem_singleton, not_or]; exact ⟨n1, n2.1⟩, fun z => n2 (List.mem_cons_of_mem _ z), Reps.track rs⟩
  | .dic ks ds, v, r => by
    obtain ⟨a, vs, e, q, l, n1, n2, rs⟩ := r
    exact ⟨a, vs, e, q, l, by simp only [List.mem_cons, not_or] at n2; simp only [List.mem_append, List.mem_singleton, not_or]; exact ⟨n1, n2.1⟩, fun z => n2 (List.mem_cons_of_mem _ z), Reps.track rs⟩
  | .ref n, v, r => by
    obtain ⟨a, e, q⟩ := r
    exact ⟨a, e, pre_snoc q⟩
  | .fn, v, r => r
  | .scr ns, v, r => by
    obtain ⟨a, e, ⟨q, n1, n2⟩ | q⟩ := r
    · exact ⟨a, e, .inl ⟨q, by simp only [List.mem_cons, not_or] at n2; simp only [List.mem_append, List.mem_singleton, not_or]; exact ⟨n1, n2.1⟩, fun z => n2 (List.mem_cons_of_mem _ z)⟩⟩
    · exact ⟨a, e, .inr q⟩
theorem Reps.track {p : Addr} : ∀ {ds : List D} {vs : List V}, Reps G μ (p :: τ) H ds vs → Reps G (μ ++ [p]) τ H ds vs
  | [], _, r => r
  | d :: ds, vs, r => by
    obtain ⟨v, r', e, q, rs⟩ := r
    exact ⟨v, r', e, Rep.track q, Reps.track rs⟩
end
theorem CellRep.track {p : Addr} {a : Addr} {c : Cell} (r : CellRep G μ (p :: τ) H a c) : CellRep G (μ ++ [p]) τ H a c := by
  cases c with
  | lst ds => obtain ⟨vs, h1, h2⟩ := r; exact ⟨vs, h1, h2.track⟩
  | dic ks ds => obtain ⟨vs, h1, h2, h3⟩ := r; exact ⟨vs, h1, h2, h3.track⟩
  | ins c ns ds => obtain ⟨dx, vs, h1, h2, h3⟩ := r; exact ⟨dx, vs, h1, h2, h3.track⟩
theorem Nxt.track {p : Addr} (h : Nxt μ τ H μ' (p :: τ) H') (hp : H p = none) : Nxt μ τ H (μ' ++ [p]) τ H' := by
  refine ⟨fun n a e => pre_snoc (h.pre n a e), h.keep, h.tbl, fun a z => ?_, fun a z => .inl z⟩
  rcases List.mem_append.mp z with z | z
  · exact h.newM a z
  · rw [List.mem_singleton] at z
    rw [z]; exact .inr hp
theorem Good.track {p : Addr} {c : Cell} (g : Good G μ (p :: τ) m H) (hc : CellRep G μ (p :: τ) H p c) (hp : p ∉ τ) : Good G (μ ++ [p]) τ (m ++ [c]) H := by
  have hpm : p ∉ μ := (g.dis p List.mem_cons_self).1
  refine ⟨by simp [g.len], fun n c' a e1 e2 => ?_, ?_, fun a ha => ⟨?_, (g.dis a (List.mem_cons_of_mem _ ha)).2⟩⟩
  · by_cases hn : n < m.length
    · rw [List.getElem?_append_left hn] at e1
      rw [List.getElem?_append_left (by rw [g.len]; exact hn)] at e2
      exact (g.cell n c' a e1 e2).track
    · have hn' : n = m.length := by
        have := (List.getElem?_eq_some_iff.mp e1).1
        simp at this; omega
      subst hn'
      rw [List.getElem?_append_right (Nat.le_refl _)] at e1
      rw [List.getElem?_append_right (by rw [g.len]; exact Nat.le_refl _)] at e2
      simp [g.len] at e1 e2
      subst e1; subst e2
      exact hc.track
  · rw [List.nodup_append]
    refine ⟨g.nodup, by simp, fun a ha b hb => ?_⟩
    rw [List.mem_singleton] at hb
    subst hb
    exact fun z => hpm (z ▸ ha)
  · rw [List.mem_append, List.mem_singleton, not_or]
    exact ⟨(g.dis a (List.mem_cons_of_mem _ ha)).1, fun z => hp (z ▸ ha)⟩
/-- a new object is laid: reserved at first -/
theorem Nxt.laid {p : Addr} {o : HO} (hp : H p = none) : Nxt μ τ H μ (p :: τ) (upd H p o) := by
  refine ⟨fun _ _ h => h, fun b u e hb _ => ?_, fun b ps e => ⟨#[], ?_⟩, fun _ h => .inl h, fun a h => ?_⟩
  · rw [upd_ne (ne_of_none e hp)]; exact e
  · rw [upd_ne (ne_of_none e hp)]; simpa using e
  · rcases List.mem_cons.mp h with rfl | h
    · exact .inr (.inr hp)
    · exact .inl h
theorem Good.laid {p : Addr} {o : HO} (g : Good G μ τ m H) (hp : H p = none) : Good G μ (p :: τ) m (upd H p o) := by
  have nx : Nxt μ τ H μ (p :: τ) (upd H p o) := Nxt.laid hp
  have ne : ∀ a ∈ μ, a ≠ p := fun a ha => by
    obtain ⟨u, e, _⟩ := g.mut ha
    exact ne_of_none e hp
  refine ⟨g.len, fun n c a e1 e2 => (g.cell n c a e1 e2).nxt nx (fun _ => g.mut) (upd_ne (ne a (List.mem_of_getElem? e2))), g.nodup, fun a ha => ?_⟩
  rcases List.mem_cons.mp ha with rfl | ha
  · exact ⟨fun z => ne a z rfl, by rw [upd_same]; simp⟩
  · refine ⟨(g.dis a ha).1, ?_⟩
    have q := (g.dis a ha).2
    rw [upd_ne (fun (z : a = p) => q (z ▸ hp))]
    exact q
/-- the reserved object is written -/
theorem Nxt.rewrite {p : Addr} {o : HO} {u : HO} (hp : p ∈ τ) (h0 : H p = some u) (hu : ∀ ps, u ≠ .tbl ps) (hq : Nxt μ₀ τ₀ H₀ μ τ H) (hn : H₀ p = none) : Nxt μ₀ τ₀ H₀ μ τ (upd H p o) := by
  refine ⟨hq.pre, fun b w e hb ht => ?_, fun b ps e => ?_, hq.newM, hq.newT⟩
  · rw [upd_ne (ne_of_none e hn)]; exact hq.keep b w e hb ht
  · rw [upd_ne (ne_of_none e hn)]; exact hq.tbl b ps e
end
end EV

/-! A small language: its trees (Ex, St), what they come to (evE, exS, callAt). -/
namespace EV
open PySem PySem.Spec PyProof.Rows L2

/-! ### results -/
inductive R (α : Type) where
  | ok (a : α) (m : Mem) | ex (x : Nat) (p : Option D) (m : Mem) | bad
def R.bind {α β : Type} (r : R α) (k : α → Mem → R β) : R β :=
  match r with
  | .ok a m => k a m
  | .ex x p m => .ex x p m
  | .bad => .bad
@[simp] theorem R.bind_ok {α β : Type} (a : α) (m : Mem) (k : α → Mem → R β) : (R.ok a m).bind k = k a m := rfl
@[simp] theorem R.bind_ex {α β : Type} (x : Nat) (p : Option D) (m : Mem) (k : α → Mem → R β) : (R.ex x p m : R α).bind k = .ex x p m := rfl
@[simp] theorem R.bind_bad {α β : Type} (k : α → Mem → R β) : (R.bad : R α).bind k = .bad := rfl
/-- a value, or none such -/
def R.of {α : Type} (o : Option α) (m : Mem) : R α := match o with
  | some a => .ok a m
  | none => .bad
@[simp] theorem R.of_some {α : Type} (a : α) (m : Mem) : R.of (some a) m = .ok a m := rfl
@[simp] theorem R.of_none {α : Type} (m : Mem) : (R.of (none : Option α) m) = .bad := rfl

/-! ### data -/
/-- the longest row that is let -/
def lim : Nat := 16777216
mutual
def pd : D → PyData
  | .non => .none
  | .bl b => .bool b
  | .int i => .int i
  | .str x => .str x
  | .tup ds => .tuple (pds ds)
  | .lst ds => .list (pds ds)
  | .dic _ _ => .none
  | .ref _ => .none
  | .fn => .none
  | .scr _ => .none
def pds : List D → List PyData
  | [] => []
  | d :: ds => pd d :: pds ds
end
/-- data alone, nested n deep at most -/
def plain : Nat → D → Bool
  | _, .non => true
  | _, .bl _ => true
  | _, .int _ => true
  | _, .str _ => true
  | n + 1, .tup ds => ds.all (plain n)
  | n + 1, .lst ds => ds.all (plain n)
  | _, _ => false
/-- a list, told by itself or a cell of the memory -/
def lstOf (m : Mem) : D → Option (List D)
  | .lst xs => some xs
  | .ref n => match m[n]? with
    | some (.lst xs) => some xs
    | _ => none
  | _ => none
def seqOf (m : Mem) : D → Option (List D)
  | .tup xs => some xs
  | d => lstOf m d
def dicOf (m : Mem) : D → Option (List Key × List D)
  | .dic ks xs => some (ks, xs)
  | .ref n => match m[n]? with
    | some (.dic ks xs) => some (ks, xs)
    | _ => none
  | _ => none
/-- a cell's list is told by itself -/
def res (m : Mem) (d : D) : D := match d with
  | .ref n => match m[n]? with
    | some (.lst xs) => .lst xs
    | _ => d
  | _ => d
def keyD : D → Option Key
  | .int i => some (.inl i)
  | .str x => some (.inr x)
  | _ => none
def keyOf : Key → D
  | .inl i => .int i
  | .inr x => .str x
/-- what stands under a key -/
def dget : List Key → List D → Key → Option D
  | k :: ks, x :: xs, q => if k = q then some x else dget ks xs q
  | _, _, _ => none
/-- whether a key is there -/
def kin (ks : List Key) (q : Key) : Bool := ks.any fun k => decide (k = q)
/-- a key's value stored -/
def dputK (ks : List Key) (q : Key) : List Key := if kin ks q then ks else ks ++ [q]
def dsetX {α : Type} : List Key → List α → Key → α → List α
  | k :: ks, x :: xs, q, y => (if k = q then y else x) :: dsetX ks xs q y
  | _, xs, _, _ => xs
def dputX {α : Type} (ks : List Key) (xs : List α) (q : Key) (y : α) : List α := if kin ks q then dsetX ks xs q y else xs ++ [y]
def isB : D → Option Bool
  | .bl b => some b
  | _ => none
def isI : D → Option Int
  | .int i => some i
  | _ => none
def isS : D → Option Str
  | .str x => some x
  | _ => none
/-- all of a kind -/
def allOf {α : Type} (f : D → Option α) : List D → Option (List α)
  | [] => some []
  | d :: ds => match f d with
    | some a => match allOf f ds with
      | some r => some (a :: r)
      | none => none
    | none => none

/-! ### operators -/
def mulOk (i j : Int) : Bool := decide ((-(2 ^ 64) < i ∧ i < 2 ^ 64) ∨ (-(2 ^ 64) < j ∧ j < 2 ^ 64))
def addD (d e : D) (m : Mem) : R D := match d, e with
  | .int i, .int j => .ok (.int (i + j)) m
  | .str x, .str y => if x.length + y.length ≤ lim then .ok (.str (x ++ y)) m else .bad
  | .tup xs, .tup ys => if xs ≠ [] ∧ xs.length + ys.length ≤ lim then .ok (.tup (xs ++ ys)) m else .bad
  | d, e => match lstOf m d, lstOf m e with
    | some xs, some ys => if xs.length + ys.length ≤ lim then .ok (.lst (xs ++ ys)) m else .bad
    | _, _ => .bad
def mulD (d e : D) (m : Mem) : R D := match d, e with
  | .int i, .int j => if mulOk i j then .ok (.int (i * j)) m else .bad
  | d, .int k => match lstOf m d with
    | some xs => if xs.length * k.toNat ≤ lim ∧ -(2 ^ 63) ≤ k ∧ k < 2 ^ 63 then .ok (.lst (List.replicate k.toNat xs).flatten) m else .bad
    | none => .bad
  | _, _ => .bad
def binD (op : Operator) (d e : D) (m : Mem) : R D := match op with
  | .Add => addD d e m
  | .Mult => mulD d e m
  | .Sub => match d, e with
    | .int i, .int j => .ok (.int (i - j)) m
    | _, _ => .bad
  | .FloorDiv => match d, e with
    | .int i, .int j => if j ≠ 0 ∧ j.natAbs < 1073741824 then .ok (.int (i.fdiv j)) m else .bad
    | _, _ => .bad
  | .Mod => match d, e with
    | .int i, .int j => if j ≠ 0 then .ok (.int (i.fmod j)) m else .bad
    | _, _ => .bad
  | .Pow => match d, e with
    | .int i, .int j => if 0 ≤ j ∧ j ≤ 1000000 ∧ i.natAbs < 2 ^ 64 then .ok (.int (i ^ j.toNat)) m else .bad
    | _, _ => .bad
  | _ => .bad
def eqD (m : Mem) (d e : D) : Option Bool :=
  if plain 60 (res m d) && plain 60 (res m e) then some (PyData.eqv (pd (res m d)) (pd (res m e))) else none
def ltD (d e : D) : Option Bool := match d, e with
  | .int i, .int j => some (decide (i < j))
  | .str x, .str y => some (decide (x.cps.toList < y.cps.toList))
  | .tup xs, e => if plain 60 (.tup xs) && plain 60 e && PySem.W.alike (pd (.tup xs)) (pd e) then some (PySem.W.dataLt (pd (.tup xs)) (pd e)) else none
  | _, _ => none
def inD (m : Mem) (d e : D) : Option Bool := match e with
  | .str z => match d with
    | .str x => if x.length = 1 then some (decide (x.cps.getD 0 0 ∈ z.cps.toList)) else none
    | _ => none
  | e => match seqOf m e with
    | some xs => if plain 50 (res m d) && xs.all (plain 50) then some (xs.any fun y => PyData.eqv (pd y) (pd (res m d))) else none
    | none => match dicOf m e with
      | some (ks, _) => match keyD d with
        | some q => some (kin ks q)
        | none => none
      | none => none
def cmpD (op : CmpOp) (d e : D) (m : Mem) : Option Bool := match op with
  | .Eq => eqD m d e
  | .NotEq => (eqD m d e).map (!·)
  | .Lt => ltD d e
  | .Gt => match d, e with
    | .int i, .int j => some (decide (j < i))
    | _, _ => none
  | .LtE => match d, e with
    | .int i, .int j => some (decide (i ≤ j))
    | _, _ => none
  | .GtE => match d, e with
    | .int i, .int j => some (decide (j ≤ i))
    | _, _ => none
  | .Is => match e with
    | .non => some (match d with | .non => true | _ => false)
    | .bl b => match d with
      | .bl c => some (b == c)
      | _ => none
    | _ => none
  | .IsNot => match e with
    | .non => some (match d with | .non => false | _ => true)
    | _ => none
  | .In => inD m d e
  | .NotIn => (inD m d e).map (!·)
/-- d[i] -/
def idxD (d i : D) (m : Mem) : Option D := match d with
  | .str z => match i with
    | .int k => if z.length ≤ lim then (atI z.cps.toList k).map fun c => .str ⟨#[c]⟩ else none
    | _ => none
  | d => match seqOf m d with
    | some xs => match i with
      | .int k => atI xs k
      | _ => none
    | none => match dicOf m d with
      | some p => match keyD i with
        | some q => dget p.1 p.2 q
        | none => none
      | none => none
def cutD {α : Type} (xs : List α) (lo hi : Option Int) : List α := (xs.drop (HT.sIx xs.length 0 lo)).take (HT.sIx xs.length xs.length hi - HT.sIx xs.length 0 lo)
/-- d[lo:hi] -/
def slcD (d : D) (lo hi : Option Int) (m : Mem) : Option D := match d with
  | .scr ns => some (.lst ((cutD ns lo hi).map .int))
  | .str z => if z.length ≤ lim then some (.str (cutS z lo hi)) else none
  | .tup xs => if HT.sIx xs.length 0 lo = 0 ∧ HT.sIx xs.length xs.length hi = xs.length then none else some (.tup (cutD xs lo hi))
  | d => (lstOf m d).map fun xs => .lst (cutD xs lo hi)
/-- d[::-1] -/
def revD (d : D) (m : Mem) : Option D := (lstOf m d).map fun xs => .lst xs.reverse

/-! ### isinstance -/
inductive Ty where | int | bool | str | tuple | list | dict
deriving DecidableEq
def tyOf (m : Mem) : D → Option Ty
  | .bl _ => some .bool
  | .int _ => some .int
  | .str _ => some .str
  | .tup _ => some .tuple
  | .lst _ => some .list
  | .dic _ _ => some .dict
  | .ref n => match m[n]? with
    | some (.lst _) => some .list
    | some (.dic _ _) => some .dict
    | _ => none
  | _ => none
def isTy (t : Option Ty) (c : Ty) : Bool := match t, c with
  | some .bool, .int => true
  | some t, c => decide (t = c)
  | none, _ => false
/-- isinstance(d, ts) -/
def isiD (m : Mem) (d : D) (ts : List Ty) : Option Bool := match d with
  | .fn => none
  | .scr _ => none
  | .ref n => match m[n]? with
    | some (.ins _ _ _) => none
    | none => none
    | _ => some (ts.any (isTy (tyOf m d)))
  | d => some (ts.any (isTy (tyOf m d)))

/-! ### built-in functions and methods -/
inductive Bi where
  | len | all | any | sum | abs | int | str | repr | sorted | tuple | list | min | max | ord | sortedItems
deriving DecidableEq
inductive Bm where
  | append | extend | pop | popAt | join | get2 | get1
deriving DecidableEq
def alikes (xs : List D) : Bool := xs.all fun x => xs.all fun y => PySem.W.alike (pd x) (pd y)
/-- what can be sorted -/
def canSort (xs : List D) : Bool := xs.all (plain 50) && alikes xs &&
  (xs.all (fun x => match x with | .tup (_ :: _) => true | _ => false) || xs.all fun x => match x with | .int _ => true | .str _ => true | _ => false)
def srt (xs : List D) : List D := xs.mergeSort fun a b => PySem.W.dataLe false pd a b
def sortD (xs : List D) : Option D := if canSort xs then some (.lst (srt xs)) else none
def rotI (i : Int) : Option D := if i.natAbs.log2 < 1920 then some (.str (toString i)) else none
def pairsOf (ks : List Key) (xs : List D) : List D := (ks.zip xs).map fun p => .tup [keyOf p.1, p.2]
def foldMax : Int → List Int → Int
  | a, [] => a
  | a, b :: r => foldMax (if b > a then b else a) r
def foldMin : Int → List Int → Int
  | a, [] => a
  | a, b :: r => foldMin (if b < a then b else a) r
def extD (isMax : Bool) (xs : List D) : Option D := match allOf isI xs with
  | some (a :: r) => some (.int (if isMax then foldMax a r else foldMin a r))
  | _ => none
def lenD (as : List D) (m : Mem) : R D := match as with
  | [.str x] => if x.length ≤ lim then .ok (.int x.length) m else .bad
  | [.scr ns] => .ok (.int ns.length) m
  | [d] => match seqOf m d with
    | some xs => .ok (.int xs.length) m
    | none => match dicOf m d with
      | some p => .ok (.int p.1.length) m
      | none => .bad
  | _ => .bad
def allD (as : List D) (m : Mem) : R D := match as with
  | [d] => match (lstOf m d).bind (allOf isB) with
    | some bs => .ok (.bl (bs.all id)) m
    | none => .bad
  | _ => .bad
def anyD (as : List D) (m : Mem) : R D := match as with
  | [d] => match (lstOf m d).bind (allOf isB) with
    | some bs => .ok (.bl (bs.any id)) m
    | none => .bad
  | _ => .bad
def sumD (as : List D) (m : Mem) : R D := match as with
  | [d] => match (lstOf m d).bind (allOf isI) with
    | some ns => .ok (.int ns.sum) m
    | none => .bad
  | _ => .bad
def absD (as : List D) (m : Mem) : R D := match as with
  | [.int i] => .ok (.int (if i < 0 then -i else i)) m
  | _ => .bad
def intD (as : List D) (m : Mem) : R D := match as with
  | [.int i] => .ok (.int i) m
  | [.bl b] => .ok (.int (if b then 1 else 0)) m
  | _ => .bad
def strD (as : List D) (m : Mem) : R D := match as with
  | [.int i] => R.of (rotI i) m
  | [.str x] => .ok (.str x) m
  | _ => .bad
def reprD (as : List D) (m : Mem) : R D := match as with
  | [.int i] => R.of (rotI i) m
  | [.bl b] => .ok (.str (if b then "True" else "False")) m
  | [.non] => .ok (.str "None") m
  | [.str x] => if (reprText x).length ≤ lim ∧ sOk (reprText x) = true then .ok (.str (reprText x)) m else .bad
  | _ => .bad
def sortedD (as : List D) (m : Mem) : R D := match as with
  | [d] => match lstOf m d with
    | some xs => R.of (sortD xs) m
    | none => .bad
  | _ => .bad
/-- keys are sound, values whole numbers -/
def itmOk (ks : List Key) (xs : List D) : Bool := (ks.all fun q => match q with | .inl _ => true | .inr x => sOk x) && xs.all fun d => match d with | .int _ => true | _ => false
def sortedItemsD (as : List D) (m : Mem) : R D := match as with
  | [d] => match dicOf m d with
    | some p => if itmOk p.1 p.2 then R.of (sortD (pairsOf p.1 p.2)) m else .bad
    | none => .bad
  | _ => .bad
def tupleD (as : List D) (m : Mem) : R D := match as with
  | [d] => match seqOf m d with
    | some xs => .ok (.tup xs) m
    | none => .bad
  | _ => .bad
def listD (as : List D) (m : Mem) : R D := match as with
  | [d] => match seqOf m d with
    | some xs => .ok (.lst xs) m
    | none => .bad
  | _ => .bad
def maxD (as : List D) (m : Mem) : R D := match as with
  | [.int i, .int j] => .ok (.int (if j > i then j else i)) m
  | _ => .bad
def minD (as : List D) (m : Mem) : R D := match as with
  | [.int i, .int j] => .ok (.int (if j < i then j else i)) m
  | _ => .bad
def ordD (as : List D) (m : Mem) : R D := match as with
  | [.str x] => if x.length = 1 then .ok (.int (x.cps.getD 0 0 : Nat)) m else .bad
  | _ => .bad
def biD (b : Bi) (as : List D) (m : Mem) : R D := match b with
  | .len => lenD as m
  | .all => allD as m
  | .any => anyD as m
  | .sum => sumD as m
  | .abs => absD as m
  | .int => intD as m
  | .str => strD as m
  | .repr => reprD as m
  | .sorted => sortedD as m
  | .sortedItems => sortedItemsD as m
  | .tuple => tupleD as m
  | .list => listD as m
  | .max => maxD as m
  | .min => minD as m
  | .ord => ordD as m
def appendD (d : D) (as : List D) (m : Mem) : R D := match d, as with
  | .ref n, [y] => match m[n]? with
    | some (.lst xs) => if xs.length < lim then .ok .non (m.set n (.lst (xs ++ [y]))) else .bad
    | _ => .bad
  | _, _ => .bad
def extendD (d : D) (as : List D) (m : Mem) : R D := match d, as with
  | .ref n, [e] => match m[n]? with
    | some (.lst xs) => match lstOf m e with
      | some ys => if xs.length + ys.length ≤ lim then .ok .non (m.set n (.lst (xs ++ ys))) else .bad
      | none => .bad
    | _ => .bad
  | _, _ => .bad
def joinD (d : D) (as : List D) (m : Mem) : R D := match d, as with
  | .str sep, [e] => match (lstOf m e).bind (allOf isS) with
    | some ys => if (ys.map (·.length)).sum + sep.length * ys.length ≤ lim then .ok (.str (Txt.join sep ys)) m else .bad
    | none => .bad
  | _, _ => .bad
/-- of what the method is -/
def tyM (b : Bm) (d : D) (m : Mem) : Bool := match b with
  | .join => match d with
    | .str _ => true
    | _ => false
  | _ => match d with
    | .ref n => match m[n]? with
      | some (.lst _) => true
      | _ => false
    | _ => false
def bmD (b : Bm) (d : D) (as : List D) (m : Mem) : R D := match b with
  | .append => appendD d as m
  | .extend => extendD d as m
  | .join => joinD d as m
  | _ => .bad
/-- o[i] = v -/
def setD (d i v : D) (m : Mem) : Option Mem := match d with
  | .ref n => match m[n]? with
    | some (.lst xs) => match i with
      | .int k => (ixN xs.length k).map fun j => m.set n (.lst (xs.set j v))
      | _ => none
    | some (.dic ks xs) => match keyD i with
      | some q => if ks.length < lim then some (m.set n (.dic (dputK ks q) (dputX ks xs q v))) else none
      | none => none
    | _ => none
  | _ => none
/-- o.f -/
def fget : List Str → List D → Str → Option D
  | k :: ks, x :: xs, q => if k = q then some x else fget ks xs q
  | _, _, _ => none
def fldD (d : D) (f : Str) (m : Mem) : Option D := match d with
  | .ref n => match m[n]? with
    | some (.ins _ ns xs) => fget ns xs f
    | _ => none
  | _ => none

/-! ### the trees -/
mutual
inductive Ex where
  | var (i : Nat) | lit (c : Const) | glo (x : Str) (d : D)
  | bin (op : Operator) (a b : Ex) | neg (a : Ex) | not (a : Ex)
  | cmp (op : CmpOp) (a b : Ex) | cmp2 (o1 o2 : CmpOp) (a b c : Ex)
  | and (a b : Ex) | or (a b : Ex) | ife (c a b : Ex)
  | tup (es : Exs) | lst (es : Exs) | dsp (ks : Kvs)
  | lcp (own : List (Str × Nat)) (t : Tg) (it : It) (c : Cd) (e : Ex)
  | idx (a b : Ex) | slc (a : Ex) (lo hi : Op) | rev (a : Ex)
  | fld (a : Ex) (f : Str)
  | call (f : Nat) (es : Exs) | cal0
  | bi (b : Bi) (es : Exs) | itm (a : Ex) | bm (b : Bm) (a : Ex) (es : Exs)
  | isi (a : Ex) (ts : List Ty)
  | alc (a : Ex)
inductive Exs where
  | nil | cons (e : Ex) (es : Exs)
inductive Kvs where
  | nil | cons (k v : Ex) (r : Kvs)
inductive Op where
  | no | yes (e : Ex)
inductive Cd where
  | no | yes (e : Ex)
inductive It where
  | ex (e : Ex) | rng1 (a : Ex) | rng2 (a b : Ex) | zip (a b : Ex) | enm (a : Ex)
inductive Tg where
  | nm (i : Nat) | tp (ts : Tgs)
inductive Tgs where
  | nil | cons (t : Tg) (ts : Tgs)
end
abbrev Rho := List (Option D)
def wipeR (ρ : Rho) : List Nat → Rho
  | [] => ρ
  | v :: vs => (wipeR ρ vs).set v none
/-- the turns of a loop over a value -/
def itsD (m : Mem) : D → Option (List D)
  | .str x => some (x.cps.toList.map fun c => .str ⟨#[c]⟩)
  | d => seqOf m d
def rngD (lo hi : Int) : Option (List D) :=
  if -(2 ^ 62) ≤ lo ∧ lo < 2 ^ 62 ∧ -(2 ^ 62) ≤ hi ∧ hi < 2 ^ 62 then some ((List.range (hi - lo).toNat).map fun (i : Nat) => D.int (lo + (i : Int))) else none
mutual
/-- a target's names get a value -/
def tgD : Tg → D → Rho → Option Rho
  | .nm i, d, ρ => if i < ρ.length then some (ρ.set i (some d)) else none
  | .tp ts, d, ρ => match d with
    | .tup xs => tgsD ts xs ρ
    | _ => none
def tgsD : Tgs → List D → Rho → Option Rho
  | .nil, [], ρ => some ρ
  | .cons t ts, x :: xs, ρ => match tgD t x ρ with
    | some ρ' => tgsD ts xs ρ'
    | none => none
  | _, _, _ => none
end
def zipD (d e : D) : Option (List D) := match d, e with
  | .tup xs, .tup ys => some ((xs.zip ys).map fun p => .tup [p.1, p.2])
  | .lst xs, .lst ys => some ((xs.zip ys).map fun p => .tup [p.1, p.2])
  | _, _ => none
def enmD (d : D) : Option (List D) := match d with
  | .lst xs => some ((xs.zipIdx).map fun p => .tup [.int p.2, p.1])
  | _ => none
/-- a walked cell stays as it is -/
def ckD (q : Option (Nat × List D)) (m : Mem) : Bool := match q with
  | none => true
  | some (n, xs) => decide (m[n]? = some (.lst xs))
/-- a comprehension's turns -/
def lcpL (q : Option (Nat × List D)) (tg : D → Rho → Option Rho) (cd : Rho → Mem → R Bool) (el : Rho → Mem → R D) (ρ : Rho) : List D → List D → Mem → R D
  | [], acc, m => if ckD q m then .ok (.lst acc) m else .bad
  | d :: ds, acc, m => if ckD q m then match tg d ρ with
    | none => .bad
    | some ρ' => (cd ρ' m).bind fun b m1 => if b then (el ρ' m1).bind fun y m2 => lcpL q tg cd el ρ ds (acc ++ [y]) m2 else lcpL q tg cd el ρ ds acc m1
    else .bad
/-- a truth value -/
def tst (r : R D) : R Bool := r.bind fun d m => match d with
  | .bl b => .ok b m
  | _ => .bad
@[simp] theorem tst_ok (b : Bool) (m : Mem) : tst (.ok (.bl b) m) = .ok b m := rfl
@[simp] theorem tst_ex (x : Nat) (p : Option D) (m : Mem) : tst (.ex x p m) = .ex x p m := rfl
@[simp] theorem tst_bad : tst .bad = .bad := rfl
def bothD {α : Type} (r : R D) (k : Bool → Mem → R α) : R α := (tst r).bind k
@[simp] theorem bothD_ok {α : Type} (b : Bool) (m : Mem) (k : Bool → Mem → R α) : bothD (.ok (.bl b) m) k = k b m := rfl
/-- a new cell -/
def alcD (d : D) (m : Mem) : R D := match d with
  | .lst xs => .ok (.ref m.length) (m ++ [.lst xs])
  | .dic ks xs => .ok (.ref m.length) (m ++ [.dic ks xs])
  | _ => .bad
def optI (d : D) : Option (Option Int) := match d with
  | .int i => some (some i)
  | _ => none
/-- an exception does not leave a comprehension -/
def calmR {α : Type} (r : R α) : R α := match r with
  | .ok a m => .ok a m
  | _ => .bad
def litD : Const → Option D
  | .none => some .non
  | .bool b => some (.bl b)
  | .int i => some (.int i)
  | .str x => if sOk x then some (.str x) else none
  | _ => none
def dspD : List D → List D → List Key → List D → Option D
  | k :: ks, v :: vs, qs, xs => match keyD k with
    | some q => dspD ks vs (dputK qs q) (dputX qs xs q v)
    | none => none
  | [], [], qs, xs => some (.dic qs xs)
  | _, _, _, _ => none
section
variable (C : Nat → List D → Mem → R D) (o : Mem → R D)
mutual
def evE : Ex → Rho → Mem → R D
  | .var i, ρ, m => match ρ[i]? with
    | some (some d) => .ok d m
    | _ => .bad
  | .lit c, _, m => R.of (litD c) m
  | .glo _ d, _, m => .ok d m
  | .bin op a b, ρ, m => (evE a ρ m).bind fun d m1 => (evE b ρ m1).bind fun e m2 => binD op d e m2
  | .neg a, ρ, m => (evE a ρ m).bind fun d m1 => match d with
    | .int i => .ok (.int (-i)) m1
    | _ => .bad
  | .not a, ρ, m => bothD (evE a ρ m) fun b m1 => .ok (.bl (!b)) m1
  | .cmp op a b, ρ, m => (evE a ρ m).bind fun d m1 => (evE b ρ m1).bind fun e m2 => R.of ((cmpD op d e m2).map .bl) m2
  | .cmp2 o1 o2 a b c, ρ, m => (evE a ρ m).bind fun d m1 => (evE b ρ m1).bind fun e m2 => bothD (R.of ((cmpD o1 d e m2).map .bl) m2) fun k m3 =>
      if k then (evE c ρ m3).bind fun f m4 => R.of ((cmpD o2 e f m4).map .bl) m4 else .ok (.bl false) m3
  | .and a b, ρ, m => bothD (evE a ρ m) fun k m1 => if k then evE b ρ m1 else .ok (.bl false) m1
  | .or a b, ρ, m => bothD (evE a ρ m) fun k m1 => if k then .ok (.bl true) m1 else evE b ρ m1
  | .ife c a b, ρ, m => bothD (evE c ρ m) fun k m1 => if k then evE a ρ m1 else evE b ρ m1
  | .tup es, ρ, m => (evEs es ρ m).bind fun ds m1 => .ok (.tup ds) m1
  | .lst es, ρ, m => (evEs es ρ m).bind fun ds m1 => .ok (.lst ds) m1
  | .dsp ks, ρ, m => (calmR (evKV ks ρ m)).bind fun p m1 => R.of (dspD p.1 p.2 [] []) m1
  | .lcp own t it c e, ρ, m => (evI it ρ m).bind fun xs m1 => if lim < xs.1.length then .bad else lcpL xs.2 (tgD t) (fun ρ' m => calmR (evC c ρ' m)) (fun ρ' m => calmR (evE e ρ' m)) (wipeR ρ (own.map (·.2))) xs.1 [] m1
  | .idx a b, ρ, m => (evE a ρ m).bind fun d m1 => (evE b ρ m1).bind fun e m2 => R.of (idxD d e m2) m2
  | .slc a lo hi, ρ, m => (evE a ρ m).bind fun d m1 => (evO lo ρ m1).bind fun l m2 => (evO hi ρ m2).bind fun h m3 => R.of (slcD d l h m3) m3
  | .rev a, ρ, m => (evE a ρ m).bind fun d m1 => R.of (revD d m1) m1
  | .fld a f, ρ, m => (evE a ρ m).bind fun d m1 => R.of (fldD d f m1) m1
  | .call f es, ρ, m => (evEs es ρ m).bind fun ds m1 => C f ds m1
  | .cal0, _, m => o m
  | .bi b es, ρ, m => (evEs es ρ m).bind fun ds m1 => biD b ds m1
  | .itm a, ρ, m => (evE a ρ m).bind fun d m1 => sortedItemsD [d] m1
  | .bm b a es, ρ, m => (evE a ρ m).bind fun d m1 => if tyM b d m1 then (evEs es ρ m1).bind fun ds m2 => bmD b d ds m2 else .bad
  | .isi a ts, ρ, m => (evE a ρ m).bind fun d m1 => R.of ((isiD m1 d ts).map .bl) m1
  | .alc a, ρ, m => (evE a ρ m).bind alcD
def evEs : Exs → Rho → Mem → R (List D)
  | .nil, _, m => .ok [] m
  | .cons e es, ρ, m => (evE e ρ m).bind fun d m1 => (evEs es ρ m1).bind fun ds m2 => .ok (d :: ds) m2
def evKV : Kvs → Rho → Mem → R (List D × List D)
  | .nil, _, m => .ok ([], []) m
  | .cons k v r, ρ, m => (evE k ρ m).bind fun d m1 => (evE v ρ m1).bind fun e m2 => (evKV r ρ m2).bind fun p m3 => .ok (d :: p.1, e :: p.2) m3
def evO : Op → Rho → Mem → R (Option Int)
  | .no, _, m => .ok none m
  | .yes e, ρ, m => (evE e ρ m).bind fun d m1 => R.of (optI d) m1
def evC : Cd → Rho → Mem → R Bool
  | .no, _, m => .ok true m
  | .yes e, ρ, m => tst (evE e ρ m)
def evI : It → Rho → Mem → R (List D × Option (Nat × List D))
  | .ex e, ρ, m => (evE e ρ m).bind fun d m1 => match d with
    | .ref n => match m1[n]? with
      | some (.lst xs) => .ok (xs, some (n, xs)) m1
      | _ => .bad
    | d => R.of ((itsD m1 d).map fun xs => (xs, none)) m1
  | .rng1 a, ρ, m => (evE a ρ m).bind fun d m1 => match d with
    | .int i => R.of ((rngD 0 i).map fun xs => (xs, none)) m1
    | _ => .bad
  | .rng2 a b, ρ, m => (evE a ρ m).bind fun d m1 => (evE b ρ m1).bind fun e m2 => match d, e with
    | .int i, .int j => R.of ((rngD i j).map fun xs => (xs, none)) m2
    | _, _ => .bad
  | .zip a b, ρ, m => (evE a ρ m).bind fun d m1 => (evE b ρ m1).bind fun e m2 => R.of ((zipD d e).map fun xs => (xs, none)) m2
  | .enm a, ρ, m => (evE a ρ m).bind fun d m1 => R.of ((enmD d).map fun xs => (xs, none)) m1
end
end

/-! ### statements -/
mutual
inductive St where
  | asg (t : Tg) (e : Ex) | par (is : List Nat) (es : Exs)
  | seti (a i e : Ex) | setf (a : Ex) (f : Str) (e : Ex)
  | aug (i : Nat) (op : Operator) (e : Ex) | augf (a : Ex) (f : Str) (op : Operator) (e : Ex)
  | expr (e : Ex) | ret (e : Ex) | retn | ifs (c : Ex) (a b : Ss)
  | fors (t : Tg) (it : It) (b : Ss) | whl (c : Ex) (b : Ss)
  | brk | cnt | pas
inductive Ss where
  | nil | cons (s : St) (r : Ss)
end
inductive O where
  | nx (ρ : Rho) (m : Mem) | rt (d : D) (m : Mem) | bk (ρ : Rho) (m : Mem) | ct (ρ : Rho) (m : Mem)
  | ex (x : Nat) (p : Option D) (ρ : Rho) (m : Mem) | bad
/-- an expression's result, then a statement's -/
def R.go {α : Type} (r : R α) (ρ : Rho) (k : α → Mem → O) : O := match r with
  | .ok a m => k a m
  | .ex x p m => .ex x p ρ m
  | .bad => .bad
@[simp] theorem R.go_ok {α : Type} (a : α) (m : Mem) (ρ : Rho) (k : α → Mem → O) : (R.ok a m).go ρ k = k a m := rfl
@[simp] theorem R.go_ex {α : Type} (x : Nat) (p : Option D) (m : Mem) (ρ : Rho) (k : α → Mem → O) : (R.ex x p m : R α).go ρ k = .ex x p ρ m := rfl
@[simp] theorem R.go_bad {α : Type} (ρ : Rho) (k : α → Mem → O) : (R.bad : R α).go ρ k = .bad := rfl
def O.then (r : O) (k : Rho → Mem → O) : O := match r with
  | .nx ρ m => k ρ m
  | r => r
@[simp] theorem O.then_nx (ρ : Rho) (m : Mem) (k : Rho → Mem → O) : (O.nx ρ m).then k = k ρ m := rfl
@[simp] theorem O.then_rt (d : D) (m : Mem) (k : Rho → Mem → O) : (O.rt d m).then k = .rt d m := rfl
@[simp] theorem O.then_bk (ρ : Rho) (m : Mem) (k : Rho → Mem → O) : (O.bk ρ m).then k = .bk ρ m := rfl
@[simp] theorem O.then_ct (ρ : Rho) (m : Mem) (k : Rho → Mem → O) : (O.ct ρ m).then k = .ct ρ m := rfl
@[simp] theorem O.then_ex (x : Nat) (p : Option D) (ρ : Rho) (m : Mem) (k : Rho → Mem → O) : (O.ex x p ρ m).then k = .ex x p ρ m := rfl
@[simp] theorem O.then_bad (k : Rho → Mem → O) : O.bad.then k = .bad := rfl
def O.test (r : R D) (ρ : Rho) (k : Bool → Mem → O) : O := (tst r).go ρ k
@[simp] theorem O.test_ok (b : Bool) (m : Mem) (ρ : Rho) (k : Bool → Mem → O) : O.test (.ok (.bl b) m) ρ k = k b m := rfl
/-- behind a loop's turn -/
def O.turn (r : O) (k : Rho → Mem → O) : O := match r with
  | .nx ρ m => k ρ m
  | .ct ρ m => k ρ m
  | .bk ρ m => .nx ρ m
  | r => r
@[simp] theorem O.turn_nx (ρ : Rho) (m : Mem) (k : Rho → Mem → O) : (O.nx ρ m).turn k = k ρ m := rfl
@[simp] theorem O.turn_rt (d : D) (m : Mem) (k : Rho → Mem → O) : (O.rt d m).turn k = .rt d m := rfl
@[simp] theorem O.turn_bk (ρ : Rho) (m : Mem) (k : Rho → Mem → O) : (O.bk ρ m).turn k = .nx ρ m := rfl
@[simp] theorem O.turn_ct (ρ : Rho) (m : Mem) (k : Rho → Mem → O) : (O.ct ρ m).turn k = k ρ m := rfl
@[simp] theorem O.turn_ex (x : Nat) (p : Option D) (ρ : Rho) (m : Mem) (k : Rho → Mem → O) : (O.ex x p ρ m).turn k = .ex x p ρ m := rfl
@[simp] theorem O.turn_bad (k : Rho → Mem → O) : O.bad.turn k = .bad := rfl
def forL (q : Option (Nat × List D)) (tg : D → Rho → Option Rho) (body : Rho → Mem → O) : List D → Rho → Mem → O
  | [], ρ, m => if ckD q m then .nx ρ m else .bad
  | d :: ds, ρ, m => if ckD q m then match tg d ρ with
    | none => .bad
    | some ρ' => (body ρ' m).turn fun ρ2 m2 => forL q tg body ds ρ2 m2
    else .bad
def whlL (c : Rho → Mem → R D) (body : Rho → Mem → O) : Nat → Rho → Mem → O
  | 0, _, _ => .bad
  | n + 1, ρ, m => O.test (c ρ m) ρ fun b m1 => if b then (body ρ m1).turn fun ρ2 m2 => whlL c body n ρ2 m2 else .nx ρ m1
/-- names get values, one by one -/
def setAll : List Nat → List D → Rho → Option Rho
  | [], [], ρ => some ρ
  | i :: is, d :: ds, ρ => if i < ρ.length then setAll is ds (ρ.set i (some d)) else none
  | _, _, _ => none
def fput : List Str → Str → List Str
  | [], f => [f]
  | g :: gs, f => if g = f then g :: gs else g :: fput gs f
def fputX : List Str → List D → Str → D → List D
  | g :: gs, x :: xs, f, y => if g = f then y :: xs else x :: fputX gs xs f y
  | _, xs, _, y => xs ++ [y]
/-- o.f = y -/
def fsetD (d : D) (f : Str) (y : D) (m : Mem) : Option Mem := match d with
  | .ref n => match m[n]? with
    | some (.ins c ns xs) => if ns.length < 900 then some (m.set n (.ins c (fput ns f) (fputX ns xs f y))) else none
    | _ => none
  | _ => none
def O.ofM (o : Option Mem) (k : Mem → O) : O := match o with
  | some m => k m
  | none => .bad
@[simp] theorem O.ofM_some (m : Mem) (k : Mem → O) : O.ofM (some m) k = k m := rfl
@[simp] theorem O.ofM_none (k : Mem → O) : O.ofM none k = .bad := rfl
def O.ofR (o : Option Rho) (m : Mem) : O := match o with
  | some ρ => .nx ρ m
  | none => .bad
@[simp] theorem O.ofR_some (m : Mem) (ρ : Rho) : O.ofR (some ρ) m = .nx ρ m := rfl
@[simp] theorem O.ofR_none (m : Mem) : O.ofR none m = .bad := rfl
section
variable (C : Nat → List D → Mem → R D) (o : Mem → R D) (w : Nat)
mutual
def exS : St → Rho → Mem → O
  | .asg t e, ρ, m => (evE C o e ρ m).go ρ fun d m1 => O.ofR (tgD t d ρ) m1
  | .par is es, ρ, m => (evEs C o es ρ m).go ρ fun ds m1 => O.ofR (setAll is ds ρ) m1
  | .seti a i e, ρ, m => (evE C o e ρ m).go ρ fun y m1 => (evE C o a ρ m1).go ρ fun d m2 => (evE C o i ρ m2).go ρ fun j m3 => O.ofM (setD d j y m3) fun m4 => .nx ρ m4
  | .setf a f e, ρ, m => (evE C o e ρ m).go ρ fun y m1 => (evE C o a ρ m1).go ρ fun d m2 => O.ofM (fsetD d f y m2) fun m3 => .nx ρ m3
  | .aug i op e, ρ, m => match ρ[i]? with
    | some (some x) => (evE C o e ρ m).go ρ fun y m1 => match x, y with
      | .int a, .int b => match op with
        | .Add => .nx (ρ.set i (some (.int (a + b)))) m1
        | .Sub => .nx (ρ.set i (some (.int (a - b)))) m1
        | _ => .bad
      | _, _ => .bad
    | _ => .bad
  | .augf a f op e, ρ, m => (evE C o a ρ m).go ρ fun d m1 => match fldD d f m1 with
    | some (.int x) => (evE C o e ρ m1).go ρ fun y m2 => match y, op with
      | .int b, .Add => O.ofM (fsetD d f (.int (x + b)) m2) fun m3 => .nx ρ m3
      | _, _ => .bad
    | _ => .bad
  | .expr e, ρ, m => (evE C o e ρ m).go ρ fun _ m1 => .nx ρ m1
  | .ret e, ρ, m => (evE C o e ρ m).go ρ fun d m1 => .rt d m1
  | .retn, _, m => .rt .non m
  | .ifs c a b, ρ, m => O.test (evE C o c ρ m) ρ fun k m1 => if k then exSs a ρ m1 else exSs b ρ m1
  | .fors t it b, ρ, m => (evI C o it ρ m).go ρ fun xs m1 => forL xs.2 (tgD t) (fun ρ' m' => exSs b ρ' m') xs.1 ρ m1
  | .whl c b, ρ, m => whlL (evE C o c) (fun ρ' m' => exSs b ρ' m') w ρ m
  | .brk, ρ, m => .bk ρ m
  | .cnt, ρ, m => .ct ρ m
  | .pas, ρ, m => .nx ρ m
def exSs : Ss → Rho → Mem → O
  | .nil, ρ, m => .nx ρ m
  | .cons s r, ρ, m => (exS s ρ m).then fun ρ1 m1 => exSs r ρ1 m1
end
end

/-! ### defs -/
mutual
/-- all cells that are told lie below n -/
def bel (n : Nat) : D → Bool
  | .ref k => decide (k < n)
  | .tup ds => bels n ds
  | .lst ds => bels n ds
  | .dic _ ds => bels n ds
  | _ => true
def bels (n : Nat) : List D → Bool
  | [] => true
  | d :: ds => bel n d && bels n ds
end
def belC (n : Nat) : Cell → Bool
  | .lst xs => bels n xs
  | .dic _ xs => bels n xs
  | .ins _ _ xs => bels n xs
/-- the old cells, each as it was, or telling of old ones alone -/
def keepC (n : Nat) : Mem → Mem → Bool
  | [], _ => true
  | c :: M, c' :: m => (decide (c = c') || belC n c') && keepC n M m
  | _ :: _, [] => false
/-- behind a call new cells that nothing tells of are forgotten -/
def gcR (M : Mem) : R D → R D
  | .ok d m => if keepC M.length M m then
      if bel M.length d then .ok d (m.take M.length)
      else match d with
        | .ref n => match m[n]? with
          | some c => if belC M.length c ∧ M.length ≤ n then .ok (.ref M.length) (m.take M.length ++ [c]) else .ok d m
          | none => .ok d m
        | _ => .ok d m
    else .ok d m
  | .ex x p m => .ex x p m
  | .bad => .bad
structure Fn where
  name : Str
  np : Nat
  ns : Nat
  body : Ss
def retO : O → R D
  | .nx _ m => .ok .non m
  | .rt d m => .ok d m
  | .ex x p _ m => .ex x p m
  | _ => .bad
@[simp] theorem retO_nx (ρ : Rho) (m : Mem) : retO (.nx ρ m) = .ok .non m := rfl
@[simp] theorem retO_rt (d : D) (m : Mem) : retO (.rt d m) = .ok d m := rfl
@[simp] theorem retO_ex (x : Nat) (p : Option D) (ρ : Rho) (m : Mem) : retO (.ex x p ρ m) = .ex x p m := rfl
def startR (n : Nat) (ds : List D) : Rho := ds.map some ++ List.replicate (n - ds.length) none
def runFn (C : Nat → List D → Mem → R D) (w : Nat) (fn : Fn) (ds : List D) (m : Mem) : R D :=
  if ds.length = fn.np then gcR m (retO (exSs C (fun _ => .bad) w fn.body (startR fn.ns ds) m)) else .bad
def callAt (T : List Fn) (w : Nat) : Nat → Nat → List D → Mem → R D
  | 0, _, _, _ => .bad
  | k + 1, f, ds, m => match T[f]? with
    | some fn => runFn (callAt T w k) w fn ds m
    | none => .bad
end EV

/-! What the trees come to is what the program does: expressions. -/
namespace EV
open PySem PySem.Spec PyProof.Rows L2

/-- an exception as told -/
def ExR (G : Gw) (μ τ : List Addr) (H : Hp) (x : Nat) (p : Option D) (c : Value) (dd : Option Addr) : Prop :=
  c = .ref (G.xc x) ∧ match p with
    | none => dd = none
    | some d => ∃ a v, dd = some a ∧ H a = some (.xd [(G.xf x, v)]) ∧ Rep G μ τ H d v

/-- what is wanted behind a result: of each state that it stands for -/
def Pst {α β : Type} (G : Gw) (W : WX) (σ : L2.St) (μ τ : List Addr) (H : Hp) (RP : List Addr → Hp → α → β → Prop) (r : R α) (Q : β → Hp → Prop) : Prop :=
  match r with
  | .ok d m' => ∀ v H' μ', Nxt μ τ H μ' τ H' → Good G μ' τ m' H' → RP μ' H' d v → Q v H'
  | .ex x p m' => ∀ c dd H' μ', Nxt μ τ H μ' τ H' → Good G μ' τ m' H' → ExR G μ' τ H' x p c dd → W c dd σ H'
  | .bad => False
def Slots (G : Gw) (μ τ : List Addr) (H : Hp) (ρ : Rho) (σ : L2.St) : Prop :=
  ρ.length = σ.length ∧ ∀ (i : Nat) (d : D), ρ[i]? = some (some d) → ∃ v, σ[i]? = some (some v) ∧ Rep G μ τ H d v
section
variable {G : Gw} {W : WX} {σ : L2.St} {μ τ μ' τ' : List Addr} {H H' : Hp} {m m' : Mem} {ρ : Rho} {α β γ δ : Type}
theorem Slots.nxt (s : Slots G μ τ H ρ σ) (g : Good G μ τ m H) (h : Nxt μ τ H μ' τ' H') : Slots G μ' τ' H' ρ σ :=
  ⟨s.1, fun i d e => let ⟨v, h1, h2⟩ := s.2 i d e; ⟨v, h1, h2.next h g⟩⟩
theorem Pst.bind {RP : List Addr → Hp → α → β → Prop} {RQ : List Addr → Hp → γ → δ → Prop} {r : R α} {k : α → Mem → R γ} {Q : δ → Hp → Prop} (h : Pst G W σ μ τ H RQ (r.bind k) Q) :
    Pst G W σ μ τ H RP r fun b H1 => ∃ a m1 μ1, Nxt μ τ H μ1 τ H1 ∧ Good G μ1 τ m1 H1 ∧ RP μ1 H1 a b ∧ Pst G W σ μ1 τ H1 RQ (k a m1) Q := by
  cases r with
  | bad => exact h
  | ex x p m1 => exact h
  | ok a m1 =>
    intro v H1 μ1 n g r
    refine ⟨a, m1, μ1, n, g, r, ?_⟩
    have h' : Pst G W σ μ τ H RQ (k a m1) Q := h
    cases hk : k a m1 with
    | bad => rw [hk] at h'; exact h'
    | ex x p m2 =>
      rw [hk] at h'
      exact fun c dd H' μ' n' g' r' => h' c dd H' μ' (n.trans n') g' r'
    | ok d m2 =>
      rw [hk] at h'
      exact fun v H' μ' n' g' r' => h' v H' μ' (n.trans n') g' r'
theorem Pst.imp {RP : List Addr → Hp → α → β → Prop} {r : R α} {Q Q' : β → Hp → Prop} (h : Pst G W σ μ τ H RP r Q) (hq : ∀ v H, Q v H → Q' v H) : Pst G W σ μ τ H RP r Q' := by
  cases r with
  | bad => exact h
  | ex x p m1 => exact h
  | ok a m1 => exact fun v H1 μ1 n g r => hq _ _ (h v H1 μ1 n g r)
/-- the value is told at once -/
theorem Pst.here {RP : List Addr → Hp → α → β → Prop} {a : α} {Q : β → Hp → Prop} (h : Pst G W σ μ τ H RP (.ok a m) Q) (g : Good G μ τ m H) {b : β} (r : RP μ H a b) : Q b H := h b H μ .refl g r
end

abbrev RD (G : Gw) (τ : List Addr) : List Addr → Hp → D → V → Prop := fun μ H d v => Rep G μ τ H d v
abbrev RL (G : Gw) (τ : List Addr) : List Addr → Hp → List D → List V → Prop := fun μ H d v => Reps G μ τ H d v
abbrev RB : List Addr → Hp → D → Bool → Prop := fun _ _ d b => d = .bl b
abbrev REq {α : Type} : List Addr → Hp → α → α → Prop := fun _ _ a b => a = b
/-- an expression's reading -/
def rdE (G : Gw) (W : WX) (f : Rho → Mem → R D) : TE := fun σ H Q => ∃ ρ m μ τ, Good G μ τ m H ∧ Slots G μ τ H ρ σ ∧ Pst G W σ μ τ H (RD G τ) (f ρ m) Q
def rdA (G : Gw) (W : WX) (f : Rho → Mem → R (List D)) : TA := fun σ H Q => ∃ ρ m μ τ, Good G μ τ m H ∧ Slots G μ τ H ρ σ ∧ Pst G W σ μ τ H (RL G τ) (f ρ m) Q
def rdT (G : Gw) (W : WX) (f : Rho → Mem → R Bool) : TT := fun σ H Q => ∃ ρ m μ τ, Good G μ τ m H ∧ Slots G μ τ H ρ σ ∧ Pst G W σ μ τ H REq (f ρ m) Q
def EvE (X : Cx) (G : Gw) (W : WX) (e : Expr) (f : Rho → Mem → R D) : Prop := PE X e (rdE G W f)
def EvA (X : Cx) (G : Gw) (W : WX) (es : List Expr) (f : Rho → Mem → R (List D)) : Prop := PA X es (rdA G W f)
def EvT (X : Cx) (G : Gw) (W : WX) (e : Expr) (f : Rho → Mem → R D) : Prop := PT X e (rdT G W fun ρ m => tst (f ρ m))
def EvW (X : Cx) (G : Gw) (W : WX) (e : Expr) (f : Rho → Mem → R D) : Prop := PW X e (rdT G W fun ρ m => tst (f ρ m))

theorem PE.imp {X : Cx} {e : Expr} {t t' : TE} (h : PE X e t) (q : ∀ σ H Q, t' σ H Q → t σ H Q) : PE X e t' := ⟨fun pins s σ H Q I z => h.run pins s σ H Q I (q σ H Q z)⟩
theorem PA.imp {X : Cx} {e : List Expr} {t t' : TA} (h : PA X e t) (q : ∀ σ H Q, t' σ H Q → t σ H Q) : PA X e t' := ⟨fun pos pins s σ H Q I z => h.run pos pins s σ H Q I (q σ H Q z)⟩
theorem PT.imp {X : Cx} {e : Expr} {t t' : TT} (h : PT X e t) (q : ∀ σ H Q, t' σ H Q → t σ H Q) : PT X e t' := ⟨fun pins s σ H Q I z => h.run pins s σ H Q I (q σ H Q z)⟩
theorem PW.imp {X : Cx} {e : Expr} {t t' : TT} (h : PW X e t) (q : ∀ σ H Q, t' σ H Q → t σ H Q) : PW X e t' := ⟨fun wh pins s σ H Q I z => h.run wh pins s σ H Q I (q σ H Q z)⟩

section
variable {X : Cx} {G : Gw} {W : WX} {a b c e : Expr} {fa fb fc f : Rho → Mem → R D} {pos : Pos}

/-! ### names and constants -/
theorem ev_var {i : Nat} {x : Str} (hN : X.N[i]? = some x) (hv : Vis X.env.scope x) (hd : (x == ("__debug__" : Str)) = false) (hcd : (x == ("__classdict__" : Str)) = false) :
    EvE X G W (.Name x pos) (fun ρ m => match ρ[i]? with | some (some d) => .ok d m | _ => .bad) := by
  refine PE.imp (pe_var (i := i) hN hv hd hcd) fun σ H Q h => ?_
  obtain ⟨ρ, m, μ, τ, g, s, h⟩ := h
  dsimp only at h
  cases hr : ρ[i]? with
  | none => rw [hr] at h; exact False.elim h
  | some o =>
    cases o with
    | none => rw [hr] at h; exact False.elim h
    | some d =>
      rw [hr] at h
      obtain ⟨v, h1, h2⟩ := s.2 i d hr
      exact ⟨v, h1, Pst.here h g h2⟩
theorem ev_lit {k : Const} {j : Nat} : EvE X G W (.Constant k j pos) (fun _ m => R.of (litD k) m) := by
  cases k with
  | none =>
    refine PE.imp pe_non fun σ H Q h => ?_
    obtain ⟨ρ, m, μ, τ, g, s, h⟩ := h
    exact Pst.here h g rfl
  | bool b =>
    refine PE.imp pe_bl fun σ H Q h => ?_
    obtain ⟨ρ, m, μ, τ, g, s, h⟩ := h
    exact Pst.here h g rfl
  | int i =>
    refine PE.imp pe_int fun σ H Q h => ?_
    obtain ⟨ρ, m, μ, τ, g, s, h⟩ := h
    exact Pst.here h g rfl
  | str x =>
    refine PE.imp pe_str fun σ H Q h => ?_
    obtain ⟨ρ, m, μ, τ, g, s, h⟩ := h
    by_cases hx : sOk x = true
    · have e : litD (.str x) = some (.str x) := if_pos hx
      rw [e] at h
      exact Pst.here h g ⟨rfl, hx⟩
    · have e : litD (.str x) = none := if_neg hx
      rw [e] at h
      exact False.elim h
  | _ =>
    refine ⟨fun pins s σ H Q I h => ?_⟩
    obtain ⟨ρ, m, μ, τ, g, sl, h⟩ := h
    exact False.elim h
/-- what the top's constants are -/
def GloOk (X : Cx) (G : Gw) (x : Str) (d : D) : Prop := ∃ u v, X.mg x = some u ∧ RelV v u ∧ ∀ μ τ H, Rep G μ τ H d v
theorem ev_glo {x : Str} {d : D} (hg : Gl X x) (hd : (x == ("__debug__" : Str)) = false) (h : GloOk X G x d) : EvE X G W (.Name x pos) (fun _ m => .ok d m) := by
  obtain ⟨u, v, hm, r, hr⟩ := h
  refine PE.imp (pe_glob hg hm r hd) fun σ H Q h => ?_
  obtain ⟨ρ, m, μ, τ, g, s, h⟩ := h
  exact Pst.here h g (hr μ τ H)

/-! ### two parts -/
/-- what an operator by values wants -/
def rOp (G : Gw) (k : D → D → Mem → R D) : R2 := fun x y H Q => ∃ (W : WX) (σ : L2.St) (d e : D) (m : Mem) (μ τ : List Addr), Good G μ τ m H ∧ Rep G μ τ H d x ∧ Rep G μ τ H e y ∧ Pst G W σ μ τ H (RD G τ) (k d e m) Q
theorem two {k : D → D → Mem → R D} {σ : L2.St} {H : Hp} {Q : VK} (h : rdE G W (fun ρ m => (fa ρ m).bind fun d m1 => (fb ρ m1).bind fun e m2 => k d e m2) σ H Q) :
    tOp (rOp G k) (rdE G W fa) (rdE G W fb) σ H Q := by
  obtain ⟨ρ, m, μ, τ, g, s, h⟩ := h
  refine ⟨ρ, m, μ, τ, g, s, (Pst.bind (RP := RD G τ) h).imp fun x H1 h1 => ?_⟩
  obtain ⟨d, m1, μ1, n1, g1, r1, h1⟩ := h1
  refine ⟨ρ, m1, μ1, τ, g1, s.nxt g n1, (Pst.bind (RP := RD G τ) h1).imp fun y H2 h2 => ?_⟩
  obtain ⟨e, m2, μ2, n2, g2, r2, h2⟩ := h2
  exact ⟨W, σ, d, e, m2, μ2, τ, g2, r1.next n2 g1, r2, h2⟩
theorem ev_bin {op : Operator} {k : D → D → Mem → R D} (ho : OpR X (binaryOp op) (rOp G k)) (ha : EvE X G W a fa) (hb : EvE X G W b fb) :
    EvE X G W (.BinOp a op b pos) (fun ρ m => (fa ρ m).bind fun d m1 => (fb ρ m1).bind fun e m2 => k d e m2) := PE.imp (pe_op ho ha hb) fun _ _ _ h => two h
theorem ev_cmp {op : CmpOp} {k : D → D → Mem → R D} (ho : OpR X (compareOp op) (rOp G k)) (ha : EvE X G W a fa) (hb : EvE X G W b fb) (hm : behindInMarks op b = false) :
    EvE X G W (.Compare a [op] [b] pos) (fun ρ m => (fa ρ m).bind fun d m1 => (fb ρ m1).bind fun e m2 => k d e m2) := PE.imp (pe_cmpR ho ha hb hm) fun _ _ _ h => two h

/-! ### tests -/
theorem tst_inv {RP : List Addr → Hp → D → V → Prop} {σ : L2.St} {μ τ : List Addr} {H : Hp} {r : R D} {Q : Bool → Hp → Prop} (h : Pst G W σ μ τ H REq (tst r) Q) : Pst G W σ μ τ H (RD G τ) r fun x H1 => ∃ c, x = .bl c ∧ Q c H1 := by
  refine (Pst.bind (RP := RD G τ) h).imp fun x H1 h1 => ?_
  obtain ⟨d, m1, μ1, n1, g1, r1, h1⟩ := h1
  cases d with
  | bl b => exact ⟨b, r1, Pst.here h1 g1 rfl⟩
  | _ => exact False.elim h1
theorem tst_bind {r : R D} {k : Bool → Mem → R D} : tst ((tst r).bind k) = (tst r).bind fun b m => tst (k b m) := by
  cases r with
  | ok d m => cases d <;> rfl
  | ex x p m => rfl
  | bad => rfl
theorem ev_tst (h : EvE X G W a fa) (he : ∀ whole, isTrue a X.env whole = (do let v ← whole; standAt a.pos; holding [v] (truthy v))) : EvT X G W a fa := by
  refine PT.imp (pt_val h he) fun σ H Q h => ?_
  obtain ⟨ρ, m, μ, τ, g, s, h⟩ := h
  exact ⟨ρ, m, μ, τ, g, s, tst_inv (RP := RD G τ) h⟩
theorem EvW.t (h : EvW X G W a fa) : EvT X G W a fa := PW.pt h
/-- two, tested -/
theorem two_t {k : D → D → Mem → R D} {σ : L2.St} {H : Hp} {Q : Bool → Hp → Prop} (h : rdT G W (fun ρ m => tst ((fa ρ m).bind fun d m1 => (fb ρ m1).bind fun e m2 => k d e m2)) σ H Q) :
    tTest (tOp (rOp G k) (rdE G W fa) (rdE G W fb)) σ H Q := by
  obtain ⟨ρ, m, μ, τ, g, s, h⟩ := h
  exact two ⟨ρ, m, μ, τ, g, s, tst_inv (RP := RD G τ) h⟩
theorem ev_cmpT {op : CmpOp} {k : D → D → Mem → R D} (ho : OpR X (compareOp op) (rOp G k)) (ha : EvE X G W a fa) (hb : EvE X G W b fb) (hm : behindInMarks op b = false) :
    EvT X G W (.Compare a [op] [b] pos) (fun ρ m => (fa ρ m).bind fun d m1 => (fb ρ m1).bind fun e m2 => k d e m2) := PT.imp (pt_cmpR ho ha hb hm) fun _ _ _ h => two_t h
theorem ev_notT (ha : EvT X G W a fa) : EvT X G W (.UnaryOp .Not a pos) (fun ρ m => bothD (fa ρ m) fun b m1 => .ok (.bl (!b)) m1) := by
  refine PT.imp (pt_not ha) fun σ H Q h => ?_
  obtain ⟨ρ, m, μ, τ, g, s, h⟩ := h
  refine ⟨ρ, m, μ, τ, g, s, ?_⟩
  dsimp only [bothD] at h
  rw [tst_bind] at h
  refine (Pst.bind (RP := REq) h).imp fun x H1 h1 => ?_
  obtain ⟨d, m1, μ1, n1, g1, r1, h1⟩ := h1
  subst r1
  exact Pst.here h1 g1 rfl
theorem ev_not (ha : EvE X G W a fa) : EvE X G W (.UnaryOp .Not a pos) (fun ρ m => bothD (fa ρ m) fun b m1 => .ok (.bl (!b)) m1) := by
  refine PE.imp (pe_not ha) fun σ H Q h => ?_
  obtain ⟨ρ, m, μ, τ, g, s, h⟩ := h
  refine ⟨ρ, m, μ, τ, g, s, ?_⟩
  refine (tst_inv (RP := RD G τ) (Pst.bind (RP := REq) h))
    |>.imp fun x H1 ⟨c, e, b, m1, μ1, n1, g1, r1, h1⟩ => ⟨c, e, ?_⟩
  subst r1
  exact Pst.here h1 g1 rfl
/-- a first part as a truth value -/
theorem both_inv {β γ : Type} {RP : List Addr → Hp → β → γ → Prop} {σ : L2.St} {μ τ : List Addr} {H : Hp} {r : R D} {k : Bool → Mem → R β} {Q : γ → Hp → Prop} (h : Pst G W σ μ τ H RP (bothD r k) Q) :
    Pst G W σ μ τ H (RD G τ) r fun x H1 => ∃ c m1 μ1, x = .bl c ∧ Nxt μ τ H μ1 τ H1 ∧ Good G μ1 τ m1 H1 ∧ Pst G W σ μ1 τ H1 RP (k c m1) Q := by
  refine (tst_inv (RP := RD G τ) (Pst.bind (RP := REq) h)).imp fun x H1 ⟨c, e, b, m1, μ1, n1, g1, r1, h1⟩ => ?_
  subst r1
  exact ⟨_, m1, μ1, e, n1, g1, h1⟩
theorem ev_and {rest : List Expr} (ha : EvE X G W a fa) (hb : EvE X G W (.BoolOp .And (b :: rest) pos) fb) : EvE X G W (.BoolOp .And (a :: b :: rest) pos) (fun ρ m => bothD (fa ρ m) fun k m1 => if k then fb ρ m1 else .ok (.bl false) m1) := by
  refine PE.imp (pe_and ha hb) fun σ H Q h => ?_
  obtain ⟨ρ, m, μ, τ, g, s, h⟩ := h
  refine ⟨ρ, m, μ, τ, g, s, (both_inv h).imp fun x H1 ⟨c, m1, μ1, e, n1, g1, h1⟩ => ⟨c, e, ?_⟩⟩
  cases c with
  | true => exact ⟨ρ, m1, μ1, τ, g1, s.nxt g n1, h1⟩
  | false => exact Pst.here h1 g1 rfl
theorem ev_or {rest : List Expr} (ha : EvE X G W a fa) (hb : EvE X G W (.BoolOp .Or (b :: rest) pos) fb) : EvE X G W (.BoolOp .Or (a :: b :: rest) pos) (fun ρ m => bothD (fa ρ m) fun k m1 => if k then .ok (.bl true) m1 else fb ρ m1) := by
  refine PE.imp (pe_or ha hb) fun σ H Q h => ?_
  obtain ⟨ρ, m, μ, τ, g, s, h⟩ := h
  refine ⟨ρ, m, μ, τ, g, s, (both_inv h).imp fun x H1 ⟨c, m1, μ1, e, n1, g1, h1⟩ => ⟨c, e, ?_⟩⟩
  cases c with
  | false => exact ⟨ρ, m1, μ1, τ, g1, s.nxt g n1, h1⟩
  | true => exact Pst.here h1 g1 rfl
theorem ev_one {op : BoolOp} (ha : EvE X G W a fa) : EvE X G W (.BoolOp op [a] pos) fa := pe_one ha
theorem evw_and1 (ha : EvT X G W a fa) : EvW X G W (.BoolOp .And [a] pos) fa := pw_and1 ha
theorem evw_or1 (ha : EvT X G W a fa) : EvW X G W (.BoolOp .Or [a] pos) fa := pw_or1 ha
theorem evw_and {rest : List Expr} (ha : EvT X G W a fa) (hb : EvW X G W (.BoolOp .And (b :: rest) pos) fb) : EvW X G W (.BoolOp .And (a :: b :: rest) pos) (fun ρ m => bothD (fa ρ m) fun k m1 => if k then fb ρ m1 else .ok (.bl false) m1) := by
  refine PW.imp (pw_and ha hb) fun σ H Q h => ?_
  obtain ⟨ρ, m, μ, τ, g, s, h⟩ := h
  dsimp only [bothD] at h
  rw [tst_bind] at h
  refine ⟨ρ, m, μ, τ, g, s, (Pst.bind (RP := REq) h).imp fun c H1 ⟨d, m1, μ1, n1, g1, r1, h1⟩ => ?_⟩
  subst r1
  cases d with
  | true => exact ⟨ρ, m1, μ1, τ, g1, s.nxt g n1, h1⟩
  | false => exact Pst.here h1 g1 rfl
theorem evw_or {rest : List Expr} (ha : EvT X G W a fa) (hb : EvW X G W (.BoolOp .Or (b :: rest) pos) fb) : EvW X G W (.BoolOp .Or (a :: b :: rest) pos) (fun ρ m => bothD (fa ρ m) fun k m1 => if k then .ok (.bl true) m1 else fb ρ m1) := by
  refine PW.imp (pw_or ha hb) fun σ H Q h => ?_
  obtain ⟨ρ, m, μ, τ, g, s, h⟩ := h
  dsimp only [bothD] at h
  rw [tst_bind] at h
  refine ⟨ρ, m, μ, τ, g, s, (Pst.bind (RP := REq) h).imp fun c H1 ⟨d, m1, μ1, n1, g1, r1, h1⟩ => ?_⟩
  subst r1
  cases d with
  | false => exact ⟨ρ, m1, μ1, τ, g1, s.nxt g n1, h1⟩
  | true => exact Pst.here h1 g1 rfl
/-- a if c else b -/
theorem ev_ife (hc : EvT X G W c fc) (ha : EvE X G W a fa) (hb : EvE X G W b fb) : EvE X G W (.IfExp c a b pos) (fun ρ m => bothD (fc ρ m) fun k m1 => if k then fa ρ m1 else fb ρ m1) := by
  refine PE.imp (pe_ifExp hc ha hb) fun σ H Q h => ?_
  obtain ⟨ρ, m, μ, τ, g, s, h⟩ := h
  refine ⟨ρ, m, μ, τ, g, s, (Pst.bind (RP := REq) h).imp fun k H1 ⟨d, m1, μ1, n1, g1, r1, h1⟩ => ?_⟩
  subst r1
  cases d with
  | true => exact ⟨ρ, m1, μ1, τ, g1, s.nxt g n1, h1⟩
  | false => exact ⟨ρ, m1, μ1, τ, g1, s.nxt g n1, h1⟩
theorem ev_ifeT (hc : EvT X G W c fc) (ha : EvT X G W a fa) (hb : EvT X G W b fb) : EvT X G W (.IfExp c a b pos) (fun ρ m => bothD (fc ρ m) fun k m1 => if k then fa ρ m1 else fb ρ m1) := by
  refine ⟨fun pins s σ H Q I h => ?_⟩
  obtain ⟨ρ, m, μ, τ, g, sl, h⟩ := h
  dsimp only [bothD] at h
  rw [tst_bind] at h
  show wpAny _ _ (do if ← isTrue c X.env (eval c X.env) then isTrue a X.env (eval a X.env) else isTrue b X.env (eval b X.env)) _ _ _
  refine wpAny_bind (thn (hc.run pins s σ H _ I ⟨ρ, m, μ, τ, g, sl, Pst.bind (RP := REq) h⟩) fun k s1 ⟨H1, I1, d, m1, μ1, n1, g1, r1, h1⟩ => ?_)
  subst r1
  cases d with
  | true => exact ha.run pins s1 σ H1 Q I1 ⟨ρ, m1, μ1, τ, g1, sl.nxt g n1, h1⟩
  | false => exact hb.run pins s1 σ H1 Q I1 ⟨ρ, m1, μ1, τ, g1, sl.nxt g n1, h1⟩
/-- a chain of two comparisons -/
theorem chain_inv {k1 k2 : D → D → Mem → R D} {σ : L2.St} {H : Hp} {Q : VK} (h : rdE G W (fun ρ m => (fa ρ m).bind fun d m1 => (fb ρ m1).bind fun e m2 => bothD (k1 d e m2) fun k m3 => if k then (fc ρ m3).bind fun f m4 => k2 e f m4 else .ok (.bl false) m3) σ H Q) :
    tChain (rOp G k1) (rOp G k2) (rdE G W fa) (rdE G W fb) (rdE G W fc) σ H Q := by
  obtain ⟨ρ, m, μ, τ, g, s, h⟩ := h
  refine ⟨ρ, m, μ, τ, g, s, (Pst.bind (RP := RD G τ) h).imp fun x H1 ⟨d, m1, μ1, n1, g1, r1, h1⟩ => ?_⟩
  refine ⟨ρ, m1, μ1, τ, g1, s.nxt g n1, (Pst.bind (RP := RD G τ) h1).imp fun y H2 ⟨e, m2, μ2, n2, g2, r2, h2⟩ => ?_⟩
  refine ⟨W, σ, d, e, m2, μ2, τ, g2, r1.next n2 g1, r2, (both_inv h2).imp fun z H3 ⟨k, m3, μ3, e3, n3, g3, h3⟩ => ⟨k, e3, ?_⟩⟩
  cases k with
  | false => exact Pst.here h3 g3 rfl
  | true =>
    refine ⟨ρ, m3, μ3, τ, g3, (s.nxt g n1).nxt g1 (n2.trans n3), (Pst.bind (RP := RD G τ) h3).imp fun w H4 ⟨f, m4, μ4, n4, g4, r4, h4⟩ => ?_⟩
    exact ⟨W, σ, e, f, m4, μ4, τ, g4, (r2.next n3 g2).next n4 g3, r4, h4⟩
end
end EV

/-! What the trees come to is what the program does: new objects, parts, calls. -/
namespace EV
open PySem PySem.Spec PyProof.Rows L2

/-- what is wanted behind a result that, if a list or a dict, is a new one -/
def PstF (G : Gw) (W : WX) (σ : L2.St) (μ τ : List Addr) (H : Hp) (r : R D) (Q : VK) : Prop :=
  match r with
  | .ok (.lst ds) m' => ∀ p vs H' μ', Nxt μ τ H μ' (p :: τ) H' → H p = none → Good G μ' (p :: τ) m' H' → H' p = some (.lst vs) → Reps G μ' (p :: τ) H' ds vs → Q (.ref p) H'
  | .ok (.dic ks ds) m' => ∀ p vs H' μ', Nxt μ τ H μ' (p :: τ) H' → H p = none → Good G μ' (p :: τ) m' H' → H' p = some (.dK (ks.zip vs)) → ks.length = vs.length → Reps G μ' (p :: τ) H' ds vs → Q (.ref p) H'
  | r => Pst G W σ μ τ H (RD G τ) r Q
def rdF (G : Gw) (W : WX) (f : Rho → Mem → R D) : TE := fun σ H Q => ∃ ρ m μ τ, Good G μ τ m H ∧ Slots G μ τ H ρ σ ∧ PstF G W σ μ τ H (f ρ m) Q
def EvF (X : Cx) (G : Gw) (W : WX) (e : Expr) (f : Rho → Mem → R D) : Prop := PE X e (rdF G W f)
section
variable {X : Cx} {G : Gw} {W : WX} {σ : L2.St} {μ τ μ' τ' : List Addr} {H H' : Hp} {m m' : Mem} {ρ : Rho} {r : R D} {Q : VK} {a b c e : Expr} {fa fb fc f : Rho → Mem → R D} {pos : Pos}
theorem Good.fresh (g : Good G μ τ m H) {p : Addr} (hp : H p = none) : p ∉ τ ∧ p ∉ μ := by
  refine ⟨fun z => (g.dis p z).2 hp, fun z => ?_⟩
  obtain ⟨o, e, _⟩ := g.mut z
  rw [hp] at e; cases e
theorem PstF.of (g : Good G μ τ m H) (h : Pst G W σ μ τ H (RD G τ) r Q) : PstF G W σ μ τ H r Q := by
  cases r with
  | bad => exact h
  | ex x p m1 => exact h
  | ok d m1 =>
    cases d with
    | lst ds =>
      intro p vs H' μ' n hp g' e rs
      exact h (.ref p) H' μ' n.free g'.free ⟨p, vs, rfl, e, (g'.dis p List.mem_cons_self).1, (g.fresh hp).1, rs.free g'⟩
    | dic ks ds =>
      intro p vs H' μ' n hp g' e hl rs
      exact h (.ref p) H' μ' n.free g'.free ⟨p, vs, rfl, e, hl, (g'.dis p List.mem_cons_self).1, (g.fresh hp).1, rs.free g'⟩
    | _ => exact h
theorem PstF.alc (g : Good G μ τ m H) (h : Pst G W σ μ τ H (RD G τ) (r.bind alcD) Q) : PstF G W σ μ τ H r Q := by
  cases r with
  | bad => exact h
  | ex x p m1 => exact h
  | ok d m1 =>
    cases d with
    | lst ds =>
      intro p vs H' μ' n hp g' e rs
      refine h (.ref p) H' (μ' ++ [p]) (n.track hp) (g'.track (c := .lst ds) ⟨vs, e, rs⟩ (g.fresh hp).1) ⟨p, rfl, ?_⟩
      rw [← g'.len]; simp
    | dic ks ds =>
      intro p vs H' μ' n hp g' e hl rs
      refine h (.ref p) H' (μ' ++ [p]) (n.track hp) (g'.track (c := .dic ks ds) ⟨vs, e, hl, rs⟩ (g.fresh hp).1) ⟨p, rfl, ?_⟩
      rw [← g'.len]; simp
    | _ => exact False.elim h
theorem EvF.ev (h : EvF X G W e f) : EvE X G W e f := PE.imp h fun σ H Q ⟨ρ, m, μ, τ, g, s, q⟩ => ⟨ρ, m, μ, τ, g, s, PstF.of g q⟩
theorem EvF.alc (h : EvF X G W e f) : EvE X G W e (fun ρ m => (f ρ m).bind alcD) := PE.imp h fun σ H Q ⟨ρ, m, μ, τ, g, s, q⟩ => ⟨ρ, m, μ, τ, g, s, PstF.alc g q⟩
theorem PstF.bind {α β : Type} {RP : List Addr → Hp → α → β → Prop} {r : R α} {k : α → Mem → R D} (g : Good G μ τ m H) (h : PstF G W σ μ τ H (r.bind k) Q) :
    Pst G W σ μ τ H RP r fun b H1 => ∃ a m1 μ1, Nxt μ τ H μ1 τ H1 ∧ Good G μ1 τ m1 H1 ∧ RP μ1 H1 a b ∧ PstF G W σ μ1 τ H1 (k a m1) Q := by
  cases r with
  | bad => exact h
  | ex x p m1 => exact h
  | ok a m1 =>
    intro v H1 μ1 n g1 r
    refine ⟨a, m1, μ1, n, g1, r, ?_⟩
    have h' : PstF G W σ μ τ H (k a m1) Q := h
    have back : ∀ {p : Addr}, H1 p = none → H p = none := fun {p} e => (n.none_of e).elim (fun z => by
      obtain ⟨o, e', _⟩ := g1.mut (n.sub z)
      rw [e] at e'; cases e') id
    have plain : Pst G W σ μ τ H (RD G τ) (k a m1) Q → Pst G W σ μ1 τ H1 (RD G τ) (k a m1) Q := fun h' => by
      cases hk : k a m1 with
      | bad => rw [hk] at h'; exact h'
      | ex x p m2 =>
        rw [hk] at h'
        exact fun c dd H' μ' n' g' r' => h' c dd H' μ' (n.trans n') g' r'
      | ok d m2 =>
        rw [hk] at h'
        exact fun v H' μ' n' g' r' => h' v H' μ' (n.trans n') g' r'
    cases hk : k a m1 with
    | bad => rw [hk] at h'; exact h'
    | ex x p m2 => rw [hk] at h' plain; exact plain h'
    | ok d m2 =>
      rw [hk] at h' plain
      cases d with
      | lst ds => exact fun p vs H' μ' n' hp g' e rs => h' p vs H' μ' (n.trans n') (back hp) g' e rs
      | dic ks ds => exact fun p vs H' μ' n' hp g' e hl rs => h' p vs H' μ' (n.trans n') (back hp) g' e hl rs
      | _ => exact plain h'

/-! ### rows of arguments -/
theorem ev_nil : EvA X G W [] (fun _ m => .ok [] m) := PA.imp pa_nil fun σ H Q ⟨ρ, m, μ, τ, g, s, h⟩ => Pst.here h g rfl
theorem ev_cons {es : List Expr} {fs : Rho → Mem → R (List D)} (ha : EvE X G W a fa) (hs : EvA X G W es fs) (hst : starEach (a :: es) X.env = (false, eval a X.env) :: starEach es X.env) :
    EvA X G W (a :: es) (fun ρ m => (fa ρ m).bind fun d m1 => (fs ρ m1).bind fun ds m2 => .ok (d :: ds) m2) := by
  refine PA.imp (pa_cons ha hs hst) fun σ H Q ⟨ρ, m, μ, τ, g, s, h⟩ => ?_
  refine ⟨ρ, m, μ, τ, g, s, (Pst.bind (RP := RD G τ) h).imp fun x H1 ⟨d, m1, μ1, n1, g1, r1, h1⟩ => ?_⟩
  refine ⟨ρ, m1, μ1, τ, g1, s.nxt g n1, (Pst.bind (RP := RL G τ) h1).imp fun xs H2 ⟨ds, m2, μ2, n2, g2, r2, h2⟩ => ?_⟩
  exact Pst.here h2 g2 (.cons (r1.next n2 g1) r2)

/-! ### displays -/
theorem small {n : Nat} (h : n ≤ 1000) : n ≤ sizeLine := by rw [sizeLine_eq]; omega
theorem ev_tup {es : List Expr} {fs : Rho → Mem → R (List D)} {k : Nat} (hs : EvA X G W es fs) (hl : ∀ ρ m ds m', fs ρ m = .ok ds m' → ds.length ≤ 1000) :
    EvE X G W (.Tuple es k pos) (fun ρ m => (fs ρ m).bind fun ds m1 => .ok (.tup ds) m1) := by
  refine PE.imp (pe_tup hs) fun σ H Q ⟨ρ, m, μ, τ, g, s, h⟩ => ?_
  refine ⟨ρ, m, μ, τ, g, s, ?_⟩
  have hl' := hl ρ m
  dsimp only at h
  cases hr : fs ρ m with
  | bad => rw [hr] at h; exact h
  | ex x p m1 => rw [hr] at h; exact h
  | ok ds m1 =>
    rw [hr] at h
    intro xs H1 μ1 n1 g1 r1
    refine ⟨small (by rw [r1.length]; exact hl' ds m1 hr), fun p hp => ?_⟩
    have nl : Nxt μ1 τ H1 μ1 (p :: τ) (upd H1 p (.tup xs)) := Nxt.laid hp
    exact h (.ref p) _ μ1 (n1.trans nl.free) (g1.laid hp).free ⟨p, xs, rfl, SqT.of upd_same, r1.next nl.free g1⟩
theorem ev_lst {es : List Expr} {fs : Rho → Mem → R (List D)} (hs : EvA X G W es fs) (hl : ∀ ρ m ds m', fs ρ m = .ok ds m' → ds.length ≤ 1000) :
    EvF X G W (.List es pos) (fun ρ m => (fs ρ m).bind fun ds m1 => .ok (.lst ds) m1) := by
  refine PE.imp (pe_lst hs) fun σ H Q ⟨ρ, m, μ, τ, g, s, h⟩ => ?_
  refine ⟨ρ, m, μ, τ, g, s, ?_⟩
  have hl' := hl ρ m
  dsimp only at h
  cases hr : fs ρ m with
  | bad => rw [hr] at h; exact h
  | ex x p m1 => rw [hr] at h; exact h
  | ok ds m1 =>
    rw [hr] at h
    intro xs H1 μ1 n1 g1 r1
    refine ⟨small (by rw [r1.length]; exact hl' ds m1 hr), fun p hp => ?_⟩
    have nl : Nxt μ1 τ H1 μ1 (p :: τ) (upd H1 p (.lst xs)) := Nxt.laid hp
    have hp0 : H p = none := (n1.none_of hp).elim (fun z => by
      obtain ⟨o, e', _⟩ := g1.mut (n1.sub z)
      rw [hp] at e'; cases e') id
    exact h p xs _ μ1 (n1.trans nl) hp0 (g1.laid hp) upd_same (r1.next nl g1)

/-! ### parts: an index, a slice -/
def rIxD (G : Gw) : R2 := rOp G fun d i m => R.of (idxD d i m) m
theorem ev_idx (ho : IxR X (rIxD G)) (ha : EvE X G W a fa) (hb : EvE X G W b fb) (hs : PlainIx b) :
    EvE X G W (.Subscript a b pos) (fun ρ m => (fa ρ m).bind fun d m1 => (fb ρ m1).bind fun e m2 => R.of (idxD d e m2) m2) := PE.imp (pe_ix ho ha hb hs) fun _ _ _ h => two h
/-- an optional whole number -/
def rdO (G : Gw) (W : WX) (f : Rho → Mem → R (Option Int)) : TO := fun σ H Q => ∃ ρ m μ τ, Good G μ τ m H ∧ Slots G μ τ H ρ σ ∧ Pst G W σ μ τ H REq (f ρ m) Q
def EvO (X : Cx) (G : Gw) (W : WX) (e : Option Expr) (f : Rho → Mem → R (Option Int)) : Prop := PO X e (rdO G W f)
theorem PO.imp {X : Cx} {e : Option Expr} {t t' : TO} (h : PO X e t) (q : ∀ σ H Q, t' σ H Q → t σ H Q) : PO X e t' := ⟨fun pins s σ H Q I z => h.run pins s σ H Q I (q σ H Q z)⟩
theorem ev_ono : EvO X G W none (fun _ m => .ok none m) := PO.imp po_none fun σ H Q ⟨ρ, m, μ, τ, g, s, h⟩ => Pst.here h g rfl
theorem ev_oyes (ha : EvE X G W a fa) : EvO X G W (some a) (fun ρ m => (fa ρ m).bind fun d m1 => R.of (optI d) m1) := by
  refine PO.imp (po_some ha) fun σ H Q ⟨ρ, m, μ, τ, g, s, h⟩ => ?_
  refine ⟨ρ, m, μ, τ, g, s, (Pst.bind (RP := RD G τ) h).imp fun x H1 ⟨d, m1, μ1, n1, g1, r1, h1⟩ => ?_⟩
  cases d with
  | int i => exact ⟨i, r1, Pst.here h1 g1 rfl⟩
  | _ => exact False.elim h1
/-- what a slice by values wants -/
def rSlD (G : Gw) : V → Option Int → Option Int → Hp → VK → Prop := fun x lo hi H Q => ∃ (W : WX) (σ : L2.St) (d : D) (m : Mem) (μ τ : List Addr), Good G μ τ m H ∧ Rep G μ τ H d x ∧ PstF G W σ μ τ H (R.of (slcD d lo hi m) m) Q
theorem ev_slc {lo hi : Option Expr} {fl fh : Rho → Mem → R (Option Int)} {p2 : Pos} (ho : SlR X (rSlD G)) (ha : EvE X G W a fa) (hl : EvO X G W lo fl) (hh : EvO X G W hi fh) :
    EvF X G W (.Subscript a (.Slice lo hi none p2) pos) (fun ρ m => (fa ρ m).bind fun d m1 => (fl ρ m1).bind fun l m2 => (fh ρ m2).bind fun h m3 => R.of (slcD d l h m3) m3) := by
  refine PE.imp (pe_slice ho ha hl hh) fun σ H Q ⟨ρ, m, μ, τ, g, s, h⟩ => ?_
  refine ⟨ρ, m, μ, τ, g, s, (PstF.bind (RP := RD G τ) g h).imp fun x H1 ⟨d, m1, μ1, n1, g1, r1, h1⟩ => ?_⟩
  refine ⟨ρ, m1, μ1, τ, g1, s.nxt g n1, (PstF.bind (RP := REq) g1 h1).imp fun l H2 ⟨l', m2, μ2, n2, g2, r2, h2⟩ => ?_⟩
  subst r2
  refine ⟨ρ, m2, μ2, τ, g2, (s.nxt g n1).nxt g1 n2, (PstF.bind (RP := REq) g2 h2).imp fun h H3 ⟨h', m3, μ3, n3, g3, r3, h3⟩ => ?_⟩
  subst r3
  exact ⟨W, σ, d, m3, μ3, τ, g3, (r1.next n2 g1).next n3 g2, h3⟩

/-! ### built-in functions and methods by their values -/
def rCl (G : Gw) (k : List D → Mem → R D) : List V → Hp → VK → Prop := fun xs H Q => ∃ (W : WX) (σ : L2.St) (ds : List D) (m : Mem) (μ τ : List Addr), Good G μ τ m H ∧ Reps G μ τ H ds xs ∧ PstF G W σ μ τ H (k ds m) Q
theorem args_inv {fs : Rho → Mem → R (List D)} {k : List D → Mem → R D} (h : rdF G W (fun ρ m => (fs ρ m).bind fun ds m1 => k ds m1) σ H Q) : rdA G W fs σ H fun xs H1 => rCl G k xs H1 Q := by
  obtain ⟨ρ, m, μ, τ, g, s, h⟩ := h
  refine ⟨ρ, m, μ, τ, g, s, (PstF.bind (RP := RL G τ) g h).imp fun x H1 ⟨d, m1, μ1, n1, g1, r1, h1⟩ => ?_⟩
  exact ⟨W, σ, d, m1, μ1, τ, g1, r1, h1⟩
theorem ev_bi {es : List Expr} {fs : Rho → Mem → R (List D)} {k : List D → Mem → R D} {id : String} {x : Str} {p : Pos} (hc : CallR X (.builtin id) (rCl G k)) (hg : Gl X x) (hm : X.mg x = none) (hv : bootBuiltins x = some (.builtin id)) (ha : EvA X G W (e :: es) fs) (hn : x ≠ "__name__") (hdb : (x == ("__debug__" : Str)) = false)
    (he : starEach (e :: es) X.env = (false, eval e X.env) :: starEach es X.env) (hpl : (backTo pos (starEach es X.env)).any (·.1) = false) :
    EvF X G W (.Call (.Name x p) (e :: es) [] pos) (fun ρ m => (fs ρ m).bind fun ds m1 => k ds m1) := PE.imp (pe_callB hc hg hm hv ha hn hdb he hpl) fun _ _ _ h => args_inv h
theorem ev_ty {es : List Expr} {fs : Rho → Mem → R (List D)} {k : List D → Mem → R D} {T : String} {x : Str} {p : Pos} (hc : CallR X (.type T) (rCl G k)) (hg : Gl X x) (hm : X.mg x = none) (hv : bootBuiltins x = some (.type T)) (ha : EvA X G W (e :: es) fs) (hn : x ≠ "__name__") (hdb : (x == ("__debug__" : Str)) = false)
    (he : starEach (e :: es) X.env = (false, eval e X.env) :: starEach es X.env) (hpl : (backTo pos (starEach es X.env)).any (·.1) = false) :
    EvF X G W (.Call (.Name x p) (e :: es) [] pos) (fun ρ m => (fs ρ m).bind fun ds m1 => k ds m1) := PE.imp (pe_callTy hc hg hm hv ha hn hdb he hpl) fun _ _ _ h => args_inv h

/-! ### defs -/
/-- a def's promise, by what its tree comes to -/
def spD (G : Gw) (k : List D → Mem → R D) : Sp := fun vs H Q E => ∃ (ds : List D) (m : Mem) (μ τ : List Addr), Good G μ τ m H ∧ Reps G μ τ H ds vs ∧ Pst G (fun c dd _ H' => E c dd H') [] μ τ H (RD G τ) (k ds m) Q
theorem ev_call {es : List Expr} {fs : Rho → Mem → R (List D)} {k : List D → Mem → R D} {x : Str} {p : Pos} {j : Nat} {f : Addr} {fd : FuncData} {ps : List Str} (F : FnOk X.prog X.w X.K X.mg X.base (CX X.prog X.w) j f fd ps (spD G k)) (hr : Room j X.A) (hg : Gl X x) (hm : X.mg x = some (.ref f)) (hk : PySem.W.keepIn X.K (.ref f) = true) (hb : Binds X.K fd ps [])
    (tk : Takes X W) (ha : EvA X G W (e :: es) fs) (hdb : (x == ("__debug__" : Str)) = false)
    (he : starEach (e :: es) X.env = (false, eval e X.env) :: starEach es X.env) (hpl : (backTo pos (starEach es X.env)).any (·.1) = false) :
    EvE X G W (.Call (.Name x p) (e :: es) [] pos) (fun ρ m => (fs ρ m).bind fun ds m1 => k ds m1) := by
  refine PE.imp (pe_callS F hr hg hm hk hb (fun σ => passAt tk σ) ha hdb he hpl) fun σ H Q ⟨ρ, m, μ, τ, g, sl, h⟩ => ?_
  refine ⟨ρ, m, μ, τ, g, sl, (Pst.bind (RP := RL G τ) h).imp fun xs H1 ⟨ds, m1, μ1, n1, g1, r1, h1⟩ => ?_⟩
  refine ⟨ds, m1, μ1, τ, g1, r1, ?_⟩
  cases hk : k ds m1 with
  | bad => rw [hk] at h1; exact h1
  | ok d m2 => rw [hk] at h1; exact h1
  | ex x p m2 => rw [hk] at h1; exact h1
end
end EV

/-! The primitives by their values. -/
namespace EV
open PySem PySem.Spec PyProof.Rows L2

section
variable {X : Cx} {G : Gw} {W : WX} {σ : L2.St} {μ τ : List Addr} {H : Hp} {m : Mem} {Q : VK} {pins : List (Addr × Obj)} {s : Shared}
theorem lim_eq : lim = sizeLine := by rw [sizeLine_eq]; rfl
/-- data stand as data -/
theorem allF_cons {n : Nat} {d : D} {ds : List D} : (d :: ds).all (plain n) = (plain n d && ds.all (plain n)) := rfl
mutual
theorem Rep.dp (hK : G.K = X.K) : ∀ (d : D) (n : Nat) (v : V), plain n d = true → Rep G μ τ H d v → Dp X.K H v (pd d)
  | .non, _, _, _, r => by cases (show _ = V.non from r); exact .non
  | .bl b, _, _, _, r => by cases (show _ = V.bl b from r); exact .bl b
  | .int i, _, _, _, r => by cases (show _ = V.int i from r); exact .int i
  | .str x, _, _, _, r => by cases (show _ = V.str x from r.1); exact .str x
  | .tup ds, n, _, h, r => by
    obtain ⟨a, vs, rfl, q, rs⟩ := r
    cases n with
    | zero => exact nomatch h
    | succ n => exact .tup (hK ▸ q) (Reps.dp hK ds n vs h rs)
  | .lst ds, n, _, h, r => by
    obtain ⟨a, vs, rfl, q, _, _, rs⟩ := r
    cases n with
    | zero => exact nomatch h
    | succ n => exact .lst (.inl (.inl q)) (Reps.dp hK ds n vs h rs)
  | .dic _ _, n, _, h, _ => by cases n <;> exact nomatch h
  | .ref _, n, _, h, _ => by cases n <;> exact nomatch h
  | .fn, n, _, h, _ => by cases n <;> exact nomatch h
  | .scr _, n, _, h, _ => by cases n <;> exact nomatch h
theorem Reps.dp (hK : G.K = X.K) : ∀ (ds : List D) (n : Nat) (vs : List V), ds.all (plain n) = true → Reps G μ τ H ds vs → DpAll X.K H vs (pds ds)
  | [], _, _, _, r => by cases (show _ = [] from r); exact .nil
  | d :: ds, n, _, h, r => by
    obtain ⟨v, r', rfl, q, rs⟩ := r
    rw [allF_cons, Bool.and_eq_true] at h
    exact .cons (Rep.dp hK d n v h.1 q) (Reps.dp hK ds n r' h.2 rs)
end
mutual
theorem Rep.shaped : ∀ (d : D) (n : Nat) (v : V), plain n d = true → Rep G μ τ H d v → (pd d).canLay0 = true ∧ (pd d).depth ≤ n
  | .non, _, _, _, _ => ⟨rfl, Nat.zero_le _⟩
  | .bl _, _, _, _, _ => ⟨rfl, Nat.zero_le _⟩
  | .int _, _, _, _, _ => ⟨rfl, Nat.zero_le _⟩
  | .str _, _, _, _, r => ⟨r.2, Nat.zero_le _⟩
  | .tup ds, n, _, h, r => by
    obtain ⟨a, vs, rfl, q, rs⟩ := r
    cases n with
    | zero => exact nomatch h
    | succ n =>
      obtain ⟨h1, h2⟩ := Reps.shaped ds n vs h rs
      exact ⟨h1, Nat.succ_le_succ h2⟩
  | .lst ds, n, _, h, r => by
    obtain ⟨a, vs, rfl, q, _, _, rs⟩ := r
    cases n with
    | zero => exact nomatch h
    | succ n =>
      obtain ⟨h1, h2⟩ := Reps.shaped ds n vs h rs
      exact ⟨h1, Nat.succ_le_succ h2⟩
  | .dic _ _, n, _, h, _ => by cases n <;> exact nomatch h
  | .ref _, n, _, h, _ => by cases n <;> exact nomatch h
  | .fn, n, _, h, _ => by cases n <;> exact nomatch h
  | .scr _, n, _, h, _ => by cases n <;> exact nomatch h
theorem Reps.shaped : ∀ (ds : List D) (n : Nat) (vs : List V), ds.all (plain n) = true → Reps G μ τ H ds vs → PyData.canLayAll0 (pds ds) = true ∧ PyData.depthAll (pds ds) ≤ n
  | [], _, _, _, _ => ⟨rfl, Nat.zero_le _⟩
  | d :: ds, n, _, h, r => by
    obtain ⟨v, r', rfl, q, rs⟩ := r
    rw [allF_cons, Bool.and_eq_true] at h
    obtain ⟨h1, h2⟩ := Rep.shaped d n v h.1 q
    obtain ⟨h3, h4⟩ := Reps.shaped ds n r' h.2 rs
    refine ⟨?_, Nat.max_le.mpr ⟨h2, h4⟩⟩
    show (PyData.canLay0 (pd d) && PyData.canLayAll0 (pds ds)) = true
    rw [h1, h3]; rfl
end
/-- a cell's list as a list -/
theorem lst_inv {d : D} {x : V} {xs : List D} (g : Good G μ τ m H) (r : Rep G μ τ H d x) (h : lstOf m d = some xs) : ∃ a vs, x = .ref a ∧ H a = some (.lst vs) ∧ Reps G μ τ H xs vs := by
  cases d with
  | lst ys =>
    cases (show ys = xs from Option.some.inj h)
    obtain ⟨a, vs, e, q, _, _, rs⟩ := r
    exact ⟨a, vs, e, q, rs⟩
  | ref n =>
    obtain ⟨a, e, q⟩ := r
    unfold lstOf at h
    dsimp only at h
    cases hc : m[n]? with
    | none => rw [hc] at h; cases h
    | some c =>
      rw [hc] at h
      cases c with
      | lst ys =>
        cases (show ys = xs from Option.some.inj h)
        obtain ⟨vs, h1, h2⟩ := g.cell n _ a hc q
        exact ⟨a, vs, e, h1, h2⟩
      | _ => cases h
  | _ => cases h
theorem seq_inv {d : D} {x : V} {xs : List D} (hK : G.K = X.K) (g : Good G μ τ m H) (r : Rep G μ τ H d x) (h : seqOf m d = some xs) : ∃ a vs, x = .ref a ∧ (SqL X.K H a vs ∨ SqT X.K H a vs) ∧ Reps G μ τ H xs vs := by
  cases d with
  | tup ys =>
    cases (show ys = xs from Option.some.inj h)
    obtain ⟨a, vs, e, q, rs⟩ := r
    exact ⟨a, vs, e, .inr (hK ▸ q), rs⟩
  | lst ys =>
    obtain ⟨a, vs, e, q, rs⟩ := lst_inv g r (show lstOf m (.lst ys) = some xs from h)
    exact ⟨a, vs, e, .inl (.inl (.inl q)), rs⟩
  | ref n =>
    obtain ⟨a, vs, e, q, rs⟩ := lst_inv g r (show lstOf m (.ref n) = some xs from h)
    exact ⟨a, vs, e, .inl (.inl (.inl q)), rs⟩
  | _ => cases h
theorem dic_inv {d : D} {x : V} {p : List Key × List D} (g : Good G μ τ m H) (r : Rep G μ τ H d x) (h : dicOf m d = some p) : ∃ a vs, x = .ref a ∧ H a = some (.dK (p.1.zip vs)) ∧ p.1.length = vs.length ∧ Reps G μ τ H p.2 vs := by
  cases d with
  | dic ks ys =>
    cases (show (ks, ys) = p from Option.some.inj h)
    obtain ⟨a, vs, e, q, l, _, _, rs⟩ := r
    exact ⟨a, vs, e, q, l, rs⟩
  | ref n =>
    obtain ⟨a, e, q⟩ := r
    unfold dicOf at h
    dsimp only at h
    cases hc : m[n]? with
    | none => rw [hc] at h; cases h
    | some c =>
      rw [hc] at h
      cases c with
      | dic ks ys =>
        cases (show (ks, ys) = p from Option.some.inj h)
        obtain ⟨vs, h1, l, h2⟩ := g.cell n _ a hc q
        exact ⟨a, vs, e, h1, l, h2⟩
      | _ => cases h
  | _ => cases h
theorem res_dp {d : D} {x : V} (hK : G.K = X.K) (g : Good G μ τ m H) (r : Rep G μ τ H d x) {n : Nat} (h : plain n (res m d) = true) : Dp X.K H x (pd (res m d)) ∧ (pd (res m d)).canLay0 = true ∧ (pd (res m d)).depth ≤ n := by
  cases d with
  | ref k =>
    obtain ⟨a, e, q⟩ := r
    unfold res at h ⊢
    dsimp only at h ⊢
    cases hc : m[k]? with
    | none => rw [hc] at h; cases n <;> exact nomatch h
    | some c =>
      rw [hc] at h
      cases c with
      | lst ys =>
        dsimp only at h ⊢
        obtain ⟨vs, h1, h2⟩ := g.cell k _ a hc q
        cases n with
        | zero => exact nomatch h
        | succ n =>
          obtain ⟨s1, s2⟩ := Reps.shaped ys n vs h h2
          rw [e]
          exact ⟨.lst (.inl (.inl h1)) (Reps.dp hK ys n vs h h2), s1, Nat.succ_le_succ s2⟩
      | _ => cases n <;> exact nomatch h
  | _ => exact ⟨Rep.dp hK _ n x h r, Rep.shaped _ n x h r⟩

/-! ### operators -/
theorem here1 {d : D} {x : V} (h : Pst G W σ μ τ H (RD G τ) (.ok d m) Q) (g : Good G μ τ m H) (r : Rep G μ τ H d x) : Q x H := Pst.here h g r
/-- a new tuple -/
theorem newT {ds : List D} {vs : List V} {p : Addr} (h : Pst G W σ μ τ H (RD G τ) (.ok (.tup ds) m) Q) (g : Good G μ τ m H) (rs : Reps G μ τ H ds vs) (hp : H p = none) : Q (.ref p) (upd H p (.tup vs)) := by
  have nl : Nxt μ τ H μ (p :: τ) (upd H p (.tup vs)) := Nxt.laid hp
  exact h (.ref p) _ μ nl.free (g.laid hp).free ⟨p, vs, rfl, SqT.of upd_same, rs.next nl.free g⟩
/-- a new list -/
theorem newL {ds : List D} {vs : List V} {p : Addr} (h : PstF G W σ μ τ H (.ok (.lst ds) m) Q) (g : Good G μ τ m H) (rs : Reps G μ τ H ds vs) (hp : H p = none) : Q (.ref p) (upd H p (.lst vs)) := by
  have nl : Nxt μ τ H μ (p :: τ) (upd H p (.lst vs)) := Nxt.laid hp
  exact h p vs _ μ nl hp (g.laid hp) upd_same (rs.next nl g)
theorem sOk_add {x y : Str} (hx : sOk x = true) (hy : sOk y = true) : sOk (x ++ y) = true := by
  show Array.all (x.cps ++ y.cps) _ = true
  unfold sOk at hx hy
  rw [Array.all_append, hx, hy]; rfl
theorem Reps.ne {ds : List D} {vs : List V} (r : Reps G μ τ H ds vs) (h : ds ≠ []) : vs ≠ [] := by
  intro z
  subst z
  have := r.length
  cases ds with
  | nil => exact h rfl
  | cons _ _ => simp at this
/-- like rOp, for what may be a new list -/
def rOpF (G : Gw) (k : D → D → Mem → R D) : R2 := fun x y H Q => ∃ (W : WX) (σ : L2.St) (d e : D) (m : Mem) (μ τ : List Addr), Good G μ τ m H ∧ Rep G μ τ H d x ∧ Rep G μ τ H e y ∧ PstF G W σ μ τ H (k d e m) Q
theorem opF {f : Value → Value → Sem Value} {k : D → D → Mem → R D} (h : OpR X f (rOpF G k)) : OpR X f (rOp G k) := fun pins s σ H x y v u Q I rx ry ⟨W, σ', d, e, m, μ, τ, g, r1, r2, q⟩ =>
  h pins s σ H x y v u Q I rx ry ⟨W, σ', d, e, m, μ, τ, g, r1, r2, PstF.of g q⟩
theorem twoF {a b : Expr} {fa fb : Rho → Mem → R D} {k : D → D → Mem → R D} {σ : L2.St} {H : Hp} {Q : VK} (h : rdF G W (fun ρ m => (fa ρ m).bind fun d m1 => (fb ρ m1).bind fun e m2 => k d e m2) σ H Q) :
    tOp (rOpF G k) (rdE G W fa) (rdE G W fb) σ H Q := by
  obtain ⟨ρ, m, μ, τ, g, s, h⟩ := h
  refine ⟨ρ, m, μ, τ, g, s, (PstF.bind (RP := RD G τ) g h).imp fun x H1 ⟨d, m1, μ1, n1, g1, r1, h1⟩ => ?_⟩
  refine ⟨ρ, m1, μ1, τ, g1, s.nxt g n1, (PstF.bind (RP := RD G τ) g1 h1).imp fun y H2 ⟨e, m2, μ2, n2, g2, r2, h2⟩ => ?_⟩
  exact ⟨W, σ, d, e, m2, μ2, τ, g2, r1.next n2 g1, r2, h2⟩
theorem okT {a b : Nat} (h : a ≤ b) (e : b = lim) : a ≤ sizeLine := by rw [← lim_eq, ← e]; exact h
theorem op_addF (hK : G.K = X.K) : OpR X (binaryOp .Add) (rOpF G addD) := by
  intro pins s σ H x y v u Q I rx ry h
  obtain ⟨W, σ', d, e, m, μ, τ, g, r1, r2, q⟩ := h
  unfold addD at q
  split at q
  · cases (show x = _ from r1); cases (show y = _ from r2)
    exact op_add pins s σ H _ _ v u Q I rx ry ⟨_, _, rfl, rfl, Pst.here (W := W) (σ := σ') q g rfl⟩
  · rename_i x1 x2
    cases (show x = _ from r1.1); cases (show y = _ from r2.1)
    by_cases hl : x1.length + x2.length ≤ lim
    · rw [if_pos hl] at q
      exact op_add_str pins s σ H _ _ v u Q I rx ry ⟨_, _, rfl, rfl, by rw [← lim_eq]; exact hl, Pst.here (W := W) (σ := σ') q g ⟨rfl, sOk_add r1.2 r2.2⟩⟩
    · rw [if_neg hl] at q; exact False.elim q
  · rename_i xs ys
    by_cases hl : xs ≠ [] ∧ xs.length + ys.length ≤ lim
    · rw [if_pos hl] at q
      obtain ⟨a, vs, rfl, p1, s1⟩ := r1
      obtain ⟨b, ws, rfl, p2, s2⟩ := r2
      refine op_catT pins s σ H _ _ v u Q I rx ry ⟨a, b, vs, ws, rfl, rfl, hK ▸ p1, hK ▸ p2, s1.ne hl.1, by rw [← lim_eq, s1.length, s2.length]; exact hl.2, fun z => ?_, fun _ p hp => ?_⟩
      · subst z
        refine Pst.here (W := W) (σ := σ') q g ⟨a, vs, rfl, p1, ?_⟩
        have := s1.append s2
        rw [List.append_nil] at this
        exact this
      · exact newT (W := W) (σ := σ') q g (s1.append s2) hp
    · rw [if_neg hl] at q; exact False.elim q
  · rename_i d' e' h1 h2 h3
    split at q
    · rename_i xs ys l1 l2
      by_cases hl : xs.length + ys.length ≤ lim
      · rw [if_pos hl] at q
        obtain ⟨a, vs, rfl, p1, s1⟩ := lst_inv g r1 l1
        obtain ⟨b, ws, rfl, p2, s2⟩ := lst_inv g r2 l2
        exact op_cat pins s σ H _ _ v u Q I rx ry ⟨a, b, vs, ws, rfl, rfl, p1, p2, by rw [← lim_eq, s1.length, s2.length]; exact hl, fun p hp => newL q g (s1.append s2) hp⟩
      · rw [if_neg hl] at q; exact False.elim q
    · exact False.elim q
theorem Reps.flat {ds : List D} {vs : List V} (r : Reps G μ τ H ds vs) : ∀ k : Nat, Reps G μ τ H (List.replicate k ds).flatten (List.replicate k vs).flatten
  | 0 => rfl
  | k + 1 => by
    rw [List.replicate_succ, List.replicate_succ, List.flatten_cons, List.flatten_cons]
    exact r.append (Reps.flat r k)
theorem op_mulF : OpR X (binaryOp .Mult) (rOpF G mulD) := by
  intro pins s σ H x y v u Q I rx ry h
  obtain ⟨W, σ', d, e, m, μ, τ, g, r1, r2, q⟩ := h
  unfold mulD at q
  split at q
  · rename_i i j
    cases (show x = _ from r1); cases (show y = _ from r2)
    by_cases hl : mulOk i j = true
    · rw [if_pos hl] at q
      exact op_mul pins s σ H _ _ v u Q I rx ry ⟨_, _, rfl, rfl, (show (-(2 ^ 64) < i ∧ i < 2 ^ 64) ∨ (-(2 ^ 64) < j ∧ j < 2 ^ 64) from of_decide_eq_true hl), Pst.here (W := W) (σ := σ') q g rfl⟩
    · rw [if_neg hl] at q; exact False.elim q
  · rename_i k _
    cases (show y = _ from r2)
    split at q
    · rename_i xs l1
      by_cases hl : xs.length * k.toNat ≤ lim ∧ -(2 ^ 63) ≤ k ∧ k < 2 ^ 63
      · rw [if_pos hl] at q
        obtain ⟨a, vs, rfl, p1, s1⟩ := lst_inv g r1 l1
        exact op_rep pins s σ H _ _ v u Q I rx ry ⟨a, k, vs, rfl, rfl, p1, hl.2.1, hl.2.2, by rw [← lim_eq, s1.length]; exact hl.1, fun p hp => newL q g (s1.flat k.toNat) hp⟩
      · rw [if_neg hl] at q; exact False.elim q
    · exact False.elim q
  · exact False.elim q
/-- every operator that is served -/
theorem op_binF (hK : G.K = X.K) (op : Operator) : OpR X (binaryOp op) (rOpF G (binD op)) := by
  intro pins s σ H x y v u Q I rx ry h
  cases op with
  | Add => exact op_addF hK pins s σ H x y v u Q I rx ry h
  | Mult => exact op_mulF pins s σ H x y v u Q I rx ry h
  | Sub =>
    obtain ⟨W, σ', d, e, m, μ, τ, g, r1, r2, q⟩ := h
    unfold binD at q
    dsimp only at q
    split at q
    · cases (show x = _ from r1); cases (show y = _ from r2)
      exact op_sub pins s σ H _ _ v u Q I rx ry ⟨_, _, rfl, rfl, Pst.here (W := W) (σ := σ') q g rfl⟩
    · exact False.elim q
  | FloorDiv =>
    obtain ⟨W, σ', d, e, m, μ, τ, g, r1, r2, q⟩ := h
    unfold binD at q
    dsimp only at q
    split at q
    · rename_i i j
      cases (show x = _ from r1); cases (show y = _ from r2)
      by_cases hl : j ≠ 0 ∧ j.natAbs < 1073741824
      · rw [if_pos hl] at q
        exact op_fdivN pins s σ H _ _ v u Q I rx ry ⟨_, _, rfl, rfl, hl, Pst.here (W := W) (σ := σ') q g rfl⟩
      · rw [if_neg hl] at q; exact False.elim q
    · exact False.elim q
  | Mod =>
    obtain ⟨W, σ', d, e, m, μ, τ, g, r1, r2, q⟩ := h
    unfold binD at q
    dsimp only at q
    split at q
    · rename_i i j
      cases (show x = _ from r1); cases (show y = _ from r2)
      by_cases hl : j ≠ 0
      · rw [if_pos hl] at q
        exact op_modN pins s σ H _ _ v u Q I rx ry ⟨_, _, rfl, rfl, hl, Pst.here (W := W) (σ := σ') q g rfl⟩
      · rw [if_neg hl] at q; exact False.elim q
    · exact False.elim q
  | Pow =>
    obtain ⟨W, σ', d, e, m, μ, τ, g, r1, r2, q⟩ := h
    unfold binD at q
    dsimp only at q
    split at q
    · rename_i i j
      cases (show x = _ from r1); cases (show y = _ from r2)
      by_cases hl : 0 ≤ j ∧ j ≤ 1000000 ∧ i.natAbs < 2 ^ 64
      · rw [if_pos hl] at q
        exact op_pow pins s σ H _ _ v u Q I rx ry ⟨_, _, rfl, rfl, hl, Pst.here (W := W) (σ := σ') q g rfl⟩
      · rw [if_neg hl] at q; exact False.elim q
    · exact False.elim q
  | _ =>
    obtain ⟨W, σ', d, e, m, μ, τ, g, r1, r2, q⟩ := h
    exact False.elim q

/-! ### comparisons -/
/-- what a comparison by values wants -/
abbrev kCmp (op : CmpOp) : D → D → Mem → R D := fun d e m => R.of ((cmpD op d e m).map .bl) m
theorem cmp_inv {o : Option Bool} (h : Pst G W σ μ τ H (RD G τ) (R.of (o.map .bl) m) Q) (g : Good G μ τ m H) : ∃ b, o = some b ∧ Q (.bl b) H := by
  cases o with
  | none => exact False.elim h
  | some b => exact ⟨b, rfl, Pst.here h g rfl⟩
theorem shaped_of {d : PyData} (h : d.canLay0 = true) (h2 : d.depth ≤ 60) : SeqAt.shaped d = true := by
  unfold SeqAt.shaped
  rw [h, Bool.true_and]
  exact decide_eq_true (by omega)
theorem eq_inv {d e : D} {x y : V} {b : Bool} (hK : G.K = X.K) (g : Good G μ τ m H) (r1 : Rep G μ τ H d x) (r2 : Rep G μ τ H e y) (h : eqD m d e = some b) :
    ∃ p q, Dp X.K H x p ∧ Dp X.K H y q ∧ SeqAt.shaped p = true ∧ SeqAt.shaped q = true ∧ b = PyData.eqv p q := by
  unfold eqD at h
  by_cases hp : (plain 60 (res m d) && plain 60 (res m e)) = true
  · rw [if_pos hp] at h
    rw [Bool.and_eq_true] at hp
    obtain ⟨a1, a2, a3⟩ := res_dp hK g r1 hp.1
    obtain ⟨b1, b2, b3⟩ := res_dp hK g r2 hp.2
    exact ⟨_, _, a1, b1, shaped_of a2 a3, shaped_of b2 b3, (Option.some.inj h).symm⟩
  · rw [if_neg hp] at h; cases h
theorem op_eqO (hK : G.K = X.K) (hu : X.A.units + 64 < cLine) : OpR X (compareOp .Eq) (rOp G (kCmp .Eq)) := by
  intro pins s σ H x y v u Q I rx ry ⟨W, σ', d, e, m, μ, τ, g, r1, r2, q⟩
  obtain ⟨b, hb, q⟩ := cmp_inv q g
  obtain ⟨p, p', h1, h2, h3, h4, rfl⟩ := eq_inv hK g r1 r2 hb
  exact op_eqD hu pins s σ H x y v u Q I rx ry ⟨p, p', h1, h2, h3, h4, q⟩
theorem op_neO (hK : G.K = X.K) (hu : X.A.units + 64 < cLine) : OpR X (compareOp .NotEq) (rOp G (kCmp .NotEq)) := by
  intro pins s σ H x y v u Q I rx ry ⟨W, σ', d, e, m, μ, τ, g, r1, r2, q⟩
  obtain ⟨b, hb, q⟩ := cmp_inv q g
  cases he : eqD m d e with
  | none =>
    have hb' : (eqD m d e).map (!·) = some b := hb
    rw [he] at hb'; cases hb'
  | some c =>
    have hb' : (eqD m d e).map (!·) = some b := hb
    rw [he] at hb'
    cases (show (!c) = b from Option.some.inj hb')
    obtain ⟨p, p', h1, h2, h3, h4, rfl⟩ := eq_inv hK g r1 r2 he
    exact op_neD hu pins s σ H x y v u Q I rx ry ⟨p, p', h1, h2, h3, h4, q⟩
/-- data are read as data -/
theorem reads_of {d : D} {x : V} {v : Value} {n : Nat} (hK : G.K = X.K) (I : Inv X pins σ H s) (r : Rep G μ τ H d x) (h : plain n d = true) (rx : RelV x v) : ∃ as, Reads s.heap v (pd d) as := Dp.reads I (pd d) x v (Rep.dp hK d n x h r) rx
theorem lt_data {d e : D} {x y : V} {v u : Value} (hK : G.K = X.K) (hu : X.A.units + 64 < cLine) (I : Inv X pins σ H s) (r1 : Rep G μ τ H d x) (r2 : Rep G μ τ H e y) (rx : RelV x v) (ry : RelV y u) (h1 : plain 60 d = true) (h2 : plain 60 e = true) (ha : PySem.W.alike (pd d) (pd e) = true) (hn : pd d ≠ .none)
    (q : Q (.bl (PySem.W.dataLt (pd d) (pd e))) H) : wpAny (model X.prog X.w) X.A (compareOp .Lt v u) (EP X pins σ Q) X.xe s := by
  obtain ⟨as, q1⟩ := reads_of hK I r1 h1 rx
  obtain ⟨bs, q2⟩ := reads_of hK I r2 h2 ry
  have e1 := (Rep.shaped d 60 x h1 r1).2
  have e2 : min (pd d).depth (pd e).depth ≤ (pd d).depth := Nat.min_le_left _ _
  exact PySem.W.rcLt_alike (pd d) (pd e) X.A s v u as bs q1 q2 ha hn (by omega) X.prog X.w _ _ ⟨.bl _, H, I, rfl, q⟩
theorem op_ltO (hK : G.K = X.K) (hu : X.A.units + 64 < cLine) : OpR X (compareOp .Lt) (rOp G (kCmp .Lt)) := by
  intro pins s σ H x y v u Q I rx ry ⟨W, σ', d, e, m, μ, τ, g, r1, r2, q⟩
  obtain ⟨b, hb, q⟩ := cmp_inv q g
  have hb : ltD d e = some b := hb
  unfold ltD at hb
  split at hb
  · cases (show x = _ from r1); cases (show y = _ from r2)
    cases hb
    exact op_lt pins s σ H _ _ v u Q I rx ry ⟨_, _, rfl, rfl, q⟩
  · cases (show x = _ from r1.1); cases (show y = _ from r2.1)
    cases hb
    exact op_lt_str pins s σ H _ _ v u Q I rx ry ⟨_, _, rfl, rfl, q⟩
  · rename_i xs _
    by_cases hc : (plain 60 (.tup xs) && plain 60 e && PySem.W.alike (pd (.tup xs)) (pd e)) = true
    · rw [if_pos hc] at hb
      cases Option.some.inj hb
      simp only [Bool.and_eq_true] at hc
      obtain ⟨⟨c1, c2⟩, c3⟩ := hc
      exact lt_data hK hu I r1 r2 rx ry c1 c2 c3 (fun z => nomatch z) q
    · rw [if_neg hc] at hb; cases hb
  · cases hb
theorem two_ints {op : CmpOp} {p : Int → Int → Bool} {f : D → D → Option Bool} (ho : OpR X (compareOp op) (rI0 fun i j => .bl (p i j))) (hf : ∀ d e b, f d e = some b → ∃ i j, d = .int i ∧ e = .int j ∧ b = p i j) :
    OpR X (compareOp op) (rOp G fun d e m => R.of ((f d e).map .bl) m) := by
  intro pins s σ H x y v u Q I rx ry ⟨W, σ', d, e, m, μ, τ, g, r1, r2, q⟩
  obtain ⟨b, hb, q⟩ := cmp_inv q g
  obtain ⟨i, j, rfl, rfl, rfl⟩ := hf d e b hb
  exact ho pins s σ H x y v u Q I rx ry ⟨i, j, r1, r2, q⟩
theorem int_case {p : Int → Int → Bool} {d e : D} {b : Bool} (h : (match d, e with | .int i, .int j => some (p i j) | _, _ => none) = some b) : ∃ i j, d = .int i ∧ e = .int j ∧ b = p i j := by
  split at h
  · exact ⟨_, _, rfl, rfl, (Option.some.inj h).symm⟩
  · cases h
theorem op_isO : OpR X (compareOp .Is) (rOp G (kCmp .Is)) := by
  intro pins s σ H x y v u Q I rx ry ⟨W, σ', d, e, m, μ, τ, g, r1, r2, q⟩
  obtain ⟨b, hb, q⟩ := cmp_inv q g
  dsimp only [cmpD] at hb
  cases e with
  | non =>
    cases (show y = _ from r2)
    refine op_isN pins s σ H _ _ v u Q I rx ry ⟨rfl, ?_⟩
    dsimp only at hb
    cases d with
    | non => cases (show x = _ from r1); cases hb; exact q
    | bl _ => cases (show x = _ from r1); cases hb; exact q
    | int _ => cases (show x = _ from r1); cases hb; exact q
    | str _ => cases (show x = _ from r1.1); cases hb; exact q
    | tup _ => obtain ⟨a, vs, rfl, _⟩ := r1; cases hb; exact q
    | lst _ => obtain ⟨a, vs, rfl, _⟩ := r1; cases hb; exact q
    | dic _ _ => obtain ⟨a, vs, rfl, _⟩ := r1; cases hb; exact q
    | ref _ => obtain ⟨a, rfl, _⟩ := r1; cases hb; exact q
    | fn => obtain ⟨a, rfl⟩ := r1; cases hb; exact q
    | scr _ => obtain ⟨a, rfl, _⟩ := r1; cases hb; exact q
  | bl c =>
    cases d with
    | bl b' =>
      cases (show x = _ from r1); cases (show y = _ from r2)
      refine op_isBl pins s σ H _ _ v u Q I rx ry ⟨_, _, rfl, rfl, ?_⟩
      have hb : some (c == b') = some b := hb
      cases hb
      have e : decide (b' = c) = (c == b') := by cases b' <;> cases c <;> rfl
      rw [e]; exact q
    | _ => cases hb
  | _ => cases hb
theorem op_isNotO : OpR X (compareOp .IsNot) (rOp G (kCmp .IsNot)) := by
  intro pins s σ H x y v u Q I rx ry ⟨W, σ', d, e, m, μ, τ, g, r1, r2, q⟩
  obtain ⟨b, hb, q⟩ := cmp_inv q g
  dsimp only [cmpD] at hb
  cases e with
  | non =>
    cases (show y = _ from r2)
    refine op_notN pins s σ H _ _ v u Q I rx ry ⟨rfl, ?_⟩
    dsimp only at hb
    cases d with
    | non => cases (show x = _ from r1); cases hb; exact q
    | bl _ => cases (show x = _ from r1); cases hb; exact q
    | int _ => cases (show x = _ from r1); cases hb; exact q
    | str _ => cases (show x = _ from r1.1); cases hb; exact q
    | tup _ => obtain ⟨a, vs, rfl, _⟩ := r1; cases hb; exact q
    | lst _ => obtain ⟨a, vs, rfl, _⟩ := r1; cases hb; exact q
    | dic _ _ => obtain ⟨a, vs, rfl, _⟩ := r1; cases hb; exact q
    | ref _ => obtain ⟨a, rfl, _⟩ := r1; cases hb; exact q
    | fn => obtain ⟨a, rfl⟩ := r1; cases hb; exact q
    | scr _ => obtain ⟨a, rfl, _⟩ := r1; cases hb; exact q
  | _ => cases hb

/-! ### in -/
/-- by what an item is: equal to what is sought -/
noncomputable def isIt (h : Heap) (p : PyData) (y : Value) : Bool := by
  classical
  exact if q : ∃ c as, Reads h y c as ∧ c.canLay0 = true then PyData.eqv q.choose p else false
theorem isIt_of {h : Heap} {p c : PyData} {y : Value} {as : List Addr} (r : Reads h y c as) (l : c.canLay0 = true) : isIt h p y = PyData.eqv c p := by
  have q : ∃ c as, Reads h y c as ∧ c.canLay0 = true := ⟨c, as, r, l⟩
  obtain ⟨as', r', l'⟩ := q.choose_spec
  have e : q.choose = c := SeqAt.Reads.unique _ _ _ _ _ l' r' r
  unfold isIt
  rw [dif_pos q, e]
theorem any_isIt {p : PyData} {n : Nat} (hK : G.K = X.K) (I : Inv X pins σ H s) : ∀ {xs : List D} {vs : List V} {us : List Value}, Reps G μ τ H xs vs → Vals vs us → xs.all (plain n) = true → us.any (isIt s.heap p) = xs.any fun y => PyData.eqv (pd y) p
  | [], _, _, r, w, _ => by cases (show _ = [] from r); cases w; rfl
  | x :: xs, _, _, r, w, h => by
    obtain ⟨v, r', rfl, q, rs⟩ := r
    cases w with
    | cons w1 w2 =>
      rw [allF_cons, Bool.and_eq_true] at h
      obtain ⟨as, rd⟩ := reads_of hK I q h.1 w1
      rw [List.any_cons, List.any_cons, isIt_of rd (Rep.shaped x n v h.1 q).1, any_isIt hK I rs w2 h.2]
theorem each_isIt {p : PyData} {d : D} {x : V} {v : Value} {n : Nat} (hK : G.K = X.K) (hu : X.A.units + 64 < cLine) (I : Inv X pins σ H s) (hx : Dp X.K H x p) (rx : RelV x v) (cl : p.canLay0 = true) (hd : p.depth ≤ 50) :
    ∀ {xs : List D} {vs : List V} {us : List Value}, Reps G μ τ H xs vs → Vals vs us → xs.all (plain n) = true → ∀ y ∈ us, SeqAt.EqAt X.A.in1 s y v (isIt s.heap p y)
  | [], _, _, r, w, _ => by cases (show _ = [] from r); cases w; exact fun _ z => nomatch z
  | z :: xs, _, _, r, w, h => by
    obtain ⟨v', r', rfl, q, rs⟩ := r
    cases w with
    | cons w1 w2 =>
      rw [allF_cons, Bool.and_eq_true] at h
      intro y hy
      rcases List.mem_cons.mp hy with rfl | hy
      · obtain ⟨as, rd⟩ := reads_of hK I q h.1 w1
        obtain ⟨bs, rv⟩ := Dp.reads I p x v hx rx
        rw [isIt_of rd (Rep.shaped z n v' h.1 q).1]
        have e2 : min (pd z).depth p.depth ≤ p.depth := Nat.min_le_right _ _
        exact SeqAt.eqAt_reads _ _ _ _ _ _ _ _ rd rv (Rep.shaped z n v' h.1 q).1 cl (by show X.A.units + 1 + _ < _; omega)
      · exact each_isIt (d := d) hK hu I hx rx cl hd rs w2 h.2 y hy
theorem one_sign {x : Str} (h : x.length = 1) : x = ⟨#[x.cps.getD 0 0]⟩ := by
  obtain ⟨c⟩ := x
  have h : c.size = 1 := h
  obtain ⟨l⟩ := c
  match l, h with
  | [a], _ => rfl
theorem kin_get (q : Key) : ∀ (ks : List Key) (vs : List V), ks.length = vs.length → (valV (ks.zip vs) q).isSome = kin ks q
  | [], _, _ => rfl
  | k :: ks, [], h => by simp at h
  | k :: ks, v :: vs, h => by
    show (valV ((k, v) :: ks.zip vs) q).isSome = (decide (k = q) || kin ks q)
    by_cases e : k = q
    · rw [valV_pos (p := (k, v)) e, decide_eq_true e]; rfl
    · rw [valV_neg (p := (k, v)) e, decide_eq_false e, Bool.false_or]
      exact kin_get q ks vs (by simpa using h)
theorem key_V {d : D} {q : Key} {x : V} (r : Rep G μ τ H d x) (h : keyD d = some q) : x = kV q := by
  cases d with
  | int i => cases h; exact r
  | str z => cases h; exact r.1
  | _ => cases h
theorem op_inB (hK : G.K = X.K) (hu : X.A.units + 64 < cLine) (neg : Bool) : OpR X (compareOp (if neg then .NotIn else .In)) (rOp G fun d e m => R.of (((inD m d e).map fun b => if neg then !b else b).map .bl) m) := by
  intro pins s σ H x y v u Q I rx ry ⟨W, σ', d, e, m, μ, τ, g, r1, r2, q⟩
  obtain ⟨b, hb, q⟩ := cmp_inv q g
  obtain ⟨c, hc, hb⟩ := Option.map_eq_some_iff.mp hb
  subst hb
  have seqs : ∀ {e : D} {xs : List D}, Rep G μ τ H e y → seqOf m e = some xs → (if plain 50 (res m d) && xs.all (plain 50) then some (xs.any fun y => PyData.eqv (pd y) (pd (res m d))) else none) = some c →
      wpAny (model X.prog X.w) X.A (compareOp (if neg then .NotIn else .In) v u) (EP X pins σ Q) X.xe s := fun {e xs} r2 hs hc => by
    split at hc
    · rename_i hp
      rw [Bool.and_eq_true] at hp
      obtain ⟨a, vs, rfl, p, rs⟩ := seq_inv hK g r2 hs
      obtain ⟨a1, a2, a3⟩ := res_dp hK g r1 hp.1
      cases ry
      cases hc
      rcases p with p | p
      · obtain ⟨its, w1, pl, _⟩ := I.list p
        have e1 := any_isIt (p := pd (res m d)) hK I rs w1 hp.2
        have e2 := each_isIt (d := d) hK hu I a1 rx a2 a3 rs w1 hp.2
        cases neg with
        | false => exact SeqAt.in_listAt _ pl.isList (fun y hy => e2 y (by simpa using hy)) ⟨.bl _, H, I, by rw [List.any_toArray, e1]; rfl, q⟩
        | true => exact SeqAt.notIn_listAt _ pl.isList (fun y hy => e2 y (by simpa using hy)) ⟨.bl _, H, I, by rw [List.any_toArray, e1]; rfl, q⟩
      · obtain ⟨its, w1, pl, _⟩ := I.tuple p
        have e1 := any_isIt (p := pd (res m d)) hK I rs w1 hp.2
        have e2 := each_isIt (d := d) hK hu I a1 rx a2 a3 rs w1 hp.2
        cases neg with
        | false => exact SeqAt.in_tupleAt _ pl (fun y hy => e2 y (by simpa using hy)) ⟨.bl _, H, I, by rw [List.any_toArray, e1]; rfl, q⟩
        | true => exact SeqAt.notIn_tupleAt _ pl (fun y hy => e2 y (by simpa using hy)) ⟨.bl _, H, I, by rw [List.any_toArray, e1]; rfl, q⟩
    · cases hc
  unfold inD at hc
  split at hc
  · rename_i z
    split at hc
    · rename_i w
      split at hc
      · rename_i hl
        cases hc
        cases (show x = _ from r1.1); cases (show y = _ from r2.1)
        rw [one_sign hl] at rx
        cases neg with
        | false => exact op_in_sign pins s σ H _ _ v u Q I rx ry ⟨_, _, rfl, rfl, q⟩
        | true => exact op_notIn_sign pins s σ H _ _ v u Q I rx ry ⟨_, _, rfl, rfl, q⟩
      · cases hc
    · cases hc
  · split at hc
    · rename_i xs hs
      exact seqs r2 hs hc
    · split at hc
      · rename_i ks ds hd
        split at hc
        · rename_i qk hk
          cases hc
          obtain ⟨a, vs, rfl, p, l, rs⟩ := dic_inv g r2 hd
          cases key_V r1 hk
          cases ry
          have e : kin ks qk = (valV (ks.zip vs) qk).isSome := (kin_get qk ks vs l).symm
          rw [e] at q
          cases neg with
          | false => exact d_in (by omega) I (DGet.k p) rx fun s' I' => ⟨.bl _, H, I', rfl, q⟩
          | true => exact d_notIn (by omega) I (DGet.k p) rx fun s' I' => ⟨.bl _, H, I', rfl, q⟩
        · cases hc
      · cases hc
theorem op_inO (hK : G.K = X.K) (hu : X.A.units + 64 < cLine) : OpR X (compareOp .In) (rOp G (kCmp .In)) := by
  intro pins s σ H x y v u Q I rx ry ⟨W, σ', d, e, m, μ, τ, g, r1, r2, q⟩
  refine op_inB hK hu false pins s σ H x y v u Q I rx ry ⟨W, σ', d, e, m, μ, τ, g, r1, r2, ?_⟩
  have e0 : ((inD m d e).map fun b => if false = true then !b else b) = inD m d e := by cases inD m d e <;> rfl
  show Pst G W σ' μ τ H (RD G τ) (R.of (((inD m d e).map fun b => if false = true then !b else b).map .bl) m) Q
  rw [e0]
  exact q
theorem op_notInO (hK : G.K = X.K) (hu : X.A.units + 64 < cLine) : OpR X (compareOp .NotIn) (rOp G (kCmp .NotIn)) := by
  intro pins s σ H x y v u Q I rx ry ⟨W, σ', d, e, m, μ, τ, g, r1, r2, q⟩
  exact op_inB hK hu true pins s σ H x y v u Q I rx ry ⟨W, σ', d, e, m, μ, τ, g, r1, r2, q⟩
/-- every comparison -/
theorem op_cmpO (hK : G.K = X.K) (hu : X.A.units + 64 < cLine) (op : CmpOp) : OpR X (compareOp op) (rOp G (kCmp op)) := by
  cases op with
  | Eq => exact op_eqO hK hu
  | NotEq => exact op_neO hK hu
  | Lt => exact op_ltO hK hu
  | LtE => exact two_ints (f := fun d e => match d, e with | .int i, .int j => some (decide (i ≤ j)) | _, _ => none) op_le fun d e b h => int_case h
  | Gt => exact two_ints (f := fun d e => match d, e with | .int i, .int j => some (decide (j < i)) | _, _ => none) op_gt fun d e b h => int_case h
  | GtE => exact two_ints (f := fun d e => match d, e with | .int i, .int j => some (decide (j ≤ i)) | _, _ => none) op_ge fun d e b h => int_case h
  | Is => exact op_isO
  | IsNot => exact op_isNotO
  | In => exact op_inO hK hu
  | NotIn => exact op_notInO hK hu
end
end EV

/-! More primitives by their values: parts, built-in functions, methods. -/
namespace EV
open PySem PySem.Spec PyProof.Rows L2

section
variable {X : Cx} {G : Gw} {W : WX} {σ : L2.St} {μ τ : List Addr} {H : Hp} {m : Mem} {Q : VK} {pins : List (Addr × Obj)} {s : Shared}
/-! ### parts -/
theorem Reps.at {ds : List D} {vs : List V} {i : Int} {d : D} (r : Reps G μ τ H ds vs) (h : atI ds i = some d) : ∃ v, atI vs i = some v ∧ Rep G μ τ H d v := by
  unfold atI at h ⊢
  rw [r.length]
  cases hj : ixN ds.length i with
  | none => rw [hj] at h; cases h
  | some j =>
    rw [hj] at h
    exact r.get h
theorem of_inv {o : Option D} (h : Pst G W σ μ τ H (RD G τ) (R.of o m) Q) (g : Good G μ τ m H) : ∃ d, o = some d ∧ ∀ x, Rep G μ τ H d x → Q x H := by
  cases o with
  | none => exact False.elim h
  | some b => exact ⟨b, rfl, fun x r => Pst.here h g r⟩
theorem get_key (q : Key) {d : D} : ∀ (ks : List Key) (ds : List D) (vs : List V), Reps G μ τ H ds vs → dget ks ds q = some d → ∃ v, valV (ks.zip vs) q = some v ∧ Rep G μ τ H d v
  | [], _, _, _, h => by cases h
  | k :: ks, [], _, _, h => by cases h
  | k :: ks, x :: ds, vs, r, h => by
    obtain ⟨v, r', rfl, p, rs⟩ := r
    unfold dget at h
    by_cases e : k = q
    · rw [if_pos e] at h
      cases h
      exact ⟨v, valV_pos (p := (k, v)) e, p⟩
    · rw [if_neg e] at h
      obtain ⟨w, h1, h2⟩ := get_key q ks ds r' rs h
      exact ⟨w, (valV_neg (p := (k, v)) e).trans h1, h2⟩
theorem get_none (q : Key) : ∀ (ks : List Key) (ds : List D) (vs : List V), ks.length = vs.length → Reps G μ τ H ds vs → dget ks ds q = none → valV (ks.zip vs) q = none
  | [], _, _, _, _, _ => rfl
  | k :: ks, [], vs, l, r, _ => by cases (show vs = [] from r); simp at l
  | k :: ks, x :: ds, vs, l, r, h => by
    obtain ⟨v, r', rfl, p, rs⟩ := r
    unfold dget at h
    by_cases e : k = q
    · rw [if_pos e] at h; cases h
    · rw [if_neg e] at h
      exact (valV_neg (p := (k, v)) e).trans (get_none q ks ds r' (by simpa using l) rs h)
/-- d[k] of a dict, where the text says d[k] -/
theorem ix_dict (hu : X.A.units + 64 < cLine) : IxR X (fun x y H Q => ∃ a v, x = .ref a ∧ DGet H a y (some v) ∧ Q v H) := by
  intro value slice pins s σ H x y v u Q I rx ry ⟨a, z, ex, g, q⟩ hs
  subst ex
  obtain rfl : v = Value.ref a := rx
  have hT := dict_typeIs I g
  have go : wpAny (model X.prog X.w) X.A (getItem (.ref a) u) (EP X pins σ Q) X.xe s := d_getItem (by omega) I g ry fun w' s' I' rw' => ⟨z, H, I', rw', q⟩
  unfold subscriptTail
  refine wpAny_bind ?_
  rw [getitemInPython_of_ne hT.not_modules]
  refine wpAny_bind (wpAny_specialOf hT PySem.F.slot_dict_getitem.lookup ?_)
  have last : wpAny (model X.prog X.w) X.A (subscripted slice false (.ref a) u) (fun r s₃ => wpAny (model X.prog X.w) X.A (letTemporaryGo value (.ref a) r >>= fun _ => pure r) (EP X pins σ Q) X.xe s₃) X.xe s := by
    rw [hs]
    exact wpAny_operating (wpAny_mono go (fun r s₃ h₃ => wpAny_bind (wpAny_letTemporaryGo (wpAny_pure h₃))) fun _ _ x => x)
  first
    | exact wpAny_pure (wpAny_bind last)
    | exact wpAny_bind (wpAny_pure (wpAny_bind last))
    | exact wpAny_bind last
theorem sOk_one {z : Str} {i : Int} {c : Nat} (h : sOk z = true) (e : atI z.cps.toList i = some c) : sOk ⟨#[c]⟩ = true := by
  obtain ⟨j, _, h2, _⟩ := atI_get e
  have hm : c ∈ z.cps.toList := List.mem_of_getElem? h2
  unfold sOk at h ⊢
  rw [Array.all_eq_true_iff_forall_mem] at h
  have := h c (by simpa using hm)
  simpa using this
theorem ix_D (hK : G.K = X.K) (hu : X.A.units + 64 < cLine) : IxR X (rIxD G) := by
  intro value slice pins s σ H x y v u Q I rx ry ⟨W, σ', d, e, m, μ, τ, g, r1, r2, q⟩ hs
  obtain ⟨b, hb, fin⟩ := of_inv q g
  unfold idxD at hb
  split at hb
  · rename_i z
    split at hb
    · rename_i k
      split at hb
      · rename_i hl
        obtain ⟨c, hc, hb⟩ := Option.map_eq_some_iff.mp hb
        subst hb
        cases (show x = _ from r1.1); cases (show y = _ from r2)
        exact ix_str value slice pins s σ H _ _ v u Q I rx ry ⟨z, k, c, rfl, rfl, by rw [← lim_eq]; exact hl, hc, fin _ ⟨rfl, sOk_one r1.2 hc⟩⟩ hs
      · cases hb
    · cases hb
  · split at hb
    · rename_i xs hx
      split at hb
      · rename_i k
        cases (show y = _ from r2)
        obtain ⟨a, vs, rfl, p, rs⟩ := seq_inv hK g r1 hx
        obtain ⟨w, hw, rw'⟩ := rs.at hb
        rcases p with p | p
        · exact ix_list value slice pins s σ H _ _ v u Q I rx ry ⟨a, vs, k, w, rfl, rfl, p, hw, fin _ rw'⟩ hs
        · exact ix_tup value slice pins s σ H _ _ v u Q I rx ry ⟨a, vs, k, w, rfl, rfl, p, hw, fin _ rw'⟩ hs
      · cases hb
    · split at hb
      · rename_i p hp
        split at hb
        · rename_i qk hk
          obtain ⟨a, vs, rfl, hd, l, rs⟩ := dic_inv g r1 hp
          obtain ⟨w, hw, rw'⟩ := get_key qk p.1 p.2 vs rs hb
          cases key_V r2 hk
          exact ix_dict hu value slice pins s σ H _ _ v u Q I rx ry ⟨a, w, rfl, hw ▸ DGet.k hd, fin _ rw'⟩ hs
        · cases hb
      · cases hb
theorem Reps.cut {ds : List D} {vs : List V} (lo hi : Option Int) (r : Reps G μ τ H ds vs) : Reps G μ τ H (cutD ds lo hi) (cutV vs lo hi) := by
  unfold cutD cutV
  rw [r.length]
  exact (r.drop _).take _
theorem Reps.ints (ns : List Int) : Reps G μ τ H (ns.map .int) (ns.map V.int) := by
  induction ns with
  | nil => rfl
  | cons n r ih => exact .cons rfl ih
theorem cutV_map (ns : List Int) (lo hi : Option Int) : cutV (ns.map V.int) lo hi = (cutD ns lo hi).map V.int := by
  unfold cutV cutD
  rw [List.length_map, ← List.map_drop, ← List.map_take]
theorem sOk_cut {z : Str} (lo hi : Option Int) (h : sOk z = true) : sOk (cutS z lo hi) = true := by
  unfold sOk at h ⊢
  rw [Array.all_eq_true_iff_forall_mem] at h ⊢
  intro c hc
  refine h c ?_
  unfold cutS at hc
  have hc : c ∈ (z.cps.toList.drop (HT.sIx z.length 0 lo)).take (HT.sIx z.length z.length hi - HT.sIx z.length 0 lo) := by simpa using hc
  have h2 := List.mem_of_mem_drop (List.mem_of_mem_take hc)
  simpa using h2
theorem sl_D (hK : G.K = X.K) : SlR X (rSlD G) := by
  intro pins s σ H x v vl vu lo hi sl Q I rx hsl pl pu ⟨W, σ', d, m, μ, τ, g, r, q⟩
  cases d with
  | scr ns =>
    have r' : ∃ a, x = .ref a ∧ SqL X.K H a (ns.map V.int) := by
      obtain ⟨a, rfl, ⟨p, _⟩ | p⟩ := r
      · exact ⟨a, rfl, .inl p⟩
      · exact ⟨a, rfl, hK ▸ p H⟩
    obtain ⟨a, rfl, p⟩ := r'
    refine sl_list pins s σ H _ v vl vu lo hi sl Q I rx hsl pl pu ⟨a, _, rfl, p, fun p hp => ?_⟩
    rw [cutV_map]
    exact newL q g (Reps.ints _) hp
  | str z =>
    cases (show x = _ from r.1)
    dsimp only [slcD] at q
    by_cases hl : z.length ≤ lim
    · rw [if_pos hl] at q
      exact sl_str pins s σ H _ v vl vu lo hi sl Q I rx hsl pl pu ⟨z, rfl, by rw [← lim_eq]; exact hl, Pst.here (W := W) (σ := σ') q g ⟨rfl, sOk_cut lo hi r.2⟩⟩
    · rw [if_neg hl] at q; exact False.elim q
  | tup xs =>
    obtain ⟨a, vs, rfl, p, rs⟩ := r
    dsimp only [slcD] at q
    split at q
    · exact False.elim q
    · rename_i hw
      refine sl_tup pins s σ H _ v vl vu lo hi sl Q I rx hsl pl pu ⟨a, vs, rfl, hK ▸ p, by rw [rs.length]; exact hw, fun p hp => ?_⟩
      exact newT (W := W) (σ := σ') q g (rs.cut lo hi) hp
  | lst xs =>
    obtain ⟨a, vs, rfl, p, rs⟩ := lst_inv g r (show lstOf m (.lst xs) = some xs from rfl)
    exact sl_list pins s σ H _ v vl vu lo hi sl Q I rx hsl pl pu ⟨a, vs, rfl, .inl (.inl p), fun p hp => newL q g (rs.cut lo hi) hp⟩
  | ref n =>
    have q' : PstF G W σ' μ τ H (R.of ((lstOf m (.ref n)).map fun xs => .lst (cutD xs lo hi)) m) Q := q
    cases hl : lstOf m (.ref n) with
    | none => rw [hl] at q'; exact False.elim q'
    | some xs =>
      rw [hl] at q'
      obtain ⟨a, vs, rfl, p, rs⟩ := lst_inv g r hl
      exact sl_list pins s σ H _ v vl vu lo hi sl Q I rx hsl pl pu ⟨a, vs, rfl, .inl (.inl p), fun p hp => newL q' g (rs.cut lo hi) hp⟩
  | _ => exact False.elim q

/-! ### built-in functions -/
theorem one_inv {ds : List D} {xs : List V} {d : D} (e : ds = [d]) (r : Reps G μ τ H ds xs) : ∃ x, xs = [x] ∧ Rep G μ τ H d x := by
  subst e
  obtain ⟨x, r', rfl, p, rs⟩ := r
  cases (show r' = [] from rs)
  exact ⟨x, rfl, p⟩
theorem two_inv {ds : List D} {xs : List V} {d e : D} (h : ds = [d, e]) (r : Reps G μ τ H ds xs) : ∃ x y, xs = [x, y] ∧ Rep G μ τ H d x ∧ Rep G μ τ H e y := by
  subst h
  obtain ⟨x, r', rfl, p, rs⟩ := r
  obtain ⟨y, r2, rfl, p2, rs2⟩ := rs
  cases (show r2 = [] from rs2)
  exact ⟨x, y, rfl, p, p2⟩
theorem bls_of : ∀ {xs : List D} {vs : List V} {bs : List Bool}, Reps G μ τ H xs vs → allOf isB xs = some bs → vs = bs.map V.bl
  | [], _, _, r, h => by cases (show _ = [] from r); cases h; rfl
  | d :: xs, _, bs, r, h => by
    obtain ⟨v, r', rfl, p, rs⟩ := r
    unfold allOf at h
    split at h
    · rename_i b hb
      split at h
      · rename_i br hr
        cases h
        cases d with
        | bl c => cases hb; rw [bls_of rs hr, show v = V.bl b from p]; rfl
        | _ => cases hb
      · cases h
    · cases h
theorem ints_of : ∀ {xs : List D} {vs : List V} {bs : List Int}, Reps G μ τ H xs vs → allOf isI xs = some bs → vs = bs.map V.int
  | [], _, _, r, h => by cases (show _ = [] from r); cases h; rfl
  | d :: xs, _, bs, r, h => by
    obtain ⟨v, r', rfl, p, rs⟩ := r
    unfold allOf at h
    split at h
    · rename_i b hb
      split at h
      · rename_i br hr
        cases h
        cases d with
        | int c => cases hb; rw [ints_of rs hr, show v = V.int b from p]; rfl
        | _ => cases hb
      · cases h
    · cases h
theorem strs_of : ∀ {xs : List D} {vs : List V} {bs : List Str}, Reps G μ τ H xs vs → allOf isS xs = some bs → vs = bs.map V.str ∧ bs.all sOk = true
  | [], _, _, r, h => by cases (show _ = [] from r); cases h; exact ⟨rfl, rfl⟩
  | d :: xs, _, bs, r, h => by
    obtain ⟨v, r', rfl, p, rs⟩ := r
    unfold allOf at h
    split at h
    · rename_i b hb
      split at h
      · rename_i br hr
        cases h
        cases d with
        | str c =>
          cases hb
          obtain ⟨h1, h2⟩ := strs_of rs hr
          rw [h1, show v = V.str b from p.1]
          exact ⟨rfl, by rw [List.all_cons, p.2, h2]; rfl⟩
        | _ => cases hb
      · cases h
    · cases h
theorem lstb {α : Type} {f : List D → Option α} {d : D} {x : V} {bs : α} (g : Good G μ τ m H) (r : Rep G μ τ H d x) (h : (lstOf m d).bind f = some bs) : ∃ xs a vs, x = .ref a ∧ H a = some (.lst vs) ∧ Reps G μ τ H xs vs ∧ f xs = some bs := by
  cases hl : lstOf m d with
  | none => rw [hl] at h; cases h
  | some xs =>
    rw [hl] at h
    obtain ⟨a, vs, e, p, rs⟩ := lst_inv g r hl
    exact ⟨xs, a, vs, e, p, rs, h⟩
theorem c_len (hK : G.K = X.K) : CallR X (.builtin "len") (rCl G lenD) := by
  intro pins s σ H xs us Q I r ⟨W, σ', ds, m, μ, τ, g, rs, q⟩
  unfold lenD at q
  split at q
  · rename_i z
    obtain ⟨x, rfl, p⟩ := one_inv rfl rs
    cases (show x = _ from p.1)
    split at q
    · rename_i hl
      exact call_len_str pins s σ H _ us Q I r ⟨z, rfl, by rw [← lim_eq]; exact hl, Pst.here (W := W) (σ := σ') q g rfl⟩
    · exact False.elim q
  · rename_i ns
    have r' : ∃ a, xs = [.ref a] ∧ SqL X.K H a (ns.map V.int) := by
      obtain ⟨x, rfl, a, rfl, ⟨p, _⟩ | p⟩ := one_inv rfl rs
      · exact ⟨a, rfl, .inl p⟩
      · exact ⟨a, rfl, hK ▸ p H⟩
    obtain ⟨a, rfl, p⟩ := r'
    refine call_len_seq pins s σ H _ us Q I r ⟨a, _, rfl, .inl p, ?_⟩
    rw [List.length_map]
    exact Pst.here (W := W) (σ := σ') q g rfl
  · rename_i d _ _
    obtain ⟨x, rfl, p⟩ := one_inv rfl rs
    split at q
    · rename_i xs hx
      obtain ⟨a, vs, rfl, h, rv⟩ := seq_inv hK g p hx
      refine call_len_seq pins s σ H _ us Q I r ⟨a, vs, rfl, h, ?_⟩
      rw [rv.length]
      exact Pst.here (W := W) (σ := σ') q g rfl
    · split at q
      · rename_i k hk
        obtain ⟨a, vs, rfl, h, l, rv⟩ := dic_inv g p hk
        refine call_lenD pins s σ H _ us Q I r ⟨a, _, rfl, h, ?_⟩
        rw [List.length_zip, ← l, Nat.min_self]
        exact Pst.here (W := W) (σ := σ') q g rfl
      · exact False.elim q
  · exact False.elim q
theorem c_all (hc : X.calm = true) : CallR X (.builtin "all") (rCl G allD) := by
  intro pins s σ H xs us Q I r ⟨W, σ', ds, m, μ, τ, g, rs, q⟩
  unfold allD at q
  split at q
  · rename_i d
    obtain ⟨x, rfl, p⟩ := one_inv rfl rs
    split at q
    · rename_i bs hb
      obtain ⟨ys, a, vs, rfl, h, rv, hf⟩ := lstb g p hb
      have e := bls_of rv hf
      subst e
      exact cr_all hc pins s σ H _ us Q I r ⟨a, bs, rfl, .inl (.inl h), Pst.here (W := W) (σ := σ') q g rfl⟩
    · exact False.elim q
  · exact False.elim q
theorem c_any (hc : X.calm = true) : CallR X (.builtin "any") (rCl G anyD) := by
  intro pins s σ H xs us Q I r ⟨W, σ', ds, m, μ, τ, g, rs, q⟩
  unfold anyD at q
  split at q
  · rename_i d
    obtain ⟨x, rfl, p⟩ := one_inv rfl rs
    split at q
    · rename_i bs hb
      obtain ⟨ys, a, vs, rfl, h, rv, hf⟩ := lstb g p hb
      have e := bls_of rv hf
      subst e
      exact cr_any hc pins s σ H _ us Q I r ⟨a, bs, rfl, .inl (.inl h), Pst.here (W := W) (σ := σ') q g rfl⟩
    · exact False.elim q
  · exact False.elim q
theorem c_sum (hc : X.calm = true) : CallR X (.builtin "sum") (rCl G sumD) := by
  intro pins s σ H xs us Q I r ⟨W, σ', ds, m, μ, τ, g, rs, q⟩
  unfold sumD at q
  split at q
  · rename_i d
    obtain ⟨x, rfl, p⟩ := one_inv rfl rs
    split at q
    · rename_i bs hb
      obtain ⟨ys, a, vs, rfl, h, rv, hf⟩ := lstb g p hb
      have e := ints_of rv hf
      subst e
      exact cr_sum hc pins s σ H _ us Q I r ⟨a, bs, rfl, .inl (.inl h), Pst.here (W := W) (σ := σ') q g rfl⟩
    · exact False.elim q
  · exact False.elim q
theorem c_abs : CallR X (.builtin "abs") (rCl G absD) := by
  intro pins s σ H xs us Q I r ⟨W, σ', ds, m, μ, τ, g, rs, q⟩
  unfold absD at q
  split at q
  · rename_i i
    obtain ⟨x, rfl, p⟩ := one_inv rfl rs
    cases (show x = _ from p)
    exact call_abs pins s σ H _ us Q I r ⟨i, rfl, Pst.here (W := W) (σ := σ') q g rfl⟩
  · exact False.elim q
theorem c_int : CallR X (.type "int") (rCl G intD) := by
  intro pins s σ H xs us Q I r ⟨W, σ', ds, m, μ, τ, g, rs, q⟩
  unfold intD at q
  split at q
  · rename_i i
    obtain ⟨x, rfl, p⟩ := one_inv rfl rs
    cases (show x = _ from p)
    exact call_int1 pins s σ H _ us Q I r (.inl ⟨i, rfl, Pst.here (W := W) (σ := σ') q g rfl⟩)
  · rename_i b
    obtain ⟨x, rfl, p⟩ := one_inv rfl rs
    cases (show x = _ from p)
    exact call_int1 pins s σ H _ us Q I r (.inr ⟨b, rfl, Pst.here (W := W) (σ := σ') q g rfl⟩)
  · exact False.elim q
theorem sOk_of (z : String) : sOk (Str.ofString z) = true := by
  rw [Str.ofString_eq_toList]
  unfold sOk
  simp only [List.all_toArray, List.all_map]
  rw [List.all_eq_true]
  intro c hc
  refine decide_eq_true ?_
  have h := c.valid
  show c.val.toNat < 1114112
  rcases h with h | h
  · exact Nat.lt_trans h (by decide)
  · exact h.2
theorem sOk_int (i : Int) : sOk (toString i : String) = true := sOk_of _
theorem c_str : CallR X (.type "str") (rCl G strD) := by
  intro pins s σ H xs us Q I r ⟨W, σ', ds, m, μ, τ, g, rs, q⟩
  unfold strD at q
  split at q
  · rename_i i
    obtain ⟨x, rfl, p⟩ := one_inv rfl rs
    cases (show x = _ from p)
    unfold rotI at q
    split at q
    · rename_i hl
      exact call_str_int pins s σ H _ us Q I r ⟨i, rfl, hl, Pst.here (W := W) (σ := σ') q g ⟨rfl, sOk_int i⟩⟩
    · exact False.elim q
  · rename_i z
    obtain ⟨x, rfl, p⟩ := one_inv rfl rs
    cases (show x = _ from p.1)
    exact SkE.call_str_str pins s σ H _ us Q I r ⟨z, rfl, Pst.here (W := W) (σ := σ') q g p⟩
  · exact False.elim q
theorem c_repr : CallR X (.builtin "repr") (rCl G reprD) := by
  intro pins s σ H xs us Q I r ⟨W, σ', ds, m, μ, τ, g, rs, q⟩
  unfold reprD at q
  split at q
  · rename_i i
    obtain ⟨x, rfl, p⟩ := one_inv rfl rs
    cases (show x = _ from p)
    unfold rotI at q
    split at q
    · rename_i hl
      exact SkE.call_repr_int pins s σ H _ us Q I r ⟨i, rfl, hl, Pst.here (W := W) (σ := σ') q g ⟨rfl, sOk_int i⟩⟩
    · exact False.elim q
  · rename_i b
    obtain ⟨x, rfl, p⟩ := one_inv rfl rs
    cases (show x = _ from p)
    obtain ⟨u, rfl, ru⟩ := vals1 r
    cases (show u = Value.bool b from ru)
    refine PySem.P.repr_of_bool ⟨.str _, H, I.tok _, ⟨_, rfl⟩, Pst.here (W := W) (σ := σ') q g ⟨rfl, ?_⟩⟩
    cases b <;> exact sOk_of _
  · obtain ⟨x, rfl, p⟩ := one_inv rfl rs
    cases (show x = _ from p)
    obtain ⟨u, rfl, ru⟩ := vals1 r
    cases (show u = Value.none from ru)
    exact PySem.P.repr_of_none ⟨.str _, H, I.tok _, ⟨_, rfl⟩, Pst.here (W := W) (σ := σ') q g ⟨rfl, sOk_of _⟩⟩
  · rename_i z
    obtain ⟨x, rfl, p⟩ := one_inv rfl rs
    cases (show x = _ from p.1)
    obtain ⟨u, rfl, t, rfl⟩ := vals1 r
    split at q
    · rename_i hl
      exact PySem.P.repr_of_str ⟨.str _, H, I.tok _, ⟨_, rfl⟩, Pst.here (W := W) (σ := σ') q g ⟨rfl, hl.2⟩⟩ (hsz := by rw [← lim_eq]; exact hl.1)
    · exact False.elim q
  · exact False.elim q
theorem c_tuple (hK : G.K = X.K) : CallR X (.type "tuple") (rCl G tupleD) := by
  intro pins s σ H xs us Q I r ⟨W, σ', ds, m, μ, τ, g, rs, q⟩
  unfold tupleD at q
  split at q
  · rename_i d
    obtain ⟨x, rfl, p⟩ := one_inv rfl rs
    split at q
    · rename_i ys hx
      obtain ⟨a, vs, rfl, h, rv⟩ := seq_inv hK g p hx
      refine call_tuple_of pins s σ H _ us Q I r ⟨a, vs, rfl, ?_⟩
      rcases h with h | h
      · exact .inl ⟨h, fun l hl => newT (W := W) (σ := σ') q g rv hl⟩
      · exact .inr ⟨h, Pst.here (W := W) (σ := σ') q g ⟨a, vs, rfl, hK ▸ h, rv⟩⟩
    · exact False.elim q
  · exact False.elim q
theorem c_list (hK : G.K = X.K) : CallR X (.type "list") (rCl G listD) := by
  intro pins s σ H xs us Q I r ⟨W, σ', ds, m, μ, τ, g, rs, q⟩
  unfold listD at q
  split at q
  · rename_i d
    obtain ⟨x, rfl, p⟩ := one_inv rfl rs
    split at q
    · rename_i ys hx
      obtain ⟨a, vs, rfl, h, rv⟩ := seq_inv hK g p hx
      exact call_list_of pins s σ H _ us Q I r ⟨a, vs, rfl, h, fun l hl => newL q g rv hl⟩
    · exact False.elim q
  · exact False.elim q
theorem c_max (hc : X.calm = true) : CallR X (.builtin "max") (rCl G maxD) := by
  intro pins s σ H xs us Q I r ⟨W, σ', ds, m, μ, τ, g, rs, q⟩
  unfold maxD at q
  split at q
  · rename_i i j
    obtain ⟨x, y, rfl, p1, p2⟩ := two_inv rfl rs
    cases (show x = _ from p1); cases (show y = _ from p2)
    exact call_max2 hc pins s σ H _ us Q I r ⟨i, j, rfl, Pst.here (W := W) (σ := σ') q g rfl⟩
  · exact False.elim q
theorem c_min (hc : X.calm = true) : CallR X (.builtin "min") (rCl G minD) := by
  intro pins s σ H xs us Q I r ⟨W, σ', ds, m, μ, τ, g, rs, q⟩
  unfold minD at q
  split at q
  · rename_i i j
    obtain ⟨x, y, rfl, p1, p2⟩ := two_inv rfl rs
    cases (show x = _ from p1); cases (show y = _ from p2)
    exact call_min2 hc pins s σ H _ us Q I r ⟨i, j, rfl, Pst.here (W := W) (σ := σ') q g rfl⟩
  · exact False.elim q
theorem c_ord : CallR X (.builtin "ord") (rCl G ordD) := by
  intro pins s σ H xs us Q I r ⟨W, σ', ds, m, μ, τ, g, rs, q⟩
  unfold ordD at q
  split at q
  · rename_i z
    obtain ⟨x, rfl, p⟩ := one_inv rfl rs
    cases (show x = _ from p.1)
    split at q
    · rename_i hl
      exact call_ord pins s σ H _ us Q I r ⟨z, rfl, hl, Pst.here (W := W) (σ := σ') q g rfl⟩
    · exact False.elim q
  · exact False.elim q
end
end EV

/-! isinstance, methods, displays, stores, sorted. -/
namespace EV
open PySem PySem.Spec PyProof.Rows L2

section
variable {X : Cx} {G : Gw} {W : WX} {σ : L2.St} {μ τ : List Addr} {H : Hp} {m : Mem} {Q : VK} {pins : List (Addr × Obj)} {s : Shared} {a b c e : Expr} {fa fb fc f : Rho → Mem → R D} {pos : Pos}
/-! ### the text's form -/
def noStar : Expr → Bool
  | .Starred _ _ => false
  | _ => true
theorem star_cons {e : Expr} {es : List Expr} {env : Env} (h : noStar e = true) : starEach (e :: es) env = (false, eval e env) :: starEach es env := by
  cases e <;> first | rfl | exact nomatch h
theorem plain_args {env : Env} {pos : Pos} : ∀ {es : List Expr}, es.all noStar = true → (backTo pos (starEach es env)).any (·.1) = false
  | [], _ => rfl
  | e :: es, h => by
    rw [List.all_cons, Bool.and_eq_true] at h
    rw [star_cons h.1]
    show (false || (backTo pos (starEach es env)).any (·.1)) = false
    rw [plain_args h.2]; rfl
theorem few_args {env : Env} {pos : Pos} : ∀ {es : List Expr}, es.all noStar = true → (backTo pos (starEach es env)).all (fun x => !x.1) = true
  | [], _ => rfl
  | e :: es, h => by
    rw [List.all_cons, Bool.and_eq_true] at h
    rw [star_cons h.1]
    show (true && (backTo pos (starEach es env)).all fun x => !x.1) = true
    rw [few_args h.2]; rfl

/-! ### isinstance -/
def tyN : Ty → String
  | .int => "int" | .bool => "bool" | .str => "str" | .tuple => "tuple" | .list => "list" | .dict => "dict"
theorem tup_ty {K : PySem.W.Frag} {a : Addr} {vs : List V} (h : SqT K H a vs) : TyX K H (.ref a) (.type "tuple") := by
  rcases h with (h | ⟨o, h⟩) | ⟨o, its, n, h1, h2, _⟩
  · exact .base (.tup h)
  · exact .fTuple h
  · exact .kTuple h1 h2
/-- the type's name of a value -/
def tyS (m : Mem) : D → Option String
  | .non => some "NoneType"
  | d => (tyOf m d).map tyN
theorem ty_of (hK : G.K = X.K) (g : Good G μ τ m H) {d : D} {v : V} {t : String} (r : Rep G μ τ H d v) (h : tyS m d = some t) : TyX X.K H v (.type t) := by
  cases d with
  | non => cases h; cases (show v = _ from r); exact .base .non
  | bl b => cases h; cases (show v = _ from r); exact .base (.bl b)
  | int b => cases h; cases (show v = _ from r); exact .base (.int b)
  | str b => cases h; cases (show v = _ from r.1); exact .base (.str b)
  | tup xs => cases h; obtain ⟨a, vs, rfl, p, _⟩ := r; exact hK ▸ tup_ty p
  | lst xs => cases h; obtain ⟨a, vs, rfl, p, _⟩ := r; exact .base (.lst p)
  | dic ks xs => cases h; obtain ⟨a, vs, rfl, p, _⟩ := r; exact .base (.dK p)
  | ref n =>
    obtain ⟨a, rfl, q⟩ := r
    unfold tyS tyOf at h
    dsimp only at h
    cases hc : m[n]? with
    | none => rw [hc] at h; cases h
    | some c =>
      rw [hc] at h
      have cr := g.cell n c a hc q
      cases c with
      | lst ys => cases h; obtain ⟨vs, h1, h2⟩ := cr; exact .base (.lst h1)
      | dic ks ys => cases h; obtain ⟨vs, h1, h2⟩ := cr; exact .base (.dK h1)
      | ins _ _ _ => cases h
  | fn => cases h
  | scr ns => cases h
theorem kit_all : ∀ t ∈ ["NoneType", "bool", "int", "str", "tuple", "list", "dict"], ∀ c ∈ [Ty.int, .bool, .str, .tuple, .list, .dict], (kitB t (tyN c)).isSome = true := by decide +kernel
theorem kit_eq (t : Option Ty) (c : Ty) : kitB (match t with | some t => tyN t | none => "NoneType") (tyN c) = some (isTy t c) := by
  revert t c
  have h : ∀ t ∈ [none, some Ty.int, some .bool, some .str, some .tuple, some .list, some .dict], ∀ c ∈ [Ty.int, .bool, .str, .tuple, .list, .dict], kitB (match t with | some t => tyN t | none => "NoneType") (tyN c) = some (isTy t c) := by decide +kernel
  intro t c
  refine h t ?_ c ?_
  · cases t with
    | none => decide
    | some t => cases t <;> decide
  · cases c <;> decide
theorem isi_inv {d : D} {ts : List Ty} {b : Bool} (h : isiD m d ts = some b) : ∃ t : Option Ty, tyS m d = some (match t with | some t => tyN t | none => "NoneType") ∧ b = ts.any (isTy t) := by
  unfold isiD at h
  cases d with
  | fn => cases h
  | scr _ => cases h
  | non => cases h; exact ⟨none, rfl, rfl⟩
  | ref n =>
    dsimp only at h
    cases hc : m[n]? with
    | none => rw [hc] at h; cases h
    | some c =>
      rw [hc] at h
      cases c with
      | ins _ _ _ => cases h
      | lst ys => cases h; exact ⟨some .list, by simp [tyS, tyOf, hc], by simp [tyOf, hc]⟩
      | dic ks ys => cases h; exact ⟨some .dict, by simp [tyS, tyOf, hc], by simp [tyOf, hc]⟩
  | bl b => cases h; exact ⟨some .bool, rfl, rfl⟩
  | int b => cases h; exact ⟨some .int, rfl, rfl⟩
  | str b => cases h; exact ⟨some .str, rfl, rfl⟩
  | tup b => cases h; exact ⟨some .tuple, rfl, rfl⟩
  | lst b => cases h; exact ⟨some .list, rfl, rfl⟩
  | dic b c => cases h; exact ⟨some .dict, rfl, rfl⟩
theorem kit_any {K : PySem.W.Frag} (t : Option Ty) : ∀ ts : List Ty, PySem.W.kitAny K (.type (match t with | some t => tyN t | none => "NoneType")) (ts.map fun c => .type (tyN c)) = some (ts.any (isTy t))
  | [] => rfl
  | c :: ts => by
    rw [List.map_cons, List.any_cons]
    refine kitAny_cons (kit_ty (kit_eq t c)) (fun h => ?_) (fun h => by rw [h]; rfl)
    rw [h, Bool.false_or]
    exact kit_any t ts
/-- the names of the classes -/
def TyName (X : Cx) (n : Expr) (t : Ty) : Prop := ∃ x p, n = .Name x p ∧ Gl X x ∧ X.mg x = none ∧ bootBuiltins x = some (.type (tyN t)) ∧ x ≠ "__name__" ∧ (x == ("__debug__" : Str)) = false
theorem pe_tyn {n : Expr} {t : Ty} (h : TyName X n t) : PE X n (tC (.ty (tyN t))) := by
  obtain ⟨x, p, rfl, h1, h2, h3, h4, h5⟩ := h
  exact pe_bltn h1 h2 h3 (by exact rfl) h4 h5
theorem tyn_star {n : Expr} {t : Ty} (h : TyName X n t) : noStar n = true := by
  obtain ⟨x, p, rfl, _⟩ := h; rfl
theorem isi_here (hK : G.K = X.K) {d : D} {x : V} {ts : List Ty} {σ : L2.St} (g : Good G μ τ m H) (r : Rep G μ τ H d x) (h : Pst G W σ μ τ H (RD G τ) (R.of ((isiD m d ts).map .bl) m) Q) :
    ∃ (t : Option Ty), TyX X.K H x (.type (match t with | some t => tyN t | none => "NoneType")) ∧ PySem.W.kitAny X.K (.type (match t with | some t => tyN t | none => "NoneType")) (ts.map fun c => .type (tyN c)) = some (ts.any (isTy t)) ∧ Q (.bl (ts.any (isTy t))) H := by
  cases hb : isiD m d ts with
  | none => rw [hb] at h; exact False.elim h
  | some b =>
    rw [hb] at h
    obtain ⟨t, h1, h2⟩ := isi_inv hb
    exact ⟨t, ty_of hK g r h1, kit_any t ts, h2 ▸ Pst.here h g rfl⟩
theorem ev_isi1 (hK : G.K = X.K) {n : Expr} {t : Ty} {p : Pos} (hg : Gl X "isinstance") (hm : X.mg "isinstance" = none) (ha : EvE X G W a fa) (hs : noStar a = true) (hn : TyName X n t) :
    EvE X G W (.Call (.Name "isinstance" p) [a, n] [] pos) (fun ρ m => (fa ρ m).bind fun d m1 => R.of ((isiD m1 d [t]).map .bl) m1) := by
  have hpa : PA X [a, n] (tCons (rdE G W fa) (tCons (tC (.ty (tyN t))) tNil)) := pa_cons ha (pa_cons (pe_tyn hn) pa_nil (star_cons (tyn_star hn))) (star_cons hs)
  refine PE.imp (pe_callB call_isi hg hm PyProof.Rows.boot_isinstance hpa (by decide) (by decide) (star_cons hs) (plain_args (by rw [List.all_cons, tyn_star hn]; rfl))) fun σ H Q ⟨ρ, m, μ, τ, g, s, h⟩ => ?_
  refine ⟨ρ, m, μ, τ, g, s, (Pst.bind (RP := RD G τ) h).imp fun x H1 ⟨d, m1, μ1, n1, g1, r1, h1⟩ => ?_⟩
  obtain ⟨u, k1, k2, k3⟩ := isi_here hK g1 r1 h1
  refine ⟨x, .ty (tyN t), _, .type (tyN t), _, rfl, .ty _, k1, kit_ty (kit_eq u t), ?_⟩
  simpa using k3
def TyNames (X : Cx) : List Expr → List Ty → Prop
  | [], [] => True
  | n :: ns, t :: ts => TyName X n t ∧ TyNames X ns ts
  | _, _ => False
theorem tyns_star : ∀ {ns : List Expr} {ts : List Ty}, TyNames X ns ts → ns.all noStar = true
  | [], [], _ => rfl
  | n :: ns, t :: ts, h => by rw [List.all_cons, tyn_star h.1, tyns_star h.2]; rfl
theorem pa_tyns : ∀ {ns : List Expr} {ts : List Ty}, TyNames X ns ts → PA X ns (fun _ H Q => Q (ts.map fun c => V.ty (tyN c)) H)
  | [], [], _ => pa_nil
  | n :: ns, t :: ts, h => PA.imp (pa_cons (pe_tyn h.1) (pa_tyns h.2) (star_cons (tyn_star h.1))) fun _ _ _ q => q
theorem clsv_all : ∀ ts : List Ty, Paired ClsV (ts.map fun c => V.ty (tyN c)) (ts.map fun c => Value.type (tyN c))
  | [] => .nil
  | t :: ts => .cons (.ty _) (clsv_all ts)
theorem ev_isiN (hK : G.K = X.K) {ns : List Expr} {ts : List Ty} {k : Nat} {p p2 : Pos} (hg : Gl X "isinstance") (hm : X.mg "isinstance" = none) (ha : EvE X G W a fa) (hs : noStar a = true) (hn : TyNames X ns ts) (hl : ts.length ≤ 10) :
    EvE X G W (.Call (.Name "isinstance" p) [a, .Tuple ns k p2] [] pos) (fun ρ m => (fa ρ m).bind fun d m1 => R.of ((isiD m1 d ts).map .bl) m1) := by
  have hpa : PA X [a, .Tuple ns k p2] _ := pa_cons ha (pa_cons (pe_tup (x1 := k) (pos := p2) (pa_tyns hn)) pa_nil rfl) (star_cons hs)
  refine PE.imp (pe_callB call_isiT hg hm PyProof.Rows.boot_isinstance hpa (by decide) (by decide) (star_cons hs) (plain_args rfl)) fun σ H Q ⟨ρ, m, μ, τ, g, s, h⟩ => ?_
  refine ⟨ρ, m, μ, τ, g, s, (Pst.bind (RP := RD G τ) h).imp fun x H1 ⟨d, m1, μ1, n1, g1, r1, h1⟩ => ?_⟩
  refine ⟨by rw [List.length_map]; exact small (by omega), fun tp htp => ?_⟩
  have nl : Nxt μ1 τ H1 μ1 (tp :: τ) (upd H1 tp (.tup (ts.map fun c => V.ty (tyN c)))) := Nxt.laid htp
  have h2 : Pst G W σ μ1 τ (upd H1 tp (.tup (ts.map fun c => V.ty (tyN c)))) (RD G τ) (R.of ((isiD m1 d ts).map .bl) m1) Q := by
    cases hb : isiD m1 d ts with
    | none => rw [hb] at h1; exact h1
    | some b =>
      rw [hb] at h1
      exact fun v H' μ' n' g' r' => h1 v H' μ' (nl.free.trans n') g' r'
  obtain ⟨u, k1, k2, k3⟩ := isi_here hK (g1.laid htp).free (r1.next nl.free g1) h2
  exact ⟨x, tp, _, _, _, _, rfl, upd_same, clsv_all ts, k1, k2, k3⟩

/-! ### -a, xs[::-1] -/
theorem ev_neg (ha : EvE X G W a fa) : EvE X G W (.UnaryOp .USub a pos) (fun ρ m => (fa ρ m).bind fun d m1 => match d with | .int i => .ok (.int (-i)) m1 | _ => .bad) := by
  refine PE.imp (pe_un un_neg ha) fun σ H Q ⟨ρ, m, μ, τ, g, s, h⟩ => ?_
  refine ⟨ρ, m, μ, τ, g, s, (Pst.bind (RP := RD G τ) h).imp fun x H1 ⟨d, m1, μ1, n1, g1, r1, h1⟩ => ?_⟩
  cases d with
  | int i => exact ⟨i, r1, Pst.here h1 g1 rfl⟩
  | _ => exact False.elim h1
theorem ev_rev {k : Nat} {p1 p2 p3 : Pos} (ha : EvE X G W a fa) : EvF X G W (.Subscript a (.Slice none none (some (.UnaryOp .USub (.Constant (.int 1) k p1) p2)) p3) pos) (fun ρ m => (fa ρ m).bind fun d m1 => R.of (revD d m1) m1) := by
  refine PE.imp (pe_revL ha) fun σ H Q ⟨ρ, m, μ, τ, g, s, h⟩ => ?_
  refine ⟨ρ, m, μ, τ, g, s, (PstF.bind (RP := RD G τ) g h).imp fun x H1 ⟨d, m1, μ1, n1, g1, r1, h1⟩ => ?_⟩
  cases hl : lstOf m1 d with
  | none => rw [revD, hl] at h1; exact False.elim h1
  | some xs =>
    rw [revD, hl] at h1
    obtain ⟨a, vs, rfl, p, rs⟩ := lst_inv g1 r1 hl
    exact ⟨a, vs, rfl, .inl (.inl p), fun q hq => newL h1 g1 rs.reverse hq⟩
end
end EV

/-! Methods, displays, stores, sorted. -/
namespace EV
open PySem PySem.Spec PyProof.Rows L2

section
variable {X : Cx} {G : Gw} {W : WX} {σ : L2.St} {μ τ : List Addr} {H : Hp} {m : Mem} {Q : VK} {pins : List (Addr × Obj)} {s : Shared} {a b c e : Expr} {fa fb fc f : Rho → Mem → R D} {pos : Pos}
/-! ### methods -/
def rBm (G : Gw) (k : D → List D → Mem → R D) : V → List V → Hp → VK → Prop := fun x xs H Q => ∃ (W : WX) (σ : L2.St) (d : D) (ds : List D) (m : Mem) (μ τ : List Addr), Good G μ τ m H ∧ Rep G μ τ H d x ∧ Reps G μ τ H ds xs ∧ PstF G W σ μ τ H (k d ds m) Q
def baseOk : Expr → Bool
  | .Call _ _ _ _ => false
  | _ => true
theorem base_of {o : Expr} {name : Str} {env : Env} {w : Sem Value} (h : baseOk o = true) : attributeBase o name env w = w := by
  cases o <;> first | rfl | exact nomatch h
theorem ev_bm {es : List Expr} {fs : Rho → Mem → R (List D)} {name : Str} {T id : String} {b : Bm} {apos : Pos} (pa : PlainAttrs T) (slot : Slot T name id) (hty : typeOf (.builtin id) = pure (.type "method_descriptor")) (hm : MtR X id (rBm G (bmD b)))
    (htv : ∀ d m v H μ τ, tyM b d m = true → Good G μ τ m H → Rep G μ τ H d v → tyV X.K T v H) (ha : EvE X G W a fa) (hs : EvA X G W (e :: es) fs) (hb : baseOk a = true) (hst : (e :: es).all noStar = true) (hl : (e :: es).length < 20) (hline : (apos.endLine == pos.line) = true) :
    EvF X G W (.Call (.Attribute a name apos) (e :: es) [] pos) (fun ρ m => (fa ρ m).bind fun d m1 => if tyM b d m1 then (fs ρ m1).bind fun ds m2 => bmD b d ds m2 else .bad) := by
  have hst' := hst
  rw [List.all_cons, Bool.and_eq_true] at hst'
  refine PE.imp (pe_bm pa slot hty hm ha hs (base_of hb) ?_ hline (star_cons hst'.1) (plain_args hst'.2)) fun σ H Q ⟨ρ, m, μ, τ, g, s, h⟩ => ?_
  · rw [few_args hst]
    show (true && true && decide ((e :: es).length + 0 + 0 < 30)) = true
    exact decide_eq_true (by omega)
  · refine ⟨ρ, m, μ, τ, g, s, (PstF.bind (RP := RD G τ) g h).imp fun x H1 ⟨d, m1, μ1, n1, g1, r1, h1⟩ => ?_⟩
    by_cases ht : tyM b d m1 = true
    · rw [if_pos ht] at h1
      refine ⟨htv _ _ _ _ _ _ ht g1 r1, ρ, m1, μ1, τ, g1, s.nxt g n1, (PstF.bind (RP := RL G τ) g1 h1).imp fun xs H2 ⟨ds, m2, μ2, n2, g2, r2, h2⟩ => ?_⟩
      exact ⟨W, σ, d, ds, m2, μ2, τ, g2, r1.next n2 g1, r2, h2⟩
    · rw [if_neg ht] at h1; exact False.elim h1
theorem tyV_list {d : D} {v : V} (b : Bm) (hb : b ≠ .join) (h : tyM b d m = true) (g : Good G μ τ m H) (r : Rep G μ τ H d v) : tyV X.K "list" v H := by
  have key : ∀ n a, d = .ref n → (match m[n]? with | some (.lst _) => true | _ => false) = true → v = .ref a → μ[n]? = some a → tyV X.K "list" v H := by
    intro n a e h e2 q
    subst e2
    cases hc : m[n]? with
    | none => rw [hc] at h; cases h
    | some c =>
      rw [hc] at h
      cases c with
      | lst ys =>
        obtain ⟨vs, h1, h2⟩ := g.cell n _ a hc q
        exact .inl ⟨rfl, vs, .inl (.inl h1)⟩
      | _ => cases h
  cases d with
  | ref n =>
    obtain ⟨a, e, q⟩ := r
    cases b with
    | join => exact absurd rfl hb
    | _ => exact key n a rfl h e q
  | _ => cases b with
    | join => exact absurd rfl hb
    | _ => exact nomatch h
theorem tyV_str {d : D} {v : V} (h : tyM .join d m = true) (r : Rep G μ τ H d v) : tyV X.K "str" v H := by
  cases d with
  | str x => cases (show v = _ from r.1); rfl
  | _ => exact nomatch h
/-- a cell is written -/
theorem wrote {n : Nat} {a : Addr} {o : HO} {cl : Cell} {d : D} {x : V} (q : PstF G W σ μ τ H (.ok d (m.set n cl)) Q) (g : Good G μ τ m H) (hn : μ[n]? = some a) (hc : CellRep G μ τ (upd H a o) a cl) (r : Rep G μ τ (upd H a o) d x)
    (hd : ∀ ds, d ≠ .lst ds) (hd2 : ∀ ks ds, d ≠ .dic ks ds) : Q x (upd H a o) := by
  have nx : Nxt μ τ H μ τ (upd H a o) := Nxt.write g hn
  have g' := g.write hn hc
  cases d with
  | lst ds => exact absurd rfl (hd ds)
  | dic ks ds => exact absurd rfl (hd2 ks ds)
  | _ => exact q x _ μ nx g' r
theorem mt_app : MtR X "list.append" (rBm G (bmD .append)) := by
  intro pins s σ H x xs v us Q I rx rs ⟨W, σ', d, ds, m, μ, τ, g, r1, r2, q⟩
  dsimp only [bmD] at q
  unfold appendD at q
  split at q
  · rename_i n y
    obtain ⟨z, rfl, ry⟩ := one_inv rfl r2
    obtain ⟨a, rfl, hn⟩ := r1
    split at q
    · rename_i ys hc
      by_cases hl : ys.length < lim
      · rw [if_pos hl] at q
        obtain ⟨vs, h1, h2⟩ := g.cell n _ a hc hn
        refine mt_append pins s σ H _ _ v us Q I rx rs ⟨a, vs, z, rfl, rfl, h1, by rw [h2.length, ← lim_eq]; exact hl, ?_⟩
        have nx : Nxt μ τ H μ τ (upd H a (.lst (vs ++ [z]))) := Nxt.write g hn
        exact wrote q g hn ⟨_, upd_same, (h2.next nx g).append (.cons (ry.next nx g) .nil)⟩ rfl (fun _ => nofun) (fun _ _ => nofun)
      · rw [if_neg hl] at q; exact False.elim q
    · exact False.elim q
  · exact False.elim q
theorem mt_ext : MtR X "list.extend" (rBm G (bmD .extend)) := by
  intro pins s σ H x xs v us Q I rx rs ⟨W, σ', d, ds, m, μ, τ, g, r1, r2, q⟩
  dsimp only [bmD] at q
  unfold extendD at q
  split at q
  · rename_i n y
    obtain ⟨z, rfl, ry⟩ := one_inv rfl r2
    obtain ⟨a, rfl, hn⟩ := r1
    split at q
    · rename_i ys hc
      split at q
      · rename_i zs hz
        by_cases hl : ys.length + zs.length ≤ lim
        · rw [if_pos hl] at q
          obtain ⟨vs, h1, h2⟩ := g.cell n _ a hc hn
          obtain ⟨b, ws, rfl, p, rw'⟩ := lst_inv g ry hz
          refine mt_extend pins s σ H _ _ v us Q I rx rs ⟨a, b, vs, ws, rfl, rfl, h1, p, by rw [h2.length, rw'.length, ← lim_eq]; exact hl, ?_⟩
          have nx : Nxt μ τ H μ τ (upd H a (.lst (vs ++ ws))) := Nxt.write g hn
          exact wrote q g hn ⟨_, upd_same, (h2.next nx g).append (rw'.next nx g)⟩ rfl (fun _ => nofun) (fun _ _ => nofun)
        · rw [if_neg hl] at q; exact False.elim q
      · exact False.elim q
    · exact False.elim q
  · exact False.elim q
theorem sOk_glue {sep : Str} (h1 : sOk sep = true) : ∀ (l : List Str) (acc : Array Nat), acc.all (· < 0x110000) = true → l.all sOk = true → (l.foldl (fun acc p => acc ++ sep.cps ++ p.cps) acc).all (· < 0x110000) = true
  | [], acc, h, _ => h
  | x :: l, acc, h, hl => by
    rw [List.all_cons, Bool.and_eq_true] at hl
    rw [List.foldl_cons]
    refine sOk_glue h1 l _ ?_ hl.2
    have h2 : sep.cps.all (· < 0x110000) = true := h1
    have h3 : x.cps.all (· < 0x110000) = true := hl.1
    rw [Array.all_append, Array.all_append, h, h2, h3]; rfl
theorem sOk_all : ∀ {ys : List Str} {sep : Str}, sOk sep = true → ys.all sOk = true → sOk (Txt.join sep ys) = true := by
  intro ys sep h1 h2
  show (Builtin.Str.glued sep ys).cps.all (· < 0x110000) = true
  unfold Builtin.Str.glued
  cases ys with
  | nil => exact sOk_of ""
  | cons x ys =>
    rw [List.all_cons, Bool.and_eq_true] at h2
    exact sOk_glue h1 ys x.cps h2.1 h2.2
theorem mt_joinD : MtR X "str.join" (rBm G (bmD .join)) := by
  intro pins s σ H x xs v us Q I rx rs ⟨W, σ', d, ds, m, μ, τ, g, r1, r2, q⟩
  dsimp only [bmD] at q
  unfold joinD at q
  split at q
  · rename_i sep y
    obtain ⟨z, rfl, ry⟩ := one_inv rfl r2
    cases (show x = _ from r1.1)
    split at q
    · rename_i ys hy
      by_cases hl : (ys.map (·.length)).sum + sep.length * ys.length ≤ lim
      · rw [if_pos hl] at q
        obtain ⟨xs, a, vs, rfl, p, rv, hf⟩ := lstb g ry hy
        obtain ⟨e1, e2⟩ := strs_of rv hf
        subst e1
        refine mt_join pins s σ H _ _ v us Q I rx rs ⟨sep, a, ys, rfl, rfl, .inl (.inl (.inl p)), ?_, Pst.here (W := W) (σ := σ') q g ⟨rfl, sOk_all r1.2 e2⟩⟩
        rw [Nat.mul_comm ys.length]; exact hl
      · rw [if_neg hl] at q; exact False.elim q
    · exact False.elim q
  · exact False.elim q

/-! ### stores -/
theorem putK_zip {α : Type} (q : Key) (v : V) : ∀ (ks : List Key) (vs : List V), ks.length = vs.length → putK (ks.zip vs) q v = (dputK ks q).zip (dputX ks vs q v) := by
  have any : ∀ (ks : List Key) (vs : List V), ks.length = vs.length → (ks.zip vs).any (fun kv => decide (kv.1 = q)) = kin ks q := by
    intro ks
    induction ks with
    | nil => intro vs _; rfl
    | cons k ks ih =>
      intro vs l
      cases vs with
      | nil => simp at l
      | cons x vs =>
        rw [List.zip_cons_cons, List.any_cons, ih vs (by simpa using l)]
        rfl
  have mp : ∀ (ks : List Key) (vs : List V), ks.length = vs.length → (ks.zip vs).map (fun kv => if kv.1 = q then (kv.1, v) else kv) = ks.zip (dsetX ks vs q v) := by
    intro ks
    induction ks with
    | nil => intro vs _; rfl
    | cons k ks ih =>
      intro vs l
      cases vs with
      | nil => simp at l
      | cons x vs =>
        rw [List.zip_cons_cons, List.map_cons, ih vs (by simpa using l)]
        show _ = (k, if k = q then v else x) :: ks.zip (dsetX ks vs q v)
        by_cases e : k = q
        · rw [if_pos e, if_pos e]
        · rw [if_neg e, if_neg e]
  intro ks vs l
  unfold putK dputK dputX
  rw [any ks vs l]
  cases kin ks q with
  | true => rw [if_pos rfl, if_pos rfl, if_pos rfl]; exact mp ks vs l
  | false =>
    rw [if_neg (by simp), if_neg (by simp), if_neg (by simp), List.zip_append l]
    rfl
theorem dsetX_len {α : Type} (q : Key) (v : α) : ∀ (ks : List Key) (vs : List α), (dsetX ks vs q v).length = vs.length
  | [], _ => rfl
  | _ :: _, [] => rfl
  | k :: ks, x :: vs => by
    show (dsetX ks vs q v).length + 1 = _
    rw [dsetX_len q v ks vs]; rfl
theorem dputX_len {α : Type} (q : Key) (v : α) {ks : List Key} {vs : List α} (l : ks.length = vs.length) : (dputK ks q).length = (dputX ks vs q v).length := by
  unfold dputK dputX
  split
  · rw [dsetX_len]; exact l
  · rw [List.length_append, List.length_append, l]; rfl
theorem Reps.dset {q : Key} {d : D} {v : V} (r : Rep G μ τ H d v) : ∀ {ks : List Key} {ds : List D} {vs : List V}, Reps G μ τ H ds vs → Reps G μ τ H (dsetX ks ds q d) (dsetX ks vs q v)
  | [], _, _, rs => by
    show Reps G μ τ H _ _
    unfold dsetX; exact rs
  | k :: ks, [], vs, rs => by
    cases (show vs = [] from rs); rfl
  | k :: ks, e :: ds, vs, rs => by
    obtain ⟨w, r', rfl, p, rs⟩ := rs
    refine ⟨if k = q then v else w, dsetX ks r' q v, rfl, ?_, Reps.dset r rs⟩
    by_cases e : k = q
    · rw [if_pos e, if_pos e]; exact r
    · rw [if_neg e, if_neg e]; exact p
theorem Reps.dput {q : Key} {d : D} {v : V} {ks : List Key} {ds : List D} {vs : List V} (r : Rep G μ τ H d v) (rs : Reps G μ τ H ds vs) : Reps G μ τ H (dputX ks ds q d) (dputX ks vs q v) := by
  unfold dputX
  split
  · exact rs.dset r
  · exact rs.append (.cons r .nil)
def rSetG (G : Gw) : TSet := fun o i v H Q => ∃ (d j y : D) (m : Mem) (μ τ : List Addr), Good G μ τ m H ∧ Rep G μ τ H d o ∧ Rep G μ τ H j i ∧ Rep G μ τ H y v ∧ ∃ m', setD d j y m = some m' ∧ ∀ H', Nxt μ τ H μ τ H' → Good G μ τ m' H' → Q H'
theorem set_G (hu : X.A.units + 1 < cLine) : PSet X (rSetG G) := by
  intro pins s σ H o i v ov iv u Q I ro ri rv ⟨d, j, y, m, μ, τ, g, r1, r2, r3, m', hs, q⟩
  unfold setD at hs
  split at hs
  · rename_i n
    obtain ⟨a, rfl, hn⟩ := r1
    split at hs
    · rename_i xs hc
      split at hs
      · rename_i k
        obtain ⟨jj, hj, hm⟩ := Option.map_eq_some_iff.mp hs
        subst hm
        cases (show i = _ from r2)
        obtain ⟨vs, h1, h2⟩ := g.cell n _ a hc hn
        refine set_list pins s σ H _ _ _ ov iv u Q I ro ri rv ⟨a, vs, k, jj, rfl, rfl, h1, by rw [h2.length]; exact hj, ?_⟩
        have nx : Nxt μ τ H μ τ (upd H a (.lst (vs.set jj v))) := Nxt.write g hn
        exact q _ nx (g.write hn ⟨_, upd_same, Reps.set (r3.next nx g) jj (h2.next nx g)⟩)
      · cases hs
    · rename_i ks xs hc
      split at hs
      · rename_i k hk
        split at hs
        · rename_i hl
          cases hs
          obtain ⟨vs, h1, l, h2⟩ := g.cell n _ a hc hn
          cases key_V r2 hk
          refine set_dict hu pins s σ H _ _ _ ov iv u Q I ro ri rv ⟨a, _, rfl, .inl ⟨_, k, h1, rfl, ?_, rfl⟩, ?_⟩
          · rw [List.length_zip, ← l, Nat.min_self, ← lim_eq]; exact hl
          · rw [putK_zip (α := V) k v ks vs l]
            have nx : Nxt μ τ H μ τ (upd H a (.dK ((dputK ks k).zip (dputX ks vs k v)))) := Nxt.write g hn
            exact q _ nx (g.write hn ⟨_, upd_same, dputX_len k v l, Reps.dput (r3.next nx g) (h2.next nx g)⟩)
        · cases hs
      · cases hs
    · cases hs
  · cases hs
end
end EV

/-! Walks, targets. -/
namespace EV
open PySem PySem.Spec PyProof.Rows L2

section
variable {X : Cx} {G : Gw} {W : WX} {σ : L2.St} {μ τ μ' τ' : List Addr} {H H' : Hp} {m m' : Mem} {pins : List (Addr × Obj)} {s : Shared} {a b c e : Expr} {fa fb fc f : Rho → Mem → R D} {pos : Pos}
/-! ### a reserved object is written -/
def Res (H : Hp) (τ : List Addr) (p : Addr) : Prop := p ∈ τ ∧ ((∃ vs, H p = some (.lst vs)) ∨ ∃ kvs, H p = some (.dK kvs))
theorem Rd.rewr {p a : Addr} {o u : HO} (hp : Res H τ p) (r : Rd H a u) (h1 : ∀ vs, u ≠ .lst vs) (h2 : ∀ vs, u ≠ .dK vs) : Rd (upd H p o) a u := by
  have ne : a ≠ p := fun z => by
    subst z
    obtain ⟨_, ⟨vs, h⟩ | ⟨vs, h⟩⟩ := hp
    · rcases r with r | ⟨o', r⟩ <;> rw [h] at r <;> cases r
      exact h1 _ rfl
    · rcases r with r | ⟨o', r⟩ <;> rw [h] at r <;> cases r
      exact h2 _ rfl
  rcases r with r | ⟨o', r⟩
  · exact .inl (by rw [upd_ne ne]; exact r)
  · exact .inr ⟨o', by rw [upd_ne ne]; exact r⟩
mutual
theorem Rep.rewr {p : Addr} {o : HO} (hp : Res H τ p) : ∀ {d : D} {v : V}, Rep G μ τ H d v → Rep G μ τ (upd H p o) d v
  | .non, _, r => r
  | .bl _, _, r => r
  | .int _, _, r => r
  | .str _, _, r => r
  | .tup ds, v, r => by
    obtain ⟨a, vs, e, q, rs⟩ := r
    refine ⟨a, vs, e, ?_, Reps.rewr hp rs⟩
    rcases q with q | q
    · exact .inl (Rd.rewr hp q (fun _ => nofun) (fun _ => nofun))
    · exact .inr q
  | .lst ds, v, r => by
    obtain ⟨a, vs, e, q, n1, n2, rs⟩ := r
    exact ⟨a, vs, e, by rw [upd_ne (fun (z : a = p) => n2 (z ▸ hp.1))]; exact q, n1, n2, Reps.rewr hp rs⟩
  | .dic ks ds, v, r => by
    obtain ⟨a, vs, e, q, l, n1, n2, rs⟩ := r
    exact ⟨a, vs, e, by rw [upd_ne (fun (z : a = p) => n2 (z ▸ hp.1))]; exact q, l, n1, n2, Reps.rewr hp rs⟩
  | .ref n, v, r => r
  | .fn, v, r => r
  | .scr ns, v, r => by
    obtain ⟨a, e, ⟨q, n1, n2⟩ | q⟩ := r
    case inr => exact ⟨a, e, .inr q⟩
    refine ⟨a, e, .inl ⟨?_, n1, n2⟩⟩
    have ne : a ≠ p := fun z => n2 (z ▸ hp.1)
    rcases q with q | ⟨o', q⟩
    · exact .inl (by rw [upd_ne ne]; exact q)
    · exact .inr ⟨o', by rw [upd_ne ne]; exact q⟩
theorem Reps.rewr {p : Addr} {o : HO} (hp : Res H τ p) : ∀ {ds : List D} {vs : List V}, Reps G μ τ H ds vs → Reps G μ τ (upd H p o) ds vs
  | [], _, r => r
  | d :: ds, vs, r => by
    obtain ⟨v, r', e, q, rs⟩ := r
    exact ⟨v, r', e, Rep.rewr hp q, Reps.rewr hp rs⟩
end
theorem Good.rewr {p : Addr} {o : HO} (g : Good G μ τ m H) (hp : Res H τ p) : Good G μ τ m (upd H p o) := by
  have np : p ∉ μ := (g.dis p hp.1).1
  refine ⟨g.len, fun n c a e1 e2 => ?_, g.nodup, fun a h => ⟨(g.dis a h).1, ?_⟩⟩
  · have ne : a ≠ p := fun z => np (z ▸ List.mem_of_getElem? e2)
    have cr := g.cell n c a e1 e2
    cases c with
    | lst ds => obtain ⟨vs, h1, h2⟩ := cr; exact ⟨vs, by rw [upd_ne ne]; exact h1, h2.rewr hp⟩
    | dic ks ds => obtain ⟨vs, h1, l, h2⟩ := cr; exact ⟨vs, by rw [upd_ne ne]; exact h1, l, h2.rewr hp⟩
    | ins c ns ds => obtain ⟨dx, vs, h1, l, h2⟩ := cr; exact ⟨dx, vs, by rw [upd_ne ne]; exact h1, l, h2.rewr hp⟩
  · by_cases e : a = p
    · subst e; rw [upd_same]; simp
    · rw [upd_ne e]; exact (g.dis a h).2

/-! ### walks -/
def Walk (G : Gw) (μ τ : List Addr) (H : Hp) (p : List D × Option (Nat × List D)) (J : L2.It) : Prop :=
  ∀ μ' τ' H' m', Nxt μ τ H μ' τ' H' → Good G μ' τ' m' H' → ckD p.2 m' = true →
    (∀ i d, p.1[i]? = some d → J.go i H' ∧ ∀ x H'', J.yld i H' x H'' → Nxt μ' τ' H' μ' τ' H'' ∧ Good G μ' τ' m' H'' ∧ Rep G μ' τ' H'' d x) ∧ ∀ i, p.1.length ≤ i → J.stop i H'
def rdI (G : Gw) (W : WX) (f : Rho → Mem → R (List D × Option (Nat × List D))) : TI := fun σ H R => ∃ ρ m μ τ, Good G μ τ m H ∧ Slots G μ τ H ρ σ ∧ Pst G W σ μ τ H (fun μ H p J => Walk G μ τ H p J) (f ρ m) R
def EvI (X : Cx) (G : Gw) (W : WX) (tg iter : Expr) (f : Rho → Mem → R (List D × Option (Nat × List D))) : Prop := PI X tg iter (rdI G W f)
theorem PI.imp {X : Cx} {tg e : Expr} {t t' : TI} (h : PI X tg e t) (q : ∀ σ H Q, t' σ H Q → t σ H Q) : PI X tg e t' := ⟨fun pins s σ H Q I z => h.run pins s σ H Q I (q σ H Q z)⟩
/-- the list at a stays as vs -/
theorem walk_lst {K : PySem.W.Frag} {xs : List D} {vs : List V} {a : Addr} {q : Option (Nat × List D)} (rs : Reps G μ τ H xs vs) (g : Good G μ τ m H) (h : ∀ μ' τ' H' m', Nxt μ τ H μ' τ' H' → Good G μ' τ' m' H' → ckD q m' = true → ∃ ws, H' a = some (.lst ws) ∧ Reps G μ' τ' H' xs ws) : Walk G μ τ H (xs, q) (Itl K a) := by
  intro μ' τ' H' m' n g' ck
  obtain ⟨ws, h1, h2⟩ := h μ' τ' H' m' n g' ck
  refine ⟨fun i d e => ?_, fun i hi => ⟨ws, .inl (.inl h1), by rw [h2.length]; exact hi⟩⟩
  obtain ⟨v, e1, e2⟩ := h2.get e
  refine ⟨⟨ws, v, .inl (.inl h1), e1⟩, fun x H'' ⟨e3, y⟩ => ?_⟩
  subst e3
  have e4 := y ws (.inl (.inl h1))
  rw [e1] at e4; cases e4
  exact ⟨.refl, g', e2⟩
theorem walk_tup {K : PySem.W.Frag} {xs : List D} {vs : List V} {a : Addr} (rs : Reps G μ τ H xs vs) (g : Good G μ τ m H) (h : SqT K H a vs) : Walk G μ τ H (xs, none) (Itt K a) := by
  intro μ' τ' H' m' n g' ck
  have h1 := SqT.nxt n (fun _ => g.mut) h
  have h2 := rs.next n g
  refine ⟨fun i d e => ?_, fun i hi => ⟨vs, h1, by rw [h2.length]; exact hi⟩⟩
  obtain ⟨v, e1, e2⟩ := h2.get e
  refine ⟨⟨vs, v, h1, e1⟩, fun x H'' ⟨e3, y⟩ => ?_⟩
  subst e3
  have e4 := y vs h1
  rw [e1] at e4; cases e4
  exact ⟨.refl, g', e2⟩
theorem walk_rng {lo hi : Int} {xs : List D} (h : rngD lo hi = some xs) : Walk G μ τ H (xs, none) (Itr lo (hi - lo).toNat) ∧ -(2 ^ 62) ≤ lo ∧ lo < 2 ^ 62 ∧ -(2 ^ 62) ≤ hi ∧ hi < 2 ^ 62 := by
  unfold rngD at h
  split at h
  · rename_i hh
    cases h
    refine ⟨fun μ' τ' H' m' n g' ck => ⟨fun i d e => ?_, fun i hi => by show _ ≤ i; simpa [List.length_map, List.length_range] using hi⟩, hh⟩
    have hi := (List.getElem?_eq_some_iff.mp e).1
    rw [List.length_map, List.length_range] at hi
    rw [List.getElem?_map, List.getElem?_range hi] at e
    cases e
    refine ⟨hi, fun x H'' ⟨e3, y⟩ => ?_⟩
    subst e3 y
    exact ⟨.refl, g', rfl⟩
  · cases h
theorem walk_str {z : Str} (hz : sOk z = true) : Walk G μ τ H (z.cps.toList.map fun c => .str ⟨#[c]⟩, none) (Its z) := by
  intro μ' τ' H' m' n g' ck
  refine ⟨fun i d e => ?_, fun i hi => by show _ ≤ i; simpa using hi⟩
  rw [List.getElem?_map] at e
  obtain ⟨c, e1, e2⟩ := Option.map_eq_some_iff.mp e
  have hi := (List.getElem?_eq_some_iff.mp e1).1
  rw [Array.length_toList] at hi
  refine ⟨hi, fun x H'' ⟨e3, c', e4, e5⟩ => ?_⟩
  subst e3 e5
  rw [Array.getElem?_toList, e4] at e1
  cases e1
  subst e2
  refine ⟨.refl, g', rfl, ?_⟩
  unfold sOk at hz ⊢
  rw [Array.all_eq_true_iff_forall_mem] at hz
  have := hz c (by simpa using Array.mem_of_getElem? e4)
  simpa using this
/-- a value walked -/
theorem evi_ex {tg : Expr} (hK : G.K = X.K) (he : EvE X G W e fa) : EvI X G W tg e (fun ρ m => (fa ρ m).bind fun d m1 => match d with
    | .ref n => match m1[n]? with
      | some (.lst xs) => .ok (xs, some (n, xs)) m1
      | _ => .bad
    | d => R.of ((itsD m1 d).map fun xs => (xs, none)) m1) := by
  refine ⟨fun pins s σ H R I ⟨ρ, m, μ, τ, g, sl, h⟩ => ?_⟩
  dsimp only at h
  cases hr : fa ρ m with
  | bad => rw [hr] at h; exact False.elim h
  | ex x p m1 =>
    refine (pi_tup he).run pins s σ H R I ⟨ρ, m, μ, τ, g, sl, ?_⟩
    rw [hr] at h ⊢
    exact h
  | ok d m1 =>
    rw [hr] at h
    cases d with
    | tup xs =>
      refine (pi_tup he).run pins s σ H R I ⟨ρ, m, μ, τ, g, sl, ?_⟩
      rw [hr]
      intro v H1 μ1 n1 g1 r1
      obtain ⟨a, vs, e, q, rs⟩ := r1
      exact ⟨a, e, ⟨vs, hK ▸ q⟩, h _ H1 μ1 n1 g1 (walk_tup rs g1 (hK ▸ q))⟩
    | str z =>
      refine (pi_str he).run pins s σ H R I ⟨ρ, m, μ, τ, g, sl, ?_⟩
      rw [hr]
      intro v H1 μ1 n1 g1 r1
      exact ⟨z, r1.1, h _ H1 μ1 n1 g1 (walk_str r1.2)⟩
    | lst xs =>
      refine (pi_list he).run pins s σ H R I ⟨ρ, m, μ, τ, g, sl, ?_⟩
      rw [hr]
      intro v H1 μ1 n1 g1 r1
      obtain ⟨a, vs, e, q, na, nt, rs⟩ := r1
      refine ⟨a, e, ⟨vs, .inl (.inl q)⟩, h _ H1 μ1 n1 g1 (walk_lst rs g1 fun μ' τ' H' m' n g' ck => ⟨vs, n.keep a _ q na (fun ps z => by cases z), rs.next n g1⟩)⟩
    | ref k =>
      refine (pi_list he).run pins s σ H R I ⟨ρ, m, μ, τ, g, sl, ?_⟩
      rw [hr]
      intro v H1 μ1 n1 g1 r1
      obtain ⟨a, e, hk⟩ := r1
      have h : Pst G W σ μ τ H _ (match m1[k]? with | some (.lst xs) => EV.R.ok (xs, some (k, xs)) m1 | _ => .bad) R := h
      cases hc : m1[k]? with
      | none => rw [hc] at h; exact False.elim h
      | some cl =>
        rw [hc] at h
        cases cl with
        | lst xs =>
          obtain ⟨vs, q, rs⟩ := g1.cell k _ a hc hk
          refine ⟨a, e, ⟨vs, .inl (.inl q)⟩, h _ H1 μ1 n1 g1 (walk_lst rs g1 fun μ' τ' H' m' n g' ck => ?_)⟩
          have ck : m'[k]? = some (.lst xs) := of_decide_eq_true ck
          exact g'.cell k _ a ck (n.pre k a hk)
        | _ => exact False.elim h
    | _ => exact False.elim h
theorem evi_rng1 {tg : Expr} {p : Pos} (hg : Gl X "range") (hm : X.mg "range" = none) (he : EvE X G W e fa) (hs : noStar e = true) : EvI X G W tg (.Call (.Name "range" p) [e] [] pos) (fun ρ m => (fa ρ m).bind fun d m1 => match d with
    | .int i => R.of ((rngD 0 i).map fun xs => (xs, none)) m1
    | _ => .bad) := by
  refine PI.imp (pi_range1 hg hm (ev_cons he ev_nil (star_cons hs)) (by rw [star_cons hs]; rfl)) fun σ H R ⟨ρ, m, μ, τ, g, sl, h⟩ => ?_
  refine ⟨ρ, m, μ, τ, g, sl, ?_⟩
  dsimp only at h ⊢
  cases hr : fa ρ m with
  | bad => rw [hr] at h; exact False.elim h
  | ex x p m1 => rw [hr] at h; exact h
  | ok d m1 =>
    rw [hr] at h
    cases d with
    | int i =>
      have h : Pst G W σ μ τ H _ (EV.R.of ((rngD 0 i).map fun xs => (xs, none)) m1) R := h
      cases hx : rngD 0 i with
      | none => rw [hx] at h; exact False.elim h
      | some xs =>
        rw [hx] at h
        intro vs H1 μ1 n1 g1 r1
        obtain ⟨v, e1, r1⟩ := one_inv rfl r1
        cases (show v = _ from r1)
        obtain ⟨w, b1, b2, b3, b4⟩ := walk_rng (G := G) (μ := μ1) (τ := τ) (H := H1) hx
        refine ⟨i, e1, b3, b4, ?_⟩
        have e2 : (i - 0).toNat = i.toNat := by rw [Int.sub_zero]
        rw [← e2]
        exact h _ H1 μ1 n1 g1 w
    | _ => exact False.elim h
theorem evi_rng2 {tg : Expr} {p : Pos} (hg : Gl X "range") (hm : X.mg "range" = none) (ha : EvE X G W a fa) (hb : EvE X G W b fb) (hs : noStar a = true) (hs2 : noStar b = true) : EvI X G W tg (.Call (.Name "range" p) [a, b] [] pos) (fun ρ m => (fa ρ m).bind fun d m1 => (fb ρ m1).bind fun e m2 => match d, e with
    | .int i, .int j => R.of ((rngD i j).map fun xs => (xs, none)) m2
    | _, _ => .bad) := by
  refine PI.imp (pi_range2 hg hm (ev_cons ha (ev_cons hb ev_nil (star_cons hs2)) (star_cons hs)) (by rw [star_cons hs, star_cons hs2]; rfl) (by rw [star_cons hs2]; rfl)) fun σ H R ⟨ρ, m, μ, τ, g, sl, h⟩ => ?_
  refine ⟨ρ, m, μ, τ, g, sl, ?_⟩
  dsimp only at h ⊢
  cases hr : fa ρ m with
  | bad => rw [hr] at h; exact False.elim h
  | ex x p m1 => rw [hr] at h; exact h
  | ok d m1 =>
    rw [hr] at h
    dsimp only [EV.R.bind] at h ⊢
    cases hr2 : fb ρ m1 with
    | bad => rw [hr2] at h; exact False.elim h
    | ex x p m2 => rw [hr2] at h; exact h
    | ok e2 m2 =>
      rw [hr2] at h
      dsimp only [EV.R.bind] at h ⊢
      intro vs H1 μ1 n1 g1 r1
      obtain ⟨v, w, e1, r2, r3⟩ := two_inv rfl r1
      cases d with
      | int i =>
        cases e2 with
        | int j =>
          dsimp only at h
          cases hx : rngD i j with
          | none => rw [hx] at h; exact False.elim h
          | some xs =>
            rw [hx] at h
            cases (show v = _ from r2); cases (show w = _ from r3)
            obtain ⟨w, b⟩ := walk_rng (G := G) (μ := μ1) (τ := τ) (H := H1) hx
            exact ⟨i, j, e1, b, h _ H1 μ1 n1 g1 w⟩
        | _ => exact False.elim h
      | _ => exact False.elim h
/-- a new pair -/
theorem paired {T : Addr} {d1 d2 : D} {x y : V} (g : Good G μ τ m H) (hT : H T = none) (r1 : Rep G μ τ H d1 x) (r2 : Rep G μ τ H d2 y) : Nxt μ τ H μ τ (upd H T (.tup [x, y])) ∧ Good G μ τ m (upd H T (.tup [x, y])) ∧ Rep G μ τ (upd H T (.tup [x, y])) (.tup [d1, d2]) (.ref T) := by
  have nl : Nxt μ τ H μ (T :: τ) (upd H T (.tup [x, y])) := Nxt.laid hT
  exact ⟨nl.free, (g.laid hT).free, T, _, rfl, SqT.of upd_same, .cons (r1.next nl.free g) (.cons (r2.next nl.free g) .nil)⟩
theorem zip_at {xs ys : List D} {i : Nat} {d : D} (h : ((xs.zip ys).map fun p => D.tup [p.1, p.2])[i]? = some d) : ∃ d1 d2, xs[i]? = some d1 ∧ ys[i]? = some d2 ∧ d = .tup [d1, d2] := by
  rw [List.getElem?_map] at h
  obtain ⟨p, e1, e2⟩ := Option.map_eq_some_iff.mp h
  rw [List.getElem?_zip_eq_some] at e1
  exact ⟨p.1, p.2, e1.1, e1.2, e2.symm⟩
theorem evi_zip {elts : List Expr} {kk : Nat} {tpos p : Pos} (hK : G.K = X.K) (hg : Gl X "zip") (hm : X.mg "zip" = none) (ha : EvE X G W a fa) (hb : EvE X G W b fb) (hs : noStar a = true) (hs2 : noStar b = true) :
    EvI X G W (.Tuple elts kk tpos) (.Call (.Name "zip" p) [a, b] [] pos) (fun ρ m => (fa ρ m).bind fun d m1 => (fb ρ m1).bind fun e m2 => R.of ((zipD d e).map fun xs => (xs, none)) m2) := by
  refine PI.imp (RZ.pi_zipA hg hm (ev_cons ha (ev_cons hb ev_nil (star_cons hs2)) (star_cons hs)) (star_cons hs) (plain_args (by rw [List.all_cons, hs2]; rfl))) fun σ H R ⟨ρ, m, μ, τ, g, sl, h⟩ => ?_
  refine ⟨ρ, m, μ, τ, g, sl, ?_⟩
  dsimp only at h ⊢
  cases hr : fa ρ m with
  | bad => rw [hr] at h; exact False.elim h
  | ex x p m1 => rw [hr] at h; exact h
  | ok d m1 =>
    rw [hr] at h
    dsimp only [EV.R.bind] at h ⊢
    cases hr2 : fb ρ m1 with
    | bad => rw [hr2] at h; exact False.elim h
    | ex x p m2 => rw [hr2] at h; exact h
    | ok e2 m2 =>
      rw [hr2] at h
      dsimp only [EV.R.bind] at h ⊢
      intro vs H1 μ1 n1 g1 r1
      obtain ⟨v, w, e1, r2, r3⟩ := two_inv rfl r1
      cases d with
      | tup xs =>
        cases e2 with
        | tup ys =>
          obtain ⟨a, vs1, rfl, q1, s1⟩ := r2
          obtain ⟨b, vs2, rfl, q2, s2⟩ := r3
          refine ⟨a, b, vs1, vs2, e1, .inr ⟨hK ▸ q1, hK ▸ q2, h _ H1 μ1 n1 g1 fun μ' τ' H' m' n g' ck => ?_⟩⟩
          have k1 : SqT X.K H' a vs1 := SqT.nxt n (fun _ => g1.mut) (hK ▸ q1)
          have k2 : SqT X.K H' b vs2 := SqT.nxt n (fun _ => g1.mut) (hK ▸ q2)
          have t1 := s1.next n g1
          have t2 := s2.next n g1
          refine ⟨fun i d e => ?_, fun i hi => ⟨vs1, vs2, k1, k2, by rw [t1.length, t2.length]; simp only [List.length_map, List.length_zip] at hi; omega⟩⟩
          obtain ⟨d1, d2, f1, f2, rfl⟩ := zip_at e
          obtain ⟨x1, u1, u2⟩ := t1.get f1
          obtain ⟨x2, u3, u4⟩ := t2.get f2
          refine ⟨⟨vs1, vs2, x1, x2, k1, k2, u1, u3⟩, fun x H'' ⟨T, y1, y2, e3, hT, e4, e5, e6⟩ => ?_⟩
          have e5 := e5 vs1 k1
          have e6 := e6 vs2 k2
          rw [u1] at e5; cases e5
          rw [u3] at e6; cases e6
          subst e3 e4
          exact paired g' hT u2 u4
        | _ => exact False.elim h
      | lst xs =>
        cases e2 with
        | lst ys =>
          obtain ⟨a, vs1, rfl, q1, na, nt, s1⟩ := r2
          obtain ⟨b, vs2, rfl, q2, nb, nu, s2⟩ := r3
          refine ⟨a, b, vs1, vs2, e1, .inl ⟨.inl (.inl q1), .inl (.inl q2), h _ H1 μ1 n1 g1 fun μ' τ' H' m' n g' ck => ?_⟩⟩
          have k1 : SqL X.K H' a vs1 := .inl (.inl (n.keep a _ q1 na (fun ps z => by cases z)))
          have k2 : SqL X.K H' b vs2 := .inl (.inl (n.keep b _ q2 nb (fun ps z => by cases z)))
          have t1 := s1.next n g1
          have t2 := s2.next n g1
          refine ⟨fun i d e => ?_, fun i hi => ⟨vs1, vs2, k1, k2, by rw [t1.length, t2.length]; simp only [List.length_map, List.length_zip] at hi; omega⟩⟩
          obtain ⟨d1, d2, f1, f2, rfl⟩ := zip_at e
          obtain ⟨x1, u1, u2⟩ := t1.get f1
          obtain ⟨x2, u3, u4⟩ := t2.get f2
          refine ⟨⟨vs1, vs2, x1, x2, k1, k2, u1, u3⟩, fun x H'' ⟨T, y1, y2, e3, hT, e4, e5, e6⟩ => ?_⟩
          have e5 := e5 vs1 k1
          have e6 := e6 vs2 k2
          rw [u1] at e5; cases e5
          rw [u3] at e6; cases e6
          subst e3 e4
          exact paired g' hT u2 u4
        | _ => exact False.elim h
      | _ => exact False.elim h
theorem evi_enm {elts : List Expr} {kk : Nat} {tpos p : Pos} (hg : Gl X "enumerate") (hm : X.mg "enumerate" = none) (ha : EvE X G W a fa) (hs : noStar a = true) :
    EvI X G W (.Tuple elts kk tpos) (.Call (.Name "enumerate" p) [a] [] pos) (fun ρ m => (fa ρ m).bind fun d m1 => R.of ((enmD d).map fun xs => (xs, none)) m1) := by
  refine PI.imp (pi_enum hg hm (ev_cons ha ev_nil (star_cons hs)) (by rw [star_cons hs]; rfl)) fun σ H R ⟨ρ, m, μ, τ, g, sl, h⟩ => ?_
  refine ⟨ρ, m, μ, τ, g, sl, ?_⟩
  dsimp only at h ⊢
  cases hr : fa ρ m with
  | bad => rw [hr] at h; exact False.elim h
  | ex x p m1 => rw [hr] at h; exact h
  | ok d m1 =>
    rw [hr] at h
    dsimp only [EV.R.bind] at h ⊢
    intro vs H1 μ1 n1 g1 r1
    obtain ⟨v, e1, r1⟩ := one_inv rfl r1
    cases d with
    | lst xs =>
      obtain ⟨a, vs1, rfl, q1, na, nt, s1⟩ := r1
      refine ⟨a, vs1, e1, .inl (.inl q1), h _ H1 μ1 n1 g1 fun μ' τ' H' m' n g' ck => ?_⟩
      have k1 : SqL X.K H' a vs1 := .inl (.inl (n.keep a _ q1 na (fun ps z => by cases z)))
      have t1 := s1.next n g1
      refine ⟨fun i d e => ?_, fun i hi => ⟨vs1, k1, by rw [t1.length]; simpa using hi⟩⟩
      dsimp only at e
      rw [List.getElem?_map] at e
      obtain ⟨p, f1, f2⟩ := Option.map_eq_some_iff.mp e
      rw [List.getElem?_zipIdx] at f1
      obtain ⟨d1, f3, f4⟩ := Option.map_eq_some_iff.mp f1
      subst f4
      obtain ⟨x1, u1, u2⟩ := t1.get f3
      refine ⟨⟨vs1, x1, k1, u1⟩, fun x H'' ⟨T, y1, e3, hT, e4, e5⟩ => ?_⟩
      have e5 := e5 vs1 k1
      rw [u1] at e5; cases e5
      subst e3 e4 f2
      refine paired g' hT ?_ u2
      show V.int _ = V.int _
      simp
    | _ => exact False.elim h
end
end EV

/-! Targets, comprehensions. -/
namespace EV
open PySem PySem.Spec PyProof.Rows L2

mutual
def tgI : Tg → List Nat
  | .nm i => [i]
  | .tp ts => tgsI ts
def tgsI : Tgs → List Nat
  | .nil => []
  | .cons t ts => tgI t ++ tgsI ts
end
section
variable {X : Cx} {G : Gw} {W : WX} {σ : L2.St} {μ τ μ' τ' : List Addr} {H H' : Hp} {m m' : Mem} {ρ : Rho} {pins : List (Addr × Obj)} {s : Shared} {a b c e : Expr} {fa fb fc f : Rho → Mem → R D} {pos : Pos}
theorem Slots.set (s : Slots G μ τ H ρ σ) {i : Nat} {d : D} {v : V} (hi : i < ρ.length) (r : Rep G μ τ H d v) : Slots G μ τ H (ρ.set i (some d)) (σ.set i (some v)) := by
  refine ⟨by rw [List.length_set, List.length_set]; exact s.1, fun j e h => ?_⟩
  by_cases hj : i = j
  · subst hj
    rw [List.getElem?_set_self hi] at h
    cases h
    exact ⟨v, by rw [List.getElem?_set_self (by rw [← s.1]; exact hi)], r⟩
  · rw [List.getElem?_set_ne hj] at h ⊢
    exact s.2 j e h
def rdG (G : Gw) (t : Tg) : TG := fun v σ H Q => ∃ (d : D) (ρ ρ' : Rho) (m : Mem) (μ τ : List Addr), Good G μ τ m H ∧ Slots G μ τ H ρ σ ∧ Rep G μ τ H d v ∧ tgD t d ρ = some ρ' ∧ ∀ σ', Slots G μ τ H ρ' σ' → (∀ i, i ∉ tgI t → σ'[i]? = σ[i]?) → Q σ' H
def rdGs (G : Gw) (ts : Tgs) : TGs := fun vs σ H Q => ∃ (ds : List D) (ρ ρ' : Rho) (m : Mem) (μ τ : List Addr), Good G μ τ m H ∧ Slots G μ τ H ρ σ ∧ Reps G μ τ H ds vs ∧ tgsD ts ds ρ = some ρ' ∧ ∀ σ', Slots G μ τ H ρ' σ' → (∀ i, i ∉ tgsI ts → σ'[i]? = σ[i]?) → Q σ' H
def EvG (X : Cx) (G : Gw) (tg : Expr) (t : Tg) : Prop := PG X tg (rdG G t)
def EvGs (X : Cx) (G : Gw) (tg : List Expr) (t : Tgs) : Prop := PGs X tg (rdGs G t)
theorem PG.imp {tg : Expr} {t t' : TG} (h : PG X tg t) (q : ∀ v σ H Q, t' v σ H Q → t v σ H Q) : PG X tg t' := ⟨fun pins s σ H v u Q I r z => h.run pins s σ H v u Q I r (q v σ H Q z)⟩
theorem PGs.imp {tg : List Expr} {t t' : TGs} (h : PGs X tg t) (q : ∀ v σ H Q, t' v σ H Q → t v σ H Q) : PGs X tg t' := ⟨fun pins s σ H v u Q I r z => h.run pins s σ H v u Q I r (q v σ H Q z)⟩
theorem evg_name {i : Nat} {x : Str} (hN : X.N.Nodup) (hi : X.N[i]? = some x) (hx : Loc X.env.scope x) (hf : X.fn x = true ∨ X.env.scope.names.lookup x = some .local) : EvG X G (.Name x pos) (.nm i) := by
  refine PG.imp (pg_name hN hi hx hf) fun v σ H Q ⟨d, ρ, ρ', m, μ, τ, g, s, r, e, q⟩ => ?_
  unfold tgD at e
  split at e
  · rename_i hl
    cases e
    refine q _ (s.set hl r) fun j hj => ?_
    rw [List.getElem?_set_ne (fun z => hj (by rw [z]; exact List.mem_singleton.mpr rfl))]
  · cases e
theorem evgs_nil : EvGs X G [] .nil := PGs.imp pgs_nil fun v σ H Q ⟨ds, ρ, ρ', m, μ, τ, g, s, r, e, q⟩ => by
  cases ds with
  | nil =>
    cases e
    exact ⟨r, q σ s fun _ _ => rfl⟩
  | cons d ds => unfold tgsD at e; cases e
theorem asg_cons {e : Expr} {es : List Expr} {env : Env} (h : noStar e = true) : assignEach (e :: es) env = (false, assign e env) :: assignEach es env := by
  cases e <;> first | rfl | exact nomatch h
theorem evgs_cons {e : Expr} {es : List Expr} {t : Tg} {ts : Tgs} (h1 : EvG X G e t) (h2 : EvGs X G es ts) (hs : noStar e = true) : EvGs X G (e :: es) (.cons t ts) := by
  refine PGs.imp (pgs_cons h1 h2 (by rw [asg_cons hs]; rfl)) fun vs σ H Q ⟨ds, ρ, ρ', m, μ, τ, g, s, r, e, q⟩ => ?_
  cases ds with
  | nil => unfold tgsD at e; cases e
  | cons d ds =>
    obtain ⟨v, rest, rfl, p, rs⟩ := r
    unfold tgsD at e
    split at e
    · rename_i ρ1 he
      refine ⟨v, rest, rfl, d, ρ, ρ1, m, μ, τ, g, s, p, he, fun σ1 s1 k1 => ?_⟩
      refine ⟨ds, ρ1, ρ', m, μ, τ, g, s1, rs, e, fun σ2 s2 k2 => q σ2 s2 fun i hi => ?_⟩
      have hi' : i ∉ tgI t ∧ i ∉ tgsI ts := by
        have hi2 : i ∉ tgI t ++ tgsI ts := hi
        rw [List.mem_append, not_or] at hi2; exact hi2
      rw [k2 i hi'.2, k1 i hi'.1]
    · cases e
def tgsN : Tgs → Nat
  | .nil => 0
  | .cons _ ts => tgsN ts + 1
theorem tgsD_len : ∀ (ts : Tgs) (ds : List D) (ρ ρ' : Rho), tgsD ts ds ρ = some ρ' → ds.length = tgsN ts
  | .nil, [], _, _, _ => rfl
  | .nil, _ :: _, _, _, h => by unfold tgsD at h; cases h
  | .cons t ts, [], _, _, h => by unfold tgsD at h; cases h
  | .cons t ts, d :: ds, ρ, ρ', h => by
    unfold tgsD at h
    split at h
    · rename_i ρ1 _
      show ds.length + 1 = tgsN ts + 1
      rw [tgsD_len ts ds ρ1 ρ' h]
    · cases h
theorem asg_len {env : Env} : ∀ {es : List Expr}, es.all noStar = true → (assignEach es env).length = es.length ∧ (assignEach es env).findIdx? (·.1) = none
  | [], _ => ⟨rfl, rfl⟩
  | e :: es, h => by
    rw [List.all_cons, Bool.and_eq_true] at h
    obtain ⟨h1, h2⟩ := asg_len (env := env) h.2
    rw [asg_cons h.1]
    refine ⟨by simp [h1], ?_⟩
    rw [List.findIdx?_cons]
    simp [h2]
theorem evg_tup (hK : G.K = X.K) (hc : X.calm = true) {es : List Expr} {ts : Tgs} {k : Nat} (h : EvGs X G es ts) (hs : es.all noStar = true) (hl : es.length = tgsN ts) : EvG X G (.Tuple es k pos) (.tp ts) := by
  refine PG.imp (pg_tup (n := es.length) hc h (asg_len hs).1 (asg_len hs).2) fun v σ H Q ⟨d, ρ, ρ', m, μ, τ, g, s, r, e, q⟩ => ?_
  unfold tgD at e
  split at e
  · rename_i xs
    obtain ⟨a, vs, rfl, p, rs⟩ := r
    refine ⟨a, vs, rfl, hK ▸ p, ?_, xs, ρ, ρ', m, μ, τ, g, s, rs, e, q⟩
    rw [rs.length, tgsD_len _ _ _ _ e, hl]
  · cases e

mutual
theorem tgD_len : ∀ {t : Tg} {d : D} {ρ ρ' : Rho}, tgD t d ρ = some ρ' → ρ'.length = ρ.length
  | .nm i, d, ρ, ρ', h => by
    unfold tgD at h
    split at h
    · cases h; rw [List.length_set]
    · cases h
  | .tp ts, d, ρ, ρ', h => by
    unfold tgD at h
    split at h
    · exact tgsD_lenR h
    · cases h
theorem tgsD_lenR : ∀ {ts : Tgs} {ds : List D} {ρ ρ' : Rho}, tgsD ts ds ρ = some ρ' → ρ'.length = ρ.length
  | .nil, [], ρ, ρ', h => by unfold tgsD at h; cases h; rfl
  | .nil, _ :: _, _, _, h => by unfold tgsD at h; cases h
  | .cons t ts, [], _, _, h => by unfold tgsD at h; cases h
  | .cons t ts, d :: ds, ρ, ρ', h => by
    unfold tgsD at h
    split at h
    · rename_i ρ1 h1
      rw [tgsD_lenR h, tgD_len h1]
    · cases h
end
/-! ### comprehensions -/
abbrev W0 : WX := fun _ _ _ _ => False
theorem calm_inv {α β : Type} {RP : List Addr → Hp → α → β → Prop} {r : R α} {Q : β → Hp → Prop} (h : Pst G W σ μ τ H RP (calmR r) Q) : ∀ W' σ', Pst G W' σ' μ τ H RP (calmR r) Q := by
  intro W' σ'
  cases r with
  | ok a m => exact h
  | _ => exact False.elim h
/-- what a calm part gives it gives without exceptions -/
theorem calm_out {α β : Type} {RP : List Addr → Hp → α → β → Prop} {r : R α} {Q : β → Hp → Prop} (h : Pst G W σ μ τ H RP (calmR r) Q) : ∀ W' σ', Pst G W' σ' μ τ H RP r Q := by
  intro W' σ'
  cases r with
  | ok a m => exact h
  | _ => exact False.elim h
theorem wipe_get {σ : L2.St} {i : Nat} : ∀ {vs : List Nat}, (L2.wipe σ vs)[i]? = if i ∈ vs then (if i < σ.length then some none else none) else σ[i]?
  | [] => by simp [L2.wipe]
  | v :: vs => by
    unfold L2.wipe
    by_cases hi : v = i
    · subst hi
      rw [if_pos List.mem_cons_self]
      by_cases hl : v < σ.length
      · rw [List.getElem?_set_self (by rw [wipe_length]; exact hl), if_pos hl]
      · rw [if_neg hl, List.getElem?_eq_none]
        rw [List.length_set, wipe_length]; omega
    · rw [List.getElem?_set_ne hi, wipe_get]
      by_cases h2 : i ∈ vs
      · rw [if_pos h2, if_pos (List.mem_cons_of_mem _ h2)]
      · rw [if_neg h2, if_neg]
        rw [List.mem_cons, not_or]
        exact ⟨fun z => hi z.symm, h2⟩
theorem wipe_eq {σ σ' : L2.St} {vs : List Nat} (hl : σ'.length = σ.length) (h : ∀ i, i ∉ vs → σ'[i]? = (L2.wipe σ vs)[i]?) : L2.wipe σ' vs = L2.wipe σ vs := by
  refine List.ext_getElem? fun i => ?_
  by_cases hi : i ∈ vs
  · rw [wipe_get, wipe_get, if_pos hi, if_pos hi, hl]
  · rw [wipe_get, if_neg hi]
    exact h i hi
theorem wipeR_len : ∀ {ρ : Rho} (vs : List Nat), (wipeR ρ vs).length = ρ.length
  | ρ, [] => rfl
  | ρ, v :: vs => by unfold wipeR; rw [List.length_set, wipeR_len vs]
theorem Slots.wipe (s : Slots G μ τ H ρ σ) : ∀ vs : List Nat, Slots G μ τ H (wipeR ρ vs) (L2.wipe σ vs)
  | [] => s
  | v :: vs => by
    have ih := Slots.wipe s vs
    unfold wipeR L2.wipe
    refine ⟨by rw [List.length_set, List.length_set]; exact ih.1, fun i d h => ?_⟩
    by_cases hi : v = i
    · subst hi
      by_cases hl : v < (wipeR ρ vs).length
      · rw [List.getElem?_set_self hl] at h; cases h
      · rw [List.getElem?_eq_none (by rw [List.length_set]; omega)] at h; cases h
    · rw [List.getElem?_set_ne hi] at h ⊢
      exact ih.2 i d h
theorem Slots.len (s : Slots G μ τ H ρ σ) : σ.length = ρ.length := s.1.symm
theorem Nxt.lay {p : Addr} (n : Nxt μ (p :: τ) H μ' (p :: τ) H') : Nxt μ (p :: τ) H μ' (p :: τ) H' := n
theorem Nxt.unres {p : Addr} {o : HO} (hp : H p = none) (n : Nxt μ (p :: τ) (upd H p o) μ' (p :: τ) H') : Nxt μ τ H μ' (p :: τ) H' := (Nxt.laid hp).trans n
/-- a comprehension's rule asks this -/
theorem lc_in {fi : Rho → Mem → R (List D × Option (Nat × List D))} {cd : Rho → Mem → R Bool} {el : Rho → Mem → R D} {t : Tg} {vs : List Nat} (hv : ∀ i ∈ tgI t, i ∈ vs) {σ : L2.St} {H : Hp} {Q : VK}
    (h : rdF G W (fun ρ m => (fi ρ m).bind fun xs m1 => if lim < xs.1.length then .bad else lcpL xs.2 (tgD t) (fun ρ' m => calmR (cd ρ' m)) (fun ρ' m => calmR (el ρ' m)) (wipeR ρ vs) xs.1 [] m1) σ H Q) :
    tLc (rdI G W fi) (rdG G t) (rdT G W0 cd) (rdE G W0 el) vs σ H Q := by
  obtain ⟨ρ, m, μ, τ, g, s, h⟩ := h
  refine ⟨ρ, m, μ, τ, g, s, (PstF.bind (RP := fun μ H p J => Walk G μ τ H p J) g h).imp fun J H1 ⟨xs, m1, μ1, n1, g1, wk, h1⟩ => fun Dd hD => ?_⟩
  obtain ⟨xs, qq⟩ := xs
  dsimp only at h1
  by_cases hlim : lim < xs.length
  · rw [if_pos hlim] at h1; exact False.elim h1
  rw [if_neg hlim] at h1
  refine ⟨fun i k H2 => k = xs.length - i ∧ i ≤ xs.length ∧ ∃ acc m2 μ2 ws, acc.length ≤ i ∧ Nxt μ1 τ H1 μ2 (Dd :: τ) H2 ∧ H2 Dd = some (.lst ws) ∧ Good G μ2 (Dd :: τ) m2 H2 ∧ Reps G μ2 (Dd :: τ) H2 acc ws ∧
    PstF G W σ μ1 τ H1 (lcpL qq (tgD t) (fun ρ' m => calmR (cd ρ' m)) (fun ρ' m => calmR (el ρ' m)) (wipeR ρ vs) (xs.drop i) acc m2) Q, ⟨xs.length, by simp, Nat.zero_le _, [], m1, μ1, [], Nat.le_refl _, Nxt.laid hD, upd_same, g1.laid hD, rfl, by rw [List.drop_zero]; exact h1⟩, ?_⟩
  rintro i k H2 ⟨rfl, hi, acc, m2, μ2, ws, hacc, n2, hw, g2, r2, h2⟩
  by_cases hlt : i < xs.length
  · rw [List.drop_eq_getElem_cons hlt] at h2
    unfold lcpL at h2
    by_cases ck : ckD qq m2 = true
    case neg => rw [if_neg ck] at h2; exact False.elim h2
    rw [if_pos ck] at h2
    cases htg : tgD t xs[i] (wipeR ρ vs) with
    | none => rw [htg] at h2; exact False.elim h2
    | some ρ' =>
      rw [htg] at h2
      dsimp only at h2
      have wk2 := (wk μ2 (Dd :: τ) H2 m2 n2 g2 ck).1 i xs[i] (by simp [hlt])
      refine .inr ⟨wk2.1, fun H3 => ∃ acc m3 μ3 ws, acc.length ≤ i + 1 ∧ Nxt μ1 τ H1 μ3 (Dd :: τ) H3 ∧ H3 Dd = some (.lst ws) ∧ Good G μ3 (Dd :: τ) m3 H3 ∧ Reps G μ3 (Dd :: τ) H3 acc ws ∧
        PstF G W σ μ1 τ H1 (lcpL qq (tgD t) (fun ρ' m => calmR (cd ρ' m)) (fun ρ' m => calmR (el ρ' m)) (wipeR ρ vs) (xs.drop (i + 1)) acc m3) Q, fun H' q' => ⟨xs.length - (i + 1), by omega, rfl, hlt, q'⟩, fun x H3 y => ?_⟩
      obtain ⟨n3, g3, r3⟩ := wk2.2 x H3 y
      have n13 := n2.trans n3
      have s3 : Slots G μ2 (Dd :: τ) H3 ρ σ := (s.nxt g n1).nxt g1 n13
      refine ⟨xs[i], wipeR ρ vs, ρ', m2, μ2, Dd :: τ, g3, s3.wipe vs, r3, htg, fun σ2 s4 k2 => ⟨wipe_eq ?_ fun j hj => k2 j fun z => hj (hv j z), ?_⟩⟩
      · have l1 := s4.len
        have l2 := s3.len
        have l3 : ρ'.length = (wipeR ρ vs).length := by
          have := s4.1
          exact tgD_len htg
        rw [l1, l3, wipeR_len, l2]
      · have nD : Dd ∉ μ2 := (g2.dis Dd List.mem_cons_self).1
        refine ⟨ρ', m2, μ2, Dd :: τ, g3, s4, ?_⟩
        cases hc : cd ρ' m2 with
        | bad => rw [hc] at h2; exact False.elim h2
        | ex x p m3 => rw [hc] at h2; exact False.elim h2
        | ok b m3 =>
          rw [hc] at h2
          have h2 : PstF G W σ μ1 τ H1 (if b then (calmR (el ρ' m3)).bind fun y m2 => lcpL qq (tgD t) (fun ρ' m => calmR (cd ρ' m)) (fun ρ' m => calmR (el ρ' m)) (wipeR ρ vs) (xs.drop (i + 1)) (acc ++ [y]) m2 else lcpL qq (tgD t) (fun ρ' m => calmR (cd ρ' m)) (fun ρ' m => calmR (el ρ' m)) (wipeR ρ vs) (xs.drop (i + 1)) acc m3) Q := h2
          intro b' H4 μ4 n4 g4 eb
          subst eb
          have w4 : H4 Dd = some (.lst ws) := (n3.trans n4).keep Dd _ hw nD (fun ps z => by cases z)
          cases b with
          | false =>
            rw [if_neg Bool.false_ne_true] at h2 ⊢
            exact ⟨acc, m3, μ4, ws, Nat.le_succ_of_le hacc, n13.trans n4, w4, g4, (r2.next n3 g2).next n4 g3, h2⟩
          | true =>
            rw [if_pos rfl] at h2 ⊢
            refine ⟨ρ', m3, μ4, Dd :: τ, g4, s4.nxt g3 n4, ?_⟩
            cases he : el ρ' m3 with
            | bad => rw [he] at h2; exact False.elim h2
            | ex x p m4 => rw [he] at h2; exact False.elim h2
            | ok y m4 =>
              rw [he] at h2
              intro v H5 μ5 n5 g5 r5
              have nD4 : Dd ∉ μ4 := (g4.dis Dd List.mem_cons_self).1
              have w5 : H5 Dd = some (.lst ws) := n5.keep Dd _ w4 nD4 (fun ps z => by cases z)
              have rs5 : Reps G μ5 (Dd :: τ) H5 acc ws := ((r2.next n3 g2).next n4 g3).next n5 g4
              have res : EV.Res H5 (Dd :: τ) Dd := ⟨List.mem_cons_self, .inl ⟨ws, w5⟩⟩
              refine ⟨ws, w5, ?_, acc ++ [y], m4, μ5, ws ++ [v], ?_, Nxt.rewrite List.mem_cons_self w5 (fun ps z => by cases z) ((n13.trans n4).trans n5) hD, upd_same, g5.rewr res, (rs5.append (.cons r5 .nil)).rewr res, h2⟩
              · rw [rs5.length, ← lim_eq]; omega
              · rw [List.length_append]; show acc.length + 1 ≤ i + 1; omega
  · have e : i = xs.length := by omega
    subst e
    rw [List.drop_length] at h2
    unfold lcpL at h2
    by_cases ck : ckD qq m2 = true
    case neg => rw [if_neg ck] at h2; exact False.elim h2
    rw [if_pos ck] at h2
    exact .inl ⟨(wk μ2 (Dd :: τ) H2 m2 n2 g2 ck).2 _ (Nat.le_refl _), h2 Dd ws H2 μ2 n2 hD g2 hw r2⟩
theorem ev_lc {elt tg iter : Expr} {ifs : List Expr} {scope : Scope} {own : List (Str × Nat)} {fi : Rho → Mem → R (List D × Option (Nat × List D))} {cd : Rho → Mem → R Bool} {el : Rho → Mem → R D} {t : Tg} (hc : X.calm = true) (hN : X.N.Nodup) (hi : EvI X G W tg iter fi) (ok : BlkOk X.N X.env.scope scope own) (hv : ∀ i ∈ tgI t, i ∈ own.map (·.2))
    (hg : ∀ (s : Shared) (H : Hp) (C : Addr) (cl : List (Str × Addr)) (fp : List Addr), EvG (X.blk s H scope (compEnvC scope cl C X.env) fp) G tg t) (ht : ∀ (s : Shared) (H : Hp) (C : Addr) (cl : List (Str × Addr)) (fp : List Addr), PTs (X.blk s H scope (compEnvC scope cl C X.env) fp) ifs (rdT G W0 cd))
    (he : ∀ (s : Shared) (H : Hp) (C : Addr) (cl : List (Str × Addr)) (fp : List Addr), EvE (X.blk s H scope (compEnvC scope cl C X.env) fp) G W0 elt el) (hs : ∀ x, foldedSetIterable iter X.env x = pure x) :
    EvF X G W (.ListComp elt [⟨tg, iter, ifs, 0⟩] scope pos) (fun ρ m => (fi ρ m).bind fun xs m1 => if lim < xs.1.length then .bad else lcpL xs.2 (tgD t) (fun ρ' m => calmR (cd ρ' m)) (fun ρ' m => calmR (el ρ' m)) (wipeR ρ (own.map (·.2))) xs.1 [] m1) :=
  PE.imp (pe_lc hc hN hi ok hg ht he hs) fun σ H Q h => lc_in hv h
end
end EV

/-! Statements. -/
namespace EV
open PySem PySem.Spec PyProof.Rows L2

def PstS (G : Gw) (W : WX) (μ τ : List Addr) (H : Hp) (o : O) (D : Ends) : Prop :=
  match o with
  | .nx ρ m => ∀ σ' H' μ', Nxt μ τ H μ' τ H' → Good G μ' τ m H' → Slots G μ' τ H' ρ σ' → D.nx σ' H'
  | .bk ρ m => ∀ σ' H' μ', Nxt μ τ H μ' τ H' → Good G μ' τ m H' → Slots G μ' τ H' ρ σ' → D.bk σ' H'
  | .ct ρ m => ∀ σ' H' μ', Nxt μ τ H μ' τ H' → Good G μ' τ m H' → Slots G μ' τ H' ρ σ' → D.ct σ' H'
  | .rt d m => ∀ v H' μ', Nxt μ τ H μ' τ H' → Good G μ' τ m H' → Rep G μ' τ H' d v → D.rt v H'
  | .ex x p ρ m => ∀ c dd σ' H' μ', Nxt μ τ H μ' τ H' → Good G μ' τ m H' → ExR G μ' τ H' x p c dd → Slots G μ' τ H' ρ σ' → W c dd σ' H'
  | .bad => False
def rdS (G : Gw) (W : WX) (f : Rho → Mem → O) : TS := fun D σ H => ∃ ρ m μ τ, Good G μ τ m H ∧ Slots G μ τ H ρ σ ∧ PstS G W μ τ H (f ρ m) D
def EvSt (X : Cx) (G : Gw) (W : WX) (st : Stmt) (f : Rho → Mem → O) : Prop := PS X st (rdS G W f)
def EvSs (X : Cx) (G : Gw) (W : WX) (st : List Stmt) (f : Rho → Mem → O) : Prop := PSs X st (rdS G W f)
theorem PS.imp {X : Cx} {e : Stmt} {t t' : TS} (h : PS X e t) (q : ∀ D σ H, t' D σ H → t D σ H) : PS X e t' := ⟨fun pins s σ H D I z => h.run pins s σ H D I (q D σ H z)⟩
theorem PSs.imp {X : Cx} {e : List Stmt} {t t' : TS} (h : PSs X e t) (q : ∀ D σ H, t' D σ H → t D σ H) : PSs X e t' := ⟨fun pins s σ H D I z => h.run pins s σ H D I (q D σ H z)⟩
section
variable {X : Cx} {G : Gw} {W : WX} {σ : L2.St} {μ τ μ' τ' : List Addr} {H H' : Hp} {m m' : Mem} {ρ ρ' : Rho} {a b c e : Expr} {fa fb fc f : Rho → Mem → R D} {pos : Pos} {D : Ends}
theorem PstS.nxt {o : O} (h : PstS G W μ τ H o D) (n : Nxt μ τ H μ' τ H') : PstS G W μ' τ H' o D := by
  cases o with
  | nx ρ m => exact fun σ' H2 μ2 n2 => h σ' H2 μ2 (n.trans n2)
  | bk ρ m => exact fun σ' H2 μ2 n2 => h σ' H2 μ2 (n.trans n2)
  | ct ρ m => exact fun σ' H2 μ2 n2 => h σ' H2 μ2 (n.trans n2)
  | rt d m => exact fun σ' H2 μ2 n2 => h σ' H2 μ2 (n.trans n2)
  | ex x p ρ m => exact fun c dd σ' H2 μ2 n2 => h c dd σ' H2 μ2 (n.trans n2)
  | bad => exact h
/-- a part, then the rest -/
theorem go_inv {α β : Type} {RP : List Addr → Hp → α → β → Prop} {r : R α} {k : α → Mem → O} (g : Good G μ τ m H) (s : Slots G μ τ H ρ σ) (h : PstS G W μ τ H (r.go ρ k) D) :
    Pst G W σ μ τ H RP r fun b H1 => ∃ a m1 μ1, Nxt μ τ H μ1 τ H1 ∧ Good G μ1 τ m1 H1 ∧ RP μ1 H1 a b ∧ PstS G W μ1 τ H1 (k a m1) D := by
  cases r with
  | bad => exact h
  | ex x p m1 => exact fun c dd H' μ' n g' r' => h c dd σ H' μ' n g' r' (s.nxt g n)
  | ok a m1 => exact fun v H1 μ1 n g1 r1 => ⟨a, m1, μ1, n, g1, r1, PstS.nxt h n⟩
theorem test_inv {r : R EV.D} {k : Bool → Mem → O} (g : Good G μ τ m H) (s : Slots G μ τ H ρ σ) (h : PstS G W μ τ H (O.test r ρ k) D) :
    Pst G W σ μ τ H REq (tst r) fun b H1 => ∃ m1 μ1, Nxt μ τ H μ1 τ H1 ∧ Good G μ1 τ m1 H1 ∧ PstS G W μ1 τ H1 (k b m1) D :=
  (go_inv (RP := REq) g s h).imp fun b H1 ⟨a, m1, μ1, n, g1, r, h1⟩ => by cases r; exact ⟨m1, μ1, n, g1, h1⟩
theorem then_inv {o : O} {k : Rho → Mem → O} (h : PstS G W μ τ H (o.then k) D) : PstS G W μ τ H o { D with nx := rdS G W k D } := by
  cases o with
  | nx ρ m => exact fun σ' H' μ' n g s => ⟨ρ, m, μ', τ, g, s, PstS.nxt h n⟩
  | _ => exact h
theorem turn_inv {o : O} {k : Rho → Mem → O} (h : PstS G W μ τ H (o.turn k) D) {N : L2.St → Hp → Prop} (hN : ∀ ρ m σ' H' μ', Nxt μ τ H μ' τ H' → Good G μ' τ m H' → Slots G μ' τ H' ρ σ' → PstS G W μ' τ H' (k ρ m) D → N σ' H') : PstS G W μ τ H o { D with nx := N, ct := N, bk := D.nx } := by
  cases o with
  | nx ρ m => exact fun σ' H' μ' n g s => hN ρ m σ' H' μ' n g s (PstS.nxt h n)
  | ct ρ m => exact fun σ' H' μ' n g s => hN ρ m σ' H' μ' n g s (PstS.nxt h n)
  | bk ρ m => exact h
  | rt d m => exact h
  | ex x p ρ m => exact h
  | bad => exact h
theorem ofR_inv {o : Option Rho} (h : PstS G W μ τ H (O.ofR o m) D) : ∃ ρ', o = some ρ' ∧ ∀ σ' H' μ', Nxt μ τ H μ' τ H' → Good G μ' τ m H' → Slots G μ' τ H' ρ' σ' → D.nx σ' H' := by
  cases o with
  | none => exact False.elim h
  | some ρ' => exact ⟨ρ', rfl, h⟩
theorem ofM_inv {o : Option Mem} {k : Mem → O} (h : PstS G W μ τ H (O.ofM o k) D) : ∃ m', o = some m' ∧ PstS G W μ τ H (k m') D := by
  cases o with
  | none => exact False.elim h
  | some m' => exact ⟨m', rfl, h⟩

/-! ### the statements -/
theorem sts_nil : EvSs X G W [] (fun ρ m => .nx ρ m) := PSs.imp pss_nil fun D σ H ⟨ρ, m, μ, τ, g, s, h⟩ => h σ H μ .refl g s
theorem sts_cons {st : Stmt} {rest : List Stmt} {f k : Rho → Mem → O} (h1 : EvSt X G W st f) (h2 : EvSs X G W rest k) : EvSs X G W (st :: rest) (fun ρ m => (f ρ m).then k) :=
  PSs.imp (pss_cons h1 h2) fun D σ H ⟨ρ, m, μ, τ, g, s, h⟩ => ⟨ρ, m, μ, τ, g, s, then_inv h⟩
/-- into a target, of what may be a new list -/
theorem asg_inv {t : Tg} {D : Ends} {σ : L2.St} {H : Hp} (h : rdS G W (fun ρ m => (fa ρ m).go ρ fun d m1 => O.ofR (tgD t d ρ) m1) D σ H) : tAsg (rdE G W fa) (rdG G t) D σ H := by
  obtain ⟨ρ, m, μ, τ, g, s, h⟩ := h
  refine ⟨ρ, m, μ, τ, g, s, (go_inv (RP := RD G τ) g s h).imp fun x H1 ⟨d, m1, μ1, n1, g1, r1, h1⟩ => ?_⟩
  obtain ⟨ρ', e, q⟩ := ofR_inv h1
  exact ⟨d, ρ, ρ', m1, μ1, τ, g1, s.nxt g n1, r1, e, fun σ' s' _ => q σ' H1 μ1 .refl g1 s'⟩
def noSw : Expr → Bool
  | .ListComp _ _ _ _ => false
  | .SetComp _ _ _ _ => false
  | .DictComp _ _ _ _ _ => false
  | _ => true
theorem sw_no {e : Expr} {t : Option Expr} {l : Nat} {env : Env} (h : noSw e = true) : swapsWith e t l env = pure false := by
  cases e <;> first | rfl | exact nomatch h
theorem st_asg {x : Str} {px : Pos} {i : Nat} (hN : X.N.Nodup) (hi : X.N[i]? = some x) (hx : Loc X.env.scope x) (hf : X.fn x = true ∨ X.env.scope.names.lookup x = some .local) (he : EvE X G W e fa) (hs : swapsWith e (some (.Name x px)) pos.line X.env = pure false) :
    EvSt X G W (.Assign [.Name x px] e pos) (fun ρ m => (fa ρ m).go ρ fun d m1 => O.ofR (tgD (.nm i) d ρ) m1) := by
  refine PS.imp (ps_set hN hi hx he hs hf) fun D σ H h => ?_
  obtain ⟨ρ, m, μ, τ, g, s, h⟩ := h
  refine ⟨ρ, m, μ, τ, g, s, (go_inv (RP := RD G τ) g s h).imp fun x H1 ⟨d, m1, μ1, n1, g1, r1, h1⟩ => ?_⟩
  obtain ⟨ρ', e, q⟩ := ofR_inv h1
  unfold tgD at e
  split at e
  · rename_i hl
    cases e
    exact q _ H1 μ1 .refl g1 ((s.nxt g n1).set hl r1)
  · cases e
/-- name = [..] on one line -/
theorem st_asgLc {x : Str} {px : Pos} {i : Nat} {te : TE} (hps : PS X (.Assign [.Name x px] e pos) (tAsg te (gName i))) (ht : ∀ σ H Q, rdE G W fa σ H Q → te σ H Q) :
    EvSt X G W (.Assign [.Name x px] e pos) (fun ρ m => (fa ρ m).go ρ fun d m1 => O.ofR (tgD (.nm i) d ρ) m1) := by
  refine PS.imp hps fun D σ H h => ht σ H _ ?_
  obtain ⟨ρ, m, μ, τ, g, s, h⟩ := h
  refine ⟨ρ, m, μ, τ, g, s, (go_inv (RP := RD G τ) g s h).imp fun x H1 ⟨d, m1, μ1, n1, g1, r1, h1⟩ => ?_⟩
  obtain ⟨ρ', e, q⟩ := ofR_inv h1
  unfold tgD at e
  split at e
  · rename_i hl
    cases e
    exact q _ H1 μ1 .refl g1 ((s.nxt g n1).set hl r1)
  · cases e
theorem st_asgT {tg : Expr} {t : Tg} (hg : EvG X G tg t) (he : EvE X G W e fa) (hs : noSw e = true) (hw : swappedStores [tg] e X.env = pure none) (h1 : noStar tg = true) :
    EvSt X G W (.Assign [tg] e pos) (fun ρ m => (fa ρ m).go ρ fun d m1 => O.ofR (tgD t d ρ) m1) :=
  PS.imp (ps_asg he hg (sw_no hs) hw (by rw [asg_cons h1]; rfl)) fun D σ H h => asg_inv h
theorem setAll2 {i j : Nat} {d e : EV.D} {ρ ρ' : Rho} (h : setAll [i, j] [d, e] ρ = some ρ') : i < ρ.length ∧ j < ρ.length ∧ ρ' = (ρ.set i (some d)).set j (some e) := by
  unfold setAll at h
  split at h
  · rename_i h1
    unfold setAll at h
    split at h
    · rename_i h2
      cases h
      rw [List.length_set] at h2
      exact ⟨h1, h2, rfl⟩
    · cases h
  · cases h
theorem st_par2 {i j : Nat} {x y : Str} {px py pt : Pos} {kt k2 : Nat} {pt2 : Pos} {fs : Rho → Mem → R (List EV.D)} (hc : X.calm = true) (hN : X.N.Nodup) (hi : X.N[i]? = some x) (hj : X.N[j]? = some y) (hij : i ≠ j) (hx : X.env.scope.names.lookup x = some .local) (hy : X.env.scope.names.lookup y = some .local)
    (ha : EvA X G W [a, b] fs) (hw : swappedStores [.Tuple [.Name x px, .Name y py] kt pt] (.Tuple [a, b] k2 pt2) X.env = pure (some [x, y])) :
    EvSt X G W (.Assign [.Tuple [.Name x px, .Name y py] kt pt] (.Tuple [a, b] k2 pt2) pos) (fun ρ m => (fs ρ m).go ρ fun ds m1 => O.ofR (setAll [i, j] ds ρ) m1) := by
  refine PS.imp (ps_par hc hN hi hj hij hx hy ha hw rfl) fun D σ H h => ?_
  obtain ⟨ρ, m, μ, τ, g, s, h⟩ := h
  refine ⟨ρ, m, μ, τ, g, s, (go_inv (RP := RL G τ) g s h).imp fun xs H1 ⟨ds, m1, μ1, n1, g1, r1, h1⟩ => ?_⟩
  obtain ⟨ρ', e, q⟩ := ofR_inv h1
  match ds, r1, e with
  | [], r1, e => unfold setAll at e; cases e
  | [d], r1, e =>
    unfold setAll at e
    split at e
    · unfold setAll at e; cases e
    · cases e
  | [d, e'], r1, e =>
    obtain ⟨v, w, rfl, r2, r3⟩ := two_inv rfl r1
    obtain ⟨h1, h2, rfl⟩ := setAll2 e
    exact ⟨v, w, rfl, q _ H1 μ1 .refl g1 (((s.nxt g n1).set h1 r2).set (by rw [List.length_set]; exact h2) r3)⟩
  | d :: e' :: f :: r, r1, e =>
    unfold setAll at e
    split at e
    · unfold setAll at e
      split at e
      · unfold setAll at e; cases e
      · cases e
    · cases e
theorem st_par3 {i j l : Nat} {x y z : Str} {px py pz pt : Pos} {kt k2 : Nat} {pt2 : Pos} {fs : Rho → Mem → R (List EV.D)} (hc : X.calm = true) (hN : X.N.Nodup) (hi : X.N[i]? = some x) (hj : X.N[j]? = some y) (hl : X.N[l]? = some z) (hij : i ≠ j) (hil : i ≠ l) (hjl : j ≠ l) (hx : X.env.scope.names.lookup x = some .local) (hy : X.env.scope.names.lookup y = some .local) (hz : X.env.scope.names.lookup z = some .local)
    (ha : EvA X G W [a, b, c] fs) (hw : swappedStores [.Tuple [.Name x px, .Name y py, .Name z pz] kt pt] (.Tuple [a, b, c] k2 pt2) X.env = pure (some [x, y, z])) :
    EvSt X G W (.Assign [.Tuple [.Name x px, .Name y py, .Name z pz] kt pt] (.Tuple [a, b, c] k2 pt2) pos) (fun ρ m => (fs ρ m).go ρ fun ds m1 => O.ofR (setAll [i, j, l] ds ρ) m1) := by
  refine PS.imp (ps_par3 hc hN hi hj hl hij hil hjl hx hy hz ha hw rfl) fun D σ H h => ?_
  obtain ⟨ρ, m, μ, τ, g, s, h⟩ := h
  refine ⟨ρ, m, μ, τ, g, s, (go_inv (RP := RL G τ) g s h).imp fun xs H1 ⟨ds, m1, μ1, n1, g1, r1, h1⟩ => ?_⟩
  obtain ⟨ρ', e, q⟩ := ofR_inv h1
  cases ds with
  | nil => unfold setAll at e; cases e
  | cons d ds =>
    unfold setAll at e
    split at e
    case isFalse => cases e
    rename_i hh1
    cases ds with
    | nil => unfold setAll at e; cases e
    | cons d2 ds =>
      obtain ⟨v, r', rfl, p1, r1⟩ := r1
      obtain ⟨w, r', rfl, p2, r1⟩ := r1
      unfold setAll at e
      split at e
      case isFalse => cases e
      rename_i hh2
      cases ds with
      | nil => unfold setAll at e; cases e
      | cons d3 ds =>
        obtain ⟨u, r', rfl, p3, r1⟩ := r1
        unfold setAll at e
        split at e
        case isFalse => cases e
        rename_i hh3
        cases ds with
        | cons _ _ => unfold setAll at e; cases e
        | nil =>
          cases (show r' = [] from r1)
          unfold setAll at e
          cases e
          exact ⟨v, w, u, rfl, q _ H1 μ1 .refl g1 ((((s.nxt g n1).set hh1 p1).set hh2 p2).set hh3 p3)⟩
theorem st_seti {p : Pos} (hu : X.A.units + 1 < cLine) (he : EvE X G W e fc) (ha : EvE X G W a fa) (hb : EvE X G W b fb) (hs : noSw e = true) (hsl : ∀ v, assign (.Subscript a b p) X.env v = (do
      let ov ← holding [v] (eval a X.env)
      let iv ← holding [v, ov] (eval b X.env)
      standAt p
      holding [v, ov, iv] (setItem ov iv v)
      release [v, ov, iv] [])) :
    EvSt X G W (.Assign [.Subscript a b p] e pos) (fun ρ m => (fc ρ m).go ρ fun y m1 => (fa ρ m1).go ρ fun d m2 => (fb ρ m2).go ρ fun j m3 => O.ofM (setD d j y m3) fun m4 => .nx ρ m4) := by
  have hsw : swapsWithSole [.Subscript a b p] e pos.line X.env = pure false := by cases e <;> first | rfl | exact nomatch hs
  have hst : swappedStores [.Subscript a b p] e X.env = pure none := rfl
  refine PS.imp (ps_asg he (pg_sub ha hb (set_G (G := G) hu) hsl) hsw hst rfl) fun D σ H h => ?_
  obtain ⟨ρ, m, μ, τ, g, s, h⟩ := h
  refine ⟨ρ, m, μ, τ, g, s, (go_inv (RP := RD G τ) g s h).imp fun x H1 ⟨y, m1, μ1, n1, g1, r1, h1⟩ => ?_⟩
  have s1 := s.nxt g n1
  refine ⟨ρ, m1, μ1, τ, g1, s1, (go_inv (RP := RD G τ) g1 s1 h1).imp fun o H2 ⟨d, m2, μ2, n2, g2, r2, h2⟩ => ?_⟩
  have s2 := s1.nxt g1 n2
  refine ⟨ρ, m2, μ2, τ, g2, s2, (go_inv (RP := RD G τ) g2 s2 h2).imp fun i H3 ⟨j, m3, μ3, n3, g3, r3, h3⟩ => ?_⟩
  obtain ⟨m4, e4, h4⟩ := ofM_inv h3
  exact ⟨d, j, y, m3, μ3, τ, g3, r2.next n3 g2, r3, (r1.next n2 g1).next n3 g2, m4, e4, fun H' n' g' => h4 σ H' μ3 n' g' ((s2.nxt g2 n3).nxt g3 n')⟩
theorem st_expr (he : EvE X G W e fa) (hs : noSw e = true) : EvSt X G W (.Expr e pos) (fun ρ m => (fa ρ m).go ρ fun _ m1 => .nx ρ m1) := by
  refine PS.imp (ps_expr he (sw_no hs)) fun D σ H ⟨ρ, m, μ, τ, g, s, h⟩ => ?_
  refine ⟨ρ, m, μ, τ, g, s, (go_inv (RP := RD G τ) g s h).imp fun x H1 ⟨y, m1, μ1, n1, g1, r1, h1⟩ => ?_⟩
  exact h1 σ H1 μ1 .refl g1 (s.nxt g n1)
theorem st_ret (he : EvE X G W e fa) : EvSt X G W (.Return (some e) pos) (fun ρ m => (fa ρ m).go ρ fun d m1 => .rt d m1) := by
  refine PS.imp (ps_ret he) fun D σ H ⟨ρ, m, μ, τ, g, s, h⟩ => ?_
  refine ⟨ρ, m, μ, τ, g, s, (go_inv (RP := RD G τ) g s h).imp fun x H1 ⟨y, m1, μ1, n1, g1, r1, h1⟩ => ?_⟩
  exact h1 x H1 μ1 .refl g1 r1
theorem st_retn : EvSt X G W (.Return none pos) (fun _ m => .rt .non m) :=
  PS.imp ps_retN fun D σ H ⟨ρ, m, μ, τ, g, s, h⟩ => h .non H μ .refl g rfl
theorem st_if {p q : List Stmt} {f k : Rho → Mem → O} (hc : EvT X G W c fc) (ha : EvSs X G W p f) (hb : EvSs X G W q k) : EvSt X G W (.If c p q pos) (fun ρ m => O.test (fc ρ m) ρ fun b m1 => if b then f ρ m1 else k ρ m1) := by
  refine PS.imp (ps_if hc ha hb) fun D σ H ⟨ρ, m, μ, τ, g, s, h⟩ => ?_
  refine ⟨ρ, m, μ, τ, g, s, (test_inv g s h).imp fun b H1 ⟨m1, μ1, n1, g1, h1⟩ => ?_⟩
  cases b with
  | true => exact ⟨ρ, m1, μ1, τ, g1, s.nxt g n1, h1⟩
  | false => exact ⟨ρ, m1, μ1, τ, g1, s.nxt g n1, h1⟩
theorem st_brk : EvSt X G W (.Break pos) (fun ρ m => .bk ρ m) := PS.imp ps_break fun D σ H ⟨ρ, m, μ, τ, g, s, h⟩ => h σ H μ .refl g s
theorem st_cnt : EvSt X G W (.Continue pos) (fun ρ m => .ct ρ m) := PS.imp ps_continue fun D σ H ⟨ρ, m, μ, τ, g, s, h⟩ => h σ H μ .refl g s
theorem st_pas : EvSt X G W (.Pass pos) (fun ρ m => .nx ρ m) := PS.imp ps_pass fun D σ H ⟨ρ, m, μ, τ, g, s, h⟩ => h σ H μ .refl g s
theorem st_for {tg iter : Expr} {body : List Stmt} {t : Tg} {fi : Rho → Mem → R (List EV.D × Option (Nat × List EV.D))} {fb : Rho → Mem → O} (hp : PassesOwn (model X.prog X.w) X.A X.env X.xe) (hc : X.calm = true) (hi : EvI X G W tg iter fi) (hg : EvG X G tg t) (hb : EvSs X G W body fb) (hs : ∀ x, foldedSetIterable iter X.env x = pure x) :
    EvSt X G W (.For tg iter body [] pos) (fun ρ m => (fi ρ m).go ρ fun xs m1 => forL xs.2 (tgD t) fb xs.1 ρ m1) := by
  refine PS.imp (ps_for hp hc hi hg hb hs) fun D σ H ⟨ρ, m, μ, τ, g, s, h⟩ => ?_
  refine ⟨ρ, m, μ, τ, g, s, (go_inv (RP := fun μ H p J => Walk G μ τ H p J) g s h).imp fun J H1 ⟨xs, m1, μ1, n1, g1, wk, h1⟩ => ?_⟩
  obtain ⟨xs, qq⟩ := xs
  dsimp only at h1
  refine ⟨fun i k σ2 H2 => k = xs.length - i ∧ i ≤ xs.length ∧ ∃ ρ2 m2 μ2, Nxt μ1 τ H1 μ2 τ H2 ∧ Good G μ2 τ m2 H2 ∧ Slots G μ2 τ H2 ρ2 σ2 ∧ PstS G W μ2 τ H2 (forL qq (tgD t) fb (xs.drop i) ρ2 m2) D,
    ⟨xs.length, by simp, Nat.zero_le _, ρ, m1, μ1, .refl, g1, s.nxt g n1, by rw [List.drop_zero]; exact h1⟩, ?_⟩
  rintro i k σ2 H2 ⟨rfl, hi, ρ2, m2, μ2, n2, g2, s2, h2⟩
  by_cases hlt : i < xs.length
  · rw [List.drop_eq_getElem_cons hlt] at h2
    unfold forL at h2
    by_cases ck : ckD qq m2 = true
    case neg => rw [if_neg ck] at h2; exact False.elim h2
    rw [if_pos ck] at h2
    have wk2 := (wk μ2 τ H2 m2 n2 g2 ck).1 i xs[i] (by simp [hlt])
    refine .inr ⟨wk2.1, fun σ' H' => ∃ ρ3 m3 μ3, Nxt μ1 τ H1 μ3 τ H' ∧ Good G μ3 τ m3 H' ∧ Slots G μ3 τ H' ρ3 σ' ∧ PstS G W μ3 τ H' (forL qq (tgD t) fb (xs.drop (i + 1)) ρ3 m3) D, fun σ' H' q' => ⟨xs.length - (i + 1), by omega, rfl, hlt, q'⟩, fun x H3 y => ?_⟩
    obtain ⟨n3, g3, r3⟩ := wk2.2 x H3 y
    cases htg : tgD t xs[i] ρ2 with
    | none => rw [htg] at h2; exact False.elim h2
    | some ρ' =>
      rw [htg] at h2
      refine ⟨xs[i], ρ2, ρ', m2, μ2, τ, g3, s2.nxt g2 n3, r3, htg, fun σ4 s4 _ => ⟨ρ', m2, μ2, τ, g3, s4, ?_⟩⟩
      exact turn_inv (PstS.nxt h2 n3) fun ρ5 m5 σ5 H5 μ5 n5 g5 s5 h5 => ⟨ρ5, m5, μ5, (n2.trans n3).trans n5, g5, s5, h5⟩
  · have e : i = xs.length := by omega
    subst e
    rw [List.drop_length] at h2
    unfold forL at h2
    by_cases ck : ckD qq m2 = true
    case neg => rw [if_neg ck] at h2; exact False.elim h2
    rw [if_pos ck] at h2
    exact .inl ⟨(wk μ2 τ H2 m2 n2 g2 ck).2 _ (Nat.le_refl _), h2 σ2 H2 μ2 .refl g2 s2⟩
theorem st_whl {body : List Stmt} {fb : Rho → Mem → O} (w : Nat) (hp : PassesOwn (model X.prog X.w) X.A X.env X.xe) (hc : EvT X G W c fc) (hb : EvSs X G W body fb) : EvSt X G W (.While c body [] pos) (fun ρ m => whlL fc fb w ρ m) := by
  refine PS.imp (ps_while hp hc hb) fun D σ H ⟨ρ, m, μ, τ, g, s, h⟩ => ?_
  refine ⟨fun k σ2 H2 => ∃ ρ2 m2 μ2, Nxt μ τ H μ2 τ H2 ∧ Good G μ2 τ m2 H2 ∧ Slots G μ2 τ H2 ρ2 σ2 ∧ PstS G W μ2 τ H2 (whlL fc fb k ρ2 m2) D, ⟨w, ρ, m, μ, .refl, g, s, h⟩, ?_⟩
  rintro k σ2 H2 ⟨ρ2, m2, μ2, n2, g2, s2, h2⟩
  cases k with
  | zero => exact False.elim h2
  | succ k =>
    refine ⟨ρ2, m2, μ2, τ, g2, s2, (test_inv g2 s2 h2).imp fun b H3 ⟨m3, μ3, n3, g3, h3⟩ => ?_⟩
    cases b with
    | false =>
      rw [if_neg Bool.false_ne_true] at h3 ⊢
      exact h3 σ2 H3 μ3 .refl g3 (s2.nxt g2 n3)
    | true =>
      rw [if_pos rfl] at h3 ⊢
      refine ⟨fun σ' H' => ∃ ρ4 m4 μ4, Nxt μ τ H μ4 τ H' ∧ Good G μ4 τ m4 H' ∧ Slots G μ4 τ H' ρ4 σ' ∧ PstS G W μ4 τ H' (whlL fc fb k ρ4 m4) D, fun σ' H' q => ⟨k, Nat.lt_succ_self _, q⟩, ρ2, m3, μ3, τ, g3, s2.nxt g2 n3, ?_⟩
      exact turn_inv h3 fun ρ5 m5 σ5 H5 μ5 n5 g5 s5 h5 => ⟨ρ5, m5, μ5, (n2.trans n3).trans n5, g5, s5, h5⟩
end
end EV

/-! Dict displays, sorted. -/
namespace EV
open PySem PySem.Spec PyProof.Rows L2
section
variable {X : Cx} {G : Gw} {W : WX} {σ : L2.St} {μ τ μ' τ' : List Addr} {H H' : Hp} {m m' : Mem} {ρ ρ' : Rho} {a b c e : Expr} {fa fb fc f : Rho → Mem → R D} {pos : Pos}
abbrev RKV (G : Gw) (τ : List Addr) : List Addr → Hp → List D × List D → List (V × V) → Prop := fun μ H p ps => Reps G μ τ H p.1 (ps.map (·.1)) ∧ Reps G μ τ H p.2 (ps.map (·.2))
def rdKV (G : Gw) (W : WX) (f : Rho → Mem → R (List D × List D)) (σ : L2.St) (H : Hp) (Q : List (V × V) → Hp → Prop) : Prop := ∃ ρ m μ τ, Good G μ τ m H ∧ Slots G μ τ H ρ σ ∧ Pst G W σ μ τ H (RKV G τ) (f ρ m) Q
def EvKV (X : Cx) (G : Gw) (W : WX) (keys : List (Option Expr)) (values : List Expr) (f : Rho → Mem → R (List D × List D)) : Prop := ∀ pos, ∃ trs, PPs X pos keys values trs ∧ ∀ σ H Q, rdKV G W f σ H Q → tPairs trs σ H Q
theorem kv_nil : EvKV X G W [] [] (fun _ m => .ok ([], []) m) := fun pos => ⟨[], pps_nil, fun σ H Q ⟨ρ, m, μ, τ, g, s, h⟩ => Pst.here (b := []) h g ⟨rfl, rfl⟩⟩
theorem kv_cons {k v : Expr} {ks : List (Option Expr)} {vs : List Expr} {fk fv : Rho → Mem → R D} {fr : Rho → Mem → R (List D × List D)} (hk : EvE X G W k fk) (hv : EvE X G W v fv) (hr : EvKV X G W ks vs fr) :
    EvKV X G W (some k :: ks) (v :: vs) (fun ρ m => (fk ρ m).bind fun d m1 => (fv ρ m1).bind fun e m2 => (fr ρ m2).bind fun p m3 => .ok (d :: p.1, e :: p.2) m3) := fun pos => by
  obtain ⟨trs, h1, h2⟩ := hr pos
  refine ⟨_, pps_cons hk hv h1, fun σ H Q ⟨ρ, m, μ, τ, g, s, h⟩ => ?_⟩
  refine ⟨ρ, m, μ, τ, g, s, (Pst.bind (RP := RD G τ) h).imp fun x H1 ⟨d, m1, μ1, n1, g1, r1, h1⟩ => ?_⟩
  have s1 := s.nxt g n1
  refine ⟨ρ, m1, μ1, τ, g1, s1, (Pst.bind (RP := RD G τ) h1).imp fun y H2 ⟨e, m2, μ2, n2, g2, r2, h2'⟩ => ?_⟩
  refine h2 σ H2 _ ⟨ρ, m2, μ2, τ, g2, s1.nxt g1 n2, (Pst.bind (RP := RKV G τ) h2').imp fun ps H3 ⟨p, m3, μ3, n3, g3, r3, h3⟩ => ?_⟩
  exact Pst.here (b := (x, y) :: ps) h3 g3 ⟨.cons ((r1.next n2 g1).next n3 g2) r3.1, .cons (r2.next n3 g2) r3.2⟩
theorem dsp_inv : ∀ (ks vs : List D) (qs : List Key) (xs : List D) (ps : List (V × V)) (ws : List V) (d : D), dspD ks vs qs xs = some d → Reps G μ τ H ks (ps.map (·.1)) → Reps G μ τ H vs (ps.map (·.2)) → qs.length = ws.length → Reps G μ τ H xs ws →
    ∃ qs' xs' ws' kvs, d = .dic qs' xs' ∧ ps = kvs.map (fun kv => (kV kv.1, kv.2)) ∧ kvs.length = ks.length ∧ mergeK (qs.zip ws) kvs = qs'.zip ws' ∧ qs'.length = ws'.length ∧ Reps G μ τ H xs' ws'
  | [], [], qs, xs, ps, ws, d, h, r1, r2, l, rx => by
    unfold dspD at h
    cases h
    have : ps = [] := List.map_eq_nil_iff.mp r1
    subst this
    exact ⟨qs, xs, ws, [], rfl, rfl, rfl, rfl, l, rx⟩
  | [], _ :: _, _, _, _, _, _, h, _, _, _, _ => by unfold dspD at h; cases h
  | _ :: _, [], _, _, _, _, _, h, _, _, _, _ => by unfold dspD at h; cases h
  | k :: ks, v :: vs, qs, xs, ps, ws, d, h, r1, r2, l, rx => by
    unfold dspD at h
    split at h
    · rename_i q hq
      obtain ⟨x, rx1, e1, p1, r1⟩ := r1
      obtain ⟨y, ry1, e2, p2, r2⟩ := r2
      cases ps with
      | nil => cases e1
      | cons pr ps =>
        rw [List.map_cons] at e1 e2
        cases e1; cases e2
        obtain ⟨qs', xs', ws', kvs, f1, f2, f3, f4, f5, f6⟩ := dsp_inv ks vs (dputK qs q) (dputX qs xs q v) ps (dputX qs ws q pr.2) d h r1 r2 (dputX_len q _ l) (Reps.dput p2 rx)
        refine ⟨qs', xs', ws', (q, pr.2) :: kvs, f1, ?_, by rw [List.length_cons, f3]; rfl, ?_, f5, f6⟩
        · rw [List.map_cons, f2, ← key_V p1 hq]
        · rw [← f4, ← putK_zip (α := V) q pr.2 qs ws l]; rfl
    · cases h
theorem dsp_len : ∀ (ks vs : List D) (qs : List Key) (xs : List D) (d : D), dspD ks vs qs xs = some d → True := fun _ _ _ _ _ _ => trivial
theorem ev_dsp0 : EvF X G W (.Dict [] [] pos) (fun _ m => .ok (.dic [] []) m) := by
  refine PE.imp pe_dnewK fun σ H Q ⟨ρ, m, μ, τ, g, s, h⟩ => fun p hp => ?_
  exact h p [] _ μ (Nxt.laid hp) hp (g.laid hp) upd_same rfl rfl
theorem ev_dsp {keys : List (Option Expr)} {values : List Expr} {fs : Rho → Mem → R (List D × List D)} (hs : EvKV X G W0 keys values fs) (hall : keys.all (·.isSome) = true) (hl : keys.length = values.length) (h0 : keys ≠ []) (h15 : keys.length ≤ 15)
    (hlen : ∀ ρ m p m', fs ρ m = .ok p m' → p.1.length ≤ 15) : EvF X G W (.Dict keys values pos) (fun ρ m => (calmR (fs ρ m)).bind fun p m1 => R.of (dspD p.1 p.2 [] []) m1) := by
  obtain ⟨trs, h1, h2⟩ := hs pos
  -- exceptions do not come
  refine PE.imp (pe_disp (trs := trs) ⟨fun pins s σ H Q I h => ?_⟩ hall hl h0 h15) ?_
  · exact h1.run pins s σ H Q I h
  · intro σ H Q ⟨ρ, m, μ, τ, g, s, h⟩ p hp
    have nl : Nxt μ τ H μ (p :: τ) (upd H p (.dK [])) := Nxt.laid hp
    have g0 := g.laid (o := .dK []) hp
    refine h2 σ _ _ ⟨ρ, m, μ, p :: τ, g0, s.nxt g nl, ?_⟩
    have hle := hlen ρ m
    dsimp only at h
    cases hr : fs ρ m with
    | bad => rw [hr] at h; exact False.elim h
    | ex x pp m1 => rw [hr] at h; exact False.elim h
    | ok pr m1 =>
      rw [hr] at h
      have h : PstF G W σ μ τ H (R.of (dspD pr.1 pr.2 [] []) m1) Q := h
      intro ps H2 μ2 n2 g2 ⟨r1, r2⟩
      cases hd : dspD pr.1 pr.2 [] [] with
      | none => rw [hd] at h; exact False.elim h
      | some d =>
        rw [hd] at h
        have w2 : H2 p = some (.dK []) := n2.keep p _ upd_same (g0.dis p List.mem_cons_self).1 (fun ps z => by cases z)
        obtain ⟨qs', xs', ws', kvs, f1, f2, f3, f4, f5, f6⟩ := dsp_inv pr.1 pr.2 [] [] ps [] d hd r1 r2 rfl rfl
        subst f1
        refine ⟨w2, kvs, f2, by rw [f3]; exact hle pr m1 hr, ?_⟩
        have res : EV.Res H2 (p :: τ) p := ⟨List.mem_cons_self, .inr ⟨[], w2⟩⟩
        have e : mergeK [] kvs = qs'.zip ws' := f4
        rw [e]
        exact h p ws' _ μ2 (Nxt.rewrite List.mem_cons_self w2 (fun ps z => by cases z) (nl.trans n2) hp) hp (g2.rewr res) upd_same f5 (f6.rewr res)

/-! ### sorted -/
theorem each_zip {R : Value → D × V → Prop} : ∀ {xs : List D} {vs : List V} {us : List Value}, Vals vs us → vs.length = xs.length → (∀ p u, p ∈ xs.zip vs → RelV p.2 u → R u p) → PySem.W.EachIs R us (xs.zip vs)
  | [], _, _, .nil, _, _ => .nil
  | [], _, _, .cons _ _, l, _ => by simp at l
  | _ :: _, _, _, .nil, l, _ => by simp at l
  | x :: xs, _, _, .cons (a := v) (b := u) (l₁ := vs) (l₂ := us) r t, l, h => by
    rw [List.zip_cons_cons]
    exact .cons (h (x, v) u (by rw [List.zip_cons_cons]; exact List.mem_cons_self) r) (each_zip t (by simpa using l) fun p u hp hr => h p u (by rw [List.zip_cons_cons]; exact List.mem_cons_of_mem _ hp) hr)
theorem Reps.mem : ∀ {xs : List D} {vs : List V} {p : D × V}, Reps G μ τ H xs vs → p ∈ xs.zip vs → Rep G μ τ H p.1 p.2
  | [], _, _, _, h => by simp at h
  | x :: xs, vs, p, r, h => by
    obtain ⟨v, r', rfl, q, rs⟩ := r
    rw [List.zip_cons_cons] at h
    rcases List.mem_cons.mp h with rfl | h
    · exact q
    · exact Reps.mem rs h
theorem Reps.ofPairs : ∀ {zs : List (D × V)}, (∀ p ∈ zs, Rep G μ τ H p.1 p.2) → Reps G μ τ H (zs.map (·.1)) (zs.map (·.2))
  | [], _ => rfl
  | z :: zs, h => .cons (h z List.mem_cons_self) (Reps.ofPairs fun p hp => h p (List.mem_cons_of_mem _ hp))
theorem vals_of_each : ∀ {us : List Value} {zs : List (D × V)}, PySem.W.EachIs (fun u p => RelV p.2 u) us zs → Vals (zs.map (·.2)) us
  | _, _, .nil => .nil
  | _, _, .cons h t => .cons h (vals_of_each t)
theorem srt_map (zs : List (D × V)) : (zs.mergeSort (PySem.W.dataLe false fun p => pd p.1)).map (·.1) = srt (zs.map (·.1)) := by
  unfold srt
  exact List.map_mergeSort fun a _ b _ => rfl
theorem can_inv {xs : List D} (h : canSort xs = true) : (∀ x ∈ xs, plain 50 x = true) ∧ (∀ x ∈ xs, ∀ y ∈ xs, PySem.W.alike (pd x) (pd y) = true) ∧ ((∀ x ∈ xs, ∃ y r, x = .tup (y :: r)) ∨ ∀ x ∈ xs, (∃ i, x = .int i) ∨ ∃ z, x = .str z) := by
  unfold canSort alikes at h
  rw [Bool.and_eq_true, Bool.and_eq_true, Bool.or_eq_true] at h
  obtain ⟨⟨h1, h2⟩, h3⟩ := h
  refine ⟨List.all_eq_true.mp h1, fun x hx y hy => List.all_eq_true.mp (List.all_eq_true.mp h2 x hx) y hy, ?_⟩
  rcases h3 with h3 | h3
  · refine .inl fun x hx => ?_
    have := List.all_eq_true.mp h3 x hx
    split at this
    · exact ⟨_, _, rfl⟩
    · cases this
  · refine .inr fun x hx => ?_
    have := List.all_eq_true.mp h3 x hx
    split at this
    · exact .inl ⟨_, rfl⟩
    · exact .inr ⟨_, rfl⟩
    · cases this
theorem can_sortable {xs : List D} {vs : List V} (h : canSort xs = true) : PySem.W.AllAlike ((xs.zip vs).map fun p => pd p.1) ∧ PySem.W.Sortable ((xs.zip vs).map fun p => pd p.1) := by
  obtain ⟨_, h2, h3⟩ := can_inv h
  have mem : ∀ d ∈ (xs.zip vs).map (fun p => pd p.1), ∃ x ∈ xs, d = pd x := fun d hd => by
    obtain ⟨p, hp, rfl⟩ := List.mem_map.mp hd
    exact ⟨p.1, (List.of_mem_zip hp).1, rfl⟩
  refine ⟨fun d hd d' hd' => ?_, ?_⟩
  · obtain ⟨x, hx, rfl⟩ := mem d hd
    obtain ⟨y, hy, rfl⟩ := mem d' hd'
    exact h2 x hx y hy
  · rcases h3 with h3 | h3
    · refine .inl fun d hd => ?_
      obtain ⟨x, hx, rfl⟩ := mem d hd
      obtain ⟨y, r, rfl⟩ := h3 x hx
      exact ⟨pd y, pds r, rfl⟩
    · refine .inr fun d hd => ?_
      obtain ⟨x, hx, rfl⟩ := mem d hd
      rcases h3 x hx with ⟨i, rfl⟩ | ⟨z, rfl⟩
      · exact ⟨nofun, fun _ => nofun⟩
      · exact ⟨nofun, fun _ => nofun⟩
theorem c_sorted (hK : G.K = X.K) (hu : X.A.units + 64 < cLine) : CallR X (.builtin "sorted") (rCl G sortedD) := by
  intro pins s σ H vs us Q I r ⟨W, σ', ds, m, μ, τ, g, rs, q⟩
  unfold sortedD at q
  split at q
  · rename_i d
    obtain ⟨x, rfl, p⟩ := one_inv rfl rs
    split at q
    · rename_i xs hx
      unfold sortD at q
      by_cases hc : canSort xs = true
      case neg => rw [if_neg hc] at q; exact False.elim q
      rw [if_pos hc] at q
      obtain ⟨a, ws, rfl, h, rv⟩ := lst_inv g p hx
      obtain ⟨its, ri, hl, hz⟩ := I.list (.inl (.inl h))
      rw [Vals.ref1 r]
      obtain ⟨c1, c2, c3⟩ := can_inv hc
      obtain ⟨k1, k2⟩ := can_sortable (vs := ws) hc
      have lz : (xs.zip ws).length = ws.length := by rw [List.length_zip, ← rv.length, Nat.min_self]
      refine PySem.W.sorted_data (R := fun u p => RelV p.2 u) (bs := xs.zip ws) (enc := fun p => pd p.1) hl.isList (each_zip ri rv.length fun p u _ h => h) (each_zip ri rv.length fun p u hp hr => ?_) k1 k2 (by rw [lz]; exact hz) (fun b hb => ?_) fun out ho eo => ?_
      · exact Dp.reads I _ _ _ (Rep.dp hK _ 50 _ (c1 _ (List.of_mem_zip hp).1) (rv.mem hp)) hr
      · have := (Rep.shaped _ 50 _ (c1 _ (List.of_mem_zip hb).1) (rv.mem hb)).2
        omega
      · obtain ⟨ep, he'⟩ := PyProof.Rows.sortedAll_at s.heap its out.toArray
        have vo := vals_of_each eo
        have rr : Reps G μ τ H (srt xs) (((xs.zip ws).mergeSort (PySem.W.dataLe false fun p => pd p.1)).map (·.2)) := by
          have := Reps.ofPairs (G := G) (μ := μ) (τ := τ) (H := H) (zs := (xs.zip ws).mergeSort (PySem.W.dataLe false fun p => pd p.1)) fun p hp => rv.mem ((List.mergeSort_perm _ _).mem_iff.mp hp)
          rw [srt_map, List.map_fst_zip (by rw [rv.length]; exact Nat.le_refl _)] at this
          exact this
        have hsz : (((xs.zip ws).mergeSort (PySem.W.dataLe false fun p => pd p.1)).map (·.2)).length ≤ sizeLine := by
          rw [List.length_map, List.length_mergeSort, lz]; exact hz
        exact ⟨.ref _, upd H (s.heap.objs.size + 1) (.lst (((xs.zip ws).mergeSort (PySem.W.dataLe false fun p => pd p.1)).map (·.2))), I.laid (t' := s.toks) (fun _ _ => PyProof.Rows.sortedAll_old) (Nat.le_succ _) ⟨hsz, out, ep, vo, he'⟩, rfl, newL q g rr (I.hok.fresh (Nat.le_succ _))⟩
    · exact False.elim q
  · exact False.elim q
end
end EV

/-! sorted(d.items()), keys whole numbers and texts, values whole numbers. -/
namespace EV
open PySem PySem.Spec PyProof.Rows L2
section
variable {X : Cx} {G : Gw} {W : WX} {σ : L2.St} {μ τ μ' τ' : List Addr} {H H' : Hp} {m m' : Mem} {ρ : Rho} {a : Expr} {fa : Rho → Mem → R D}
/-- d.items() -/
def rItm : V → List V → Hp → VK → Prop := fun x xs H Q => ∃ (a : Addr) (kvs : List (Key × V)), x = .ref a ∧ xs = [] ∧ H a = some (.dK kvs) ∧ ∀ p, H p = none → Q (.ref p) (upd H p (DX.itemsO p a))
theorem mt_itm : MtR X "dict.items" rItm := by
  intro pins s σ H x xs v us Q I rx rxs ⟨a, kvs, e1, e2, ha, q⟩
  subst e1 e2
  obtain rfl : v = Value.ref a := rx
  cases rxs
  obtain ⟨_, hd, vs, _, o, es, ep, ho, hx, hdat, _⟩ := dk_of I.hok ha
  refine DT.callItems (es := es) (ep := ep) hd ⟨o, ho, hx, hdat⟩ ⟨.ref s.heap.objs.size, upd H s.heap.objs.size (DX.itemsO s.heap.objs.size a), ?_, rfl, q _ (I.hok.fresh (Nat.le_refl _))⟩
  exact I.laid (t' := s.toks) (fun b u e => Heap.get?_push_of_some _ e) (Nat.le_refl _) (DX.itemsO_ok (Heap.get?_push_size _ rfl))
/-- entries one by one -/
theorem pairs_at {P : Program} {w : World} : ∀ {es : List DictEntry} {kvs : List (Key × Value)} {ks : List Key} {vs : List V} {j : Nat} {e : DictEntry}, Pairs (mixKind P w) es kvs → KV (ks.zip vs) kvs → es[j]? = some e → ∃ q v, ks[j]? = some q ∧ vs[j]? = some v ∧ keyIs q e.key = true ∧ RelV v e.val
  | _, _, _, _, _, _, .nil, _, h => by simp at h
  | e :: es, kv :: kvs, ks, vs, j, e', .cons h1 h2 t, r, h => by
    cases ks with
    | nil => cases r
    | cons k ks =>
      cases vs with
      | nil => cases r
      | cons v vs =>
        rw [List.zip_cons_cons] at r
        have r' : Paired (fun (p : Key × V) (q : Key × Value) => p.1 = q.1 ∧ RelV p.2 q.2) ((k, v) :: ks.zip vs) (kv :: kvs) := r
        cases r' with
        | cons hh tt =>
          cases j with
          | zero =>
            simp at h
            subst h
            refine ⟨k, v, rfl, rfl, ?_, ?_⟩
            · have e : k = kv.1 := hh.1
              rw [e]; exact h1
            · rw [h2]; exact hh.2
          | succ j =>
            obtain ⟨q, x, g1, g2, g3, g4⟩ := pairs_at (j := j) t tt (by simpa using h)
            exact ⟨q, x, by simpa using g1, by simpa using g2, g3, g4⟩
theorem pairs_len {P : Program} {w : World} : ∀ {es : List DictEntry} {kvs : List (Key × Value)}, Pairs (mixKind P w) es kvs → es.length = kvs.length
  | _, _, .nil => rfl
  | _, _, .cons _ _ t => by rw [List.length_cons, List.length_cons, pairs_len t]
theorem kv_len {kvs : List (Key × V)} {ws : List (Key × Value)} (r : KV kvs ws) : kvs.length = ws.length := Paired.length r
theorem Good.grow {p : Addr} (g : Good G μ τ m H) (gr : ∀ b o, H b = some o → H' b = some o) (hp : H p = none) (hp' : H' p ≠ none) : Nxt μ τ H μ (p :: τ) H' ∧ Good G μ (p :: τ) m H' := by
  have nx : Nxt μ τ H μ (p :: τ) H' := by
    refine ⟨fun _ _ h => h, fun b o e _ _ => gr b o e, fun b ps e => ⟨#[], by rw [gr b _ e]; simp⟩, fun _ h => .inl h, fun b h => ?_⟩
    rcases List.mem_cons.mp h with rfl | h
    · exact .inr (.inr hp)
    · exact .inl h
  refine ⟨nx, g.len, fun n c b e1 e2 => ?_, g.nodup, fun b h => ?_⟩
  · obtain ⟨o, eo, _⟩ := (g.cell n c b e1 e2).mut
    exact (g.cell n c b e1 e2).nxt nx (fun _ => g.mut) (by rw [gr b o eo, eo])
  · rcases List.mem_cons.mp h with rfl | h
    · refine ⟨fun z => ?_, hp'⟩
      obtain ⟨o, e, _⟩ := g.mut z
      rw [hp] at e; cases e
    · refine ⟨(g.dis b h).1, ?_⟩
      cases q : H b with
      | none => exact absurd q (g.dis b h).2
      | some o => rw [gr b o q]; simp
def rSrtI (G : Gw) : List V → Hp → VK → Prop := fun xs H Q => ∃ (W : WX) (σ : L2.St) (p a : Addr) (ks : List Key) (ds : List D) (vs : List V) (m : Mem) (μ τ : List Addr), xs = [.ref p] ∧ H p = some (DX.itemsO p a) ∧ H a = some (.dK (ks.zip vs)) ∧ ks.length = vs.length ∧ Good G μ τ m H ∧ Reps G μ τ H ds vs ∧
  PstF G W σ μ τ H (if itmOk ks ds then R.of (sortD (EV.pairsOf ks ds)) m else .bad) Q
theorem int_vals {ds : List D} {vs : List V} {j : Nat} {v : V} (h : ds.all (fun d => match d with | .int _ => true | _ => false) = true) (r : Reps G μ τ H ds vs) (e : vs[j]? = some v) : ∃ i, ds[j]? = some (.int i) ∧ v = .int i := by
  obtain ⟨d, h1, h2⟩ := r.getV e
  have := List.all_eq_true.mp h d (List.mem_of_getElem? h1)
  cases d with
  | int i => exact ⟨i, h1, h2⟩
  | _ => exact absurd this Bool.false_ne_true
theorem key_reads {h : Heap} {q : Key} {v : Value} (k : keyIs q v = true) : Reads h v (pd (keyOf q)) [] := by
  rcases keyIs_shape k with ⟨i, t, rfl, rfl⟩ | ⟨x, t, rfl, rfl⟩
  · exact .int i t
  · exact .str x t
theorem key_rel {q : Key} {v : Value} (k : keyIs q v = true) : RelV (kV q) v := by
  rcases keyIs_shape k with ⟨i, t, rfl, rfl⟩ | ⟨x, t, rfl, rfl⟩
  · exact ⟨t, rfl⟩
  · exact ⟨t, rfl⟩
theorem c_srtI (hK : G.K = X.K) (hc : X.calm = true) (hu : X.A.units + 64 < cLine) : CallR X (.builtin "sorted") (rSrtI G) := by
  intro pins s σ H xs us Q I r ⟨W, σ', p, ad, ks, ds, vs, m, μ, τ, e0, hp, ha, hl, g, rs, q⟩
  subst e0
  obtain rfl := Vals.ref1 r
  by_cases hi : itmOk ks ds = true
  case neg => rw [if_neg hi] at q; exact False.elim q
  rw [if_pos hi] at q
  unfold sortD at q
  by_cases hcs : canSort (EV.pairsOf ks ds) = true
  case neg => rw [if_neg hcs] at q; exact False.elim q
  rw [if_pos hcs] at q
  unfold itmOk at hi
  rw [Bool.and_eq_true] at hi
  have view : s.heap.IsItemsView p ad := (show ObjOk X.prog X.w H s.heap p (DX.itemsO p ad) from I.hok p _ hp).1
  obtain ⟨z, hd, kvs, rel, o, es, ep, ho, hx, hdat, _, prs, _⟩ := dk_of I.hok ha
  have les : es.size = ks.length := by
    have h1 := pairs_len prs
    have h2 := kv_len rel
    rw [List.length_zip, ← hl, Nat.min_self] at h2
    rw [← Array.length_toList, h1, h2]
  have hz : ks.length ≤ sizeLine := by
    rw [List.length_zip, ← hl, Nat.min_self] at z; exact z
  have ld : ds.length = ks.length := by rw [← rs.length, hl]
  refine DT.sortedI (es := es) (ep := ep) (I.ok.hd hc) view ⟨o, ho, hx, hdat⟩ (by rw [les]; exact hz) fun h' tk as hk hlt hla hG => ?_
  have nd : as.Nodup := List.Pairwise.imp (fun h => Nat.ne_of_lt h) hG.rise
  -- the pairs as made
  have pr : ∀ (j : Nat) (b : Addr), as[j]? = some b → ∃ (e : DictEntry) (k : Key) (i : Int), ks[j]? = some k ∧ ds[j]? = some (.int i) ∧ keyIs k e.key = true ∧ RelV (.int i) e.val ∧ h'.get? b = some { cls := .type "tuple", data := .seq #[e.key, e.val] } := by
    intro j b hj
    obtain ⟨e, he, hg⟩ := hG.pairs j b hj
    obtain ⟨k, v, k1, k2, k3, k4⟩ := pairs_at (j := j) prs rel (by rw [Array.getElem?_toList]; exact he)
    obtain ⟨i, d1, rfl⟩ := int_vals hi.2 rs k2
    exact ⟨e, k, i, k1, d1, k3, k4, hg⟩
  have hob : (h'.push { cls := .type "list", data := .seq (as.map Value.ref).toArray }).get? h'.objs.size = some (seqObj "list" (as.map Value.ref).toArray 0) := Heap.get?_push_size _ rfl
  have ka : ∀ b o, h'.get? b = some o → (h'.push { cls := .type "list", data := .seq (as.map Value.ref).toArray }).get? b = some o := fun b o e => Heap.get?_push_of_some _ e
  have ne0 : ∀ b o, h'.get? b = some o → b ≠ h'.objs.size := fun b o e => Nat.ne_of_lt (Heap.lt_size e)
  generalize h'.push { cls := .type "list", data := .seq (as.map Value.ref).toArray } = h2 at hob ka ⊢
  -- what is sorted
  have lp : (EV.pairsOf ks ds).length = as.length := by
    unfold EV.pairsOf
    rw [List.length_map, List.length_zip, ld, Nat.min_self, hla, les]
  have pat : ∀ (j : Nat) (d : D), (EV.pairsOf ks ds)[j]? = some d → ∃ k x, ks[j]? = some k ∧ ds[j]? = some x ∧ d = .tup [keyOf k, x] := by
    intro j d e
    unfold EV.pairsOf at e
    rw [List.getElem?_map] at e
    obtain ⟨y, e1, e2⟩ := Option.map_eq_some_iff.mp e
    rw [List.getElem?_zip_eq_some] at e1
    exact ⟨y.1, y.2, e1.1, e1.2, e2.symm⟩
  have eachA : ∀ (P : Value → D × V → Prop), (∀ (j : Nat) (b : Addr) (k : Key) (i : Int), as[j]? = some b → ks[j]? = some k → ds[j]? = some (D.int i) → P (.ref b) (D.tup [keyOf k, D.int i], V.ref b)) → PySem.W.EachIs P (as.map Value.ref) ((EV.pairsOf ks ds).zip (as.map V.ref)) := by
    intro P hP
    refine .of_zip (by rw [List.length_zip, List.length_map, List.length_map, lp, Nat.min_self]) fun y hy => ?_
    obtain ⟨j, hj⟩ := List.mem_iff_getElem?.mp hy
    rw [List.getElem?_zip_eq_some, List.getElem?_zip_eq_some, List.getElem?_map, List.getElem?_map] at hj
    obtain ⟨j1, j2, j3⟩ := hj
    cases hb : as[j]? with
    | none => rw [hb] at j1; cases j1
    | some b =>
      rw [hb] at j1 j3
      obtain ⟨e, k, i, k1, k2, _⟩ := pr j b hb
      obtain ⟨k', x', k3, k4, k5⟩ := pat j _ j2
      rw [k1] at k3; cases k3
      rw [k2] at k4; cases k4
      obtain ⟨y1, y2, y3⟩ := y
      cases (show some (Value.ref b) = some y1 from j1)
      cases (show some (V.ref b) = some y3 from j3)
      cases (show y2 = _ from k5)
      exact hP j b k i hb k1 k2
  obtain ⟨k1, k2⟩ := can_sortable (vs := as.map V.ref) hcs
  refine PySem.W.list_sort_data (R := fun u y => RelV y.2 u) (bs := (EV.pairsOf ks ds).zip (as.map V.ref)) (enc := fun y => pd y.1) hob (eachA _ fun j b k i _ _ _ => rfl) (eachA _ fun j b k i hb hk1 hd1 => ?_) k1 k2 ?_ (fun y hy => ?_) fun out hlo eo => ?_
  · obtain ⟨e, k', i', k3, k4, k5, k6, k7⟩ := pr j b hb
    rw [hk1] at k3; cases k3
    rw [hd1] at k4; cases k4
    obtain ⟨t, et⟩ := k6
    refine ⟨[], .tuple (ka _ _ k7) rfl rfl ?_, by simp⟩
    refine .cons (as := []) (bs := []) (key_reads k5) (.cons (as := []) (bs := []) ?_ .nil)
    rw [et]; exact .int i t
  · rw [List.length_zip, List.length_map, lp, Nat.min_self, hla, les]; exact hz
  · have hm := (List.of_mem_zip hy).1
    obtain ⟨j, hj⟩ := List.mem_iff_getElem?.mp hm
    obtain ⟨k, x, _, hx1, e⟩ := pat j _ hj
    have hxi : ∃ i, x = .int i := by
      have := List.all_eq_true.mp hi.2 x (List.mem_of_getElem? hx1)
      cases x with
      | int i => exact ⟨i, rfl⟩
      | _ => exact absurd this Bool.false_ne_true
    obtain ⟨i, rfl⟩ := hxi
    have hdp : (pd y.1).depth ≤ 1 := by
      rw [e]
      cases k <;> simp [pd, pds, keyOf, PyData.depth, PyData.depthAll]
    show X.A.units + 1 + 1 + (pd y.1).depth < cLine
    omega
  · show EP X pins σ Q (.ref h'.objs.size) { s with heap := sortedHeap h2 h'.objs.size (as.map Value.ref) out.toArray, toks := tk }
    have kF : ∀ b o, b ≠ h'.objs.size → h2.get? b = some o → (sortedHeap h2 h'.objs.size (as.map Value.ref) out.toArray).get? b = some o := fun b o hb e => (PyProof.Rows.sortedHeap_old hb (Heap.lt_size e)).trans e
    have kH : ∀ b o, h'.get? b = some o → (sortedHeap h2 h'.objs.size (as.map Value.ref) out.toArray).get? b = some o := fun b o e => kF b o (ne0 b o e) (ka b o e)
    obtain ⟨eF, heF⟩ := PyProof.Rows.sortedHeap_at (vs := as.map Value.ref) (out := out.toArray) hob
    have I1 : Inv X pins σ H { s with heap := sortedHeap h2 h'.objs.size (as.map Value.ref) out.toArray, toks := tk } := I.kept (t' := tk) fun b o e => kH b o (hk b o e)
    have hn0 : H h'.objs.size = none := I.hok.fresh (Nat.le_of_lt hlt)
    generalize hzs : ((EV.pairsOf ks ds).zip (as.map V.ref)).mergeSort (PySem.W.dataLe false fun y => pd y.1) = zs at eo
    have lz : zs.length = ks.length := by
      rw [← hzs, List.length_mergeSort, List.length_zip, List.length_map, lp, Nat.min_self, hla, les]
    have I2 : Inv X pins σ (upd H h'.objs.size (.lst (zs.map (·.2)))) { s with heap := sortedHeap h2 h'.objs.size (as.map Value.ref) out.toArray, toks := tk } :=
      I1.take (h' := sortedHeap h2 h'.objs.size (as.map Value.ref) out.toArray) (t' := tk) (fun b ob _ e => e) (I.fpOk (Nat.le_of_lt hlt) hn0) ⟨by rw [List.length_map, lz]; exact hz, out, eF, vals_of_each eo, heF⟩
    obtain ⟨H2, I3, gr1, qt⟩ := DX.takeT (P := fun b xs => ∃ (j : Nat) (k : Key) (i : Int), as[j]? = some b ∧ ks[j]? = some k ∧ ds[j]? = some (.int i) ∧ xs = [kV k, .int i]) I as _ I2 nd fun b hb => by
      obtain ⟨j, hj⟩ := List.mem_iff_getElem?.mp hb
      obtain ⟨e, k, i, k1, k2, k3, k4, k5⟩ := pr j b hj
      have hbl : s.heap.objs.size ≤ b := Nat.le_of_lt (hG.above b hb)
      refine ⟨hbl, ?_, [kV k, .int i], ⟨j, k, i, hj, k1, k2, rfl⟩, fun H3 => ⟨small (by show 2 ≤ 1000; omega), [e.key, e.val], .cons (key_rel k3) (.cons k4 .nil), ⟨_, kH _ _ k5, rfl, 0, rfl⟩⟩⟩
      rw [upd_ne (ne0 _ _ k5)]
      exact I.hok.fresh hbl
    have gr : ∀ b o, H b = some o → H2 b = some o := fun b o e => gr1 b o (by rw [upd_ne (ne_of_none e hn0)]; exact e)
    have hL : H2 h'.objs.size = some (.lst (zs.map (·.2))) := gr1 _ _ upd_same
    obtain ⟨nx, gd⟩ := g.grow (p := h'.objs.size) gr hn0 (by rw [hL]; simp)
    refine ⟨.ref h'.objs.size, H2, I3, rfl, q h'.objs.size (zs.map (·.2)) H2 μ nx hn0 gd hL ?_⟩
    have e1 : srt (EV.pairsOf ks ds) = zs.map (·.1) := by
      rw [← hzs, srt_map, List.map_fst_zip (by rw [List.length_map, lp]; exact Nat.le_refl _)]
    rw [e1]
    refine Reps.ofPairs fun y hy => ?_
    have hy' : y ∈ (EV.pairsOf ks ds).zip (as.map V.ref) := by
      rw [← hzs] at hy
      exact (List.mergeSort_perm _ _).mem_iff.mp hy
    obtain ⟨j, hj⟩ := List.mem_iff_getElem?.mp hy'
    rw [List.getElem?_zip_eq_some, List.getElem?_map] at hj
    obtain ⟨j1, j2⟩ := hj
    obtain ⟨b, hb, eb⟩ := Option.map_eq_some_iff.mp j2
    obtain ⟨xs, ⟨j', k', i', t1, t2, t3, t4⟩, hH⟩ := qt b (List.mem_of_getElem? hb)
    have ej : j = j' := (List.getElem?_inj (List.getElem?_eq_some_iff.mp hb).1 nd).mp (hb.trans t1.symm)
    subst ej
    obtain ⟨k2', x2, t5, t6, t7⟩ := pat j _ j1
    rw [t2] at t5; cases t5
    rw [t3] at t6; cases t6
    rw [t7, ← eb]
    subst t4
    refine ⟨b, [kV k', .int i'], rfl, SqT.of hH, .cons ?_ (.cons rfl .nil)⟩
    have hks := List.all_eq_true.mp hi.1 k' (List.mem_of_getElem? t2)
    cases k' with
    | inl i => exact rfl
    | inr x => exact ⟨rfl, hks⟩
theorem ev_sortedItems {p pos ap cp : Pos} (hK : G.K = X.K) (hc : X.calm = true) (hu : X.A.units + 64 < cLine) (hg : Gl X "sorted") (hm : X.mg "sorted" = none) (ha : EvE X G W a fa) (hb : baseOk a = true) (hl : (ap.endLine == cp.line) = true) :
    EvF X G W (.Call (.Name "sorted" p) [.Call (.Attribute a "items" ap) [] [] cp] [] pos) (fun ρ m => (fa ρ m).bind fun d m1 => sortedItemsD [d] m1) := by
  have hi := pe_bm0 (X := X) (T := "dict") (id := "dict.items") (apos := ap) (cpos := cp) PySem.F.plainAttrs_dict PySem.F.slot_dict_items PySem.F.type_dict_items mt_itm ha (base_of hb) hl
  refine PE.imp (pe_callB (c_srtI (G := G) hK hc hu) hg hm PyProof.Rows.boot_sorted (pa_cons hi pa_nil rfl) (by decide) (by decide) rfl rfl) fun σ H Q ⟨ρ, m, μ, τ, g, s, h⟩ => ?_
  refine ⟨ρ, m, μ, τ, g, s, (PstF.bind (RP := RD G τ) g h).imp fun x H1 ⟨d, m1, μ1, n1, g1, r1, h1⟩ => ?_⟩
  unfold sortedItemsD at h1
  dsimp only at h1
  cases hd : dicOf m1 d with
  | none => rw [hd] at h1; exact False.elim h1
  | some pr =>
    rw [hd] at h1
    obtain ⟨ad, vs, rfl, ha', hl', rs⟩ := dic_inv g1 r1 hd
    refine ⟨.inr (.inr (.inl ⟨rfl, .inl ⟨_, ha'⟩⟩)), ad, _, rfl, rfl, ha', fun pv hpv => ?_⟩
    have nl : Nxt μ1 τ H1 μ1 (pv :: τ) (upd H1 pv (DX.itemsO pv ad)) := Nxt.laid hpv
    have nf := nl.free
    refine ⟨W, σ, pv, ad, pr.1, pr.2, vs, m1, μ1, τ, rfl, upd_same, by rw [upd_ne (ne_of_none ha' hpv)]; exact ha', hl', (g1.laid hpv).free, rs.next nf g1, ?_⟩
    -- the same wish, a little later
    have mv : ∀ (r : R D), PstF G W σ μ1 τ H1 r Q → PstF G W σ μ1 τ (upd H1 pv (DX.itemsO pv ad)) r Q := by
      intro r hr
      have fresh : ∀ p', upd H1 pv (DX.itemsO pv ad) p' = none → H1 p' = none := fun p' e => by
        by_cases hpp : p' = pv
        · subst hpp; exact hpv
        · rwa [upd_ne hpp] at e
      cases r with
      | bad => exact hr
      | ex x p' m2 => exact fun c dd H' μ' n' g' r' => hr c dd H' μ' (nf.trans n') g' r'
      | ok d m2 =>
        cases d with
        | lst ds => exact fun p' vs' H' μ' n' hp' g' e' r' => hr p' vs' H' μ' (nf.trans n') (fresh p' hp') g' e' r'
        | dic ks ds => exact fun p' vs' H' μ' n' hp' g' e' l' r' => hr p' vs' H' μ' (nf.trans n') (fresh p' hp') g' e' l' r'
        | _ => exact fun v H' μ' n' g' r' => hr v H' μ' (nf.trans n') g' r'
    exact mv _ h1
end
end EV

/-! The matcher: that a tree tells a text. -/
namespace EV
open PySem PySem.Spec PyProof.Rows L2

/-- where a text stands -/
structure MC where
  T : List Fn
  GK : List (Str × D)
  N : List Str
  sc : Scope
  fn : Str → Bool
def dbg (x : Str) : Bool := (x == ("__debug__" : Str)) || (x == ("__classdict__" : Str))
def visB (c : MC) (x : Str) : Bool := match c.sc.names.lookup x with
  | some .local => true
  | some .cell => true
  | some .free => true
  | _ => false
def locB (c : MC) (x : Str) : Bool := match c.sc.names.lookup x with
  | some .local => true
  | some .cell => c.fn x
  | _ => false
def glB (c : MC) (x : Str) : Bool := decide (c.sc.names.lookup x = some .globalImplicit) && !dbg x
def isBlt (c : MC) (x : Str) (y : String) : Bool := decide (x = Str.ofString y) && glB c x
def ixB : Expr → Bool
  | .Name _ _ => true | .Constant _ _ _ => true | .BinOp _ _ _ _ => true | .UnaryOp _ _ _ => true | .Subscript _ _ _ => true | .Call _ _ _ _ => true | .Tuple _ _ _ => true | .IfExp _ _ _ _ => true | .Attribute _ _ _ => true
  | _ => false
def noSet : Expr → Bool
  | .Set _ _ _ => false
  | _ => true
def blkOf (c : MC) (scope : Scope) : MC := ⟨c.T, c.GK, c.N, relS scope c.sc, fun x => scope.names.lookup x == some .cell⟩
def biN : Bi → String
  | .len => "len" | .all => "all" | .any => "any" | .sum => "sum" | .abs => "abs" | .int => "int" | .str => "str" | .repr => "repr" | .sorted => "sorted" | .tuple => "tuple" | .list => "list" | .min => "min" | .max => "max" | .ord => "ord" | .sortedItems => "sorted"
def bmN : Bm → Option String
  | .append => some "append" | .extend => some "extend" | .join => some "join"
  | _ => none
def tyB (c : MC) (t : Ty) : Expr → Bool
  | .Name x _ => isBlt c x (tyN t)
  | _ => false
def tysB (c : MC) : List Ty → List Expr → Bool
  | [], [] => true
  | t :: ts, n :: ns => tyB c t n && tysB c ts ns
  | _, _ => false
def plainT : Expr → Bool
  | .UnaryOp .Not _ _ => false | .BoolOp _ _ _ => false | .IfExp _ _ _ _ => false | .Compare _ _ _ _ => false
  | _ => true
mutual
def mT (c : MC) : Tg → Expr → Bool
  | .nm i, .Name x _ => decide (c.N[i]? = some x) && locB c x
  | .tp ts, .Tuple es _ _ => mTs c ts es && es.all noStar && decide (es.length = tgsN ts)
  | _, _ => false
def mTs (c : MC) : Tgs → List Expr → Bool
  | .nil, [] => true
  | .cons t ts, e :: es => mT c t e && mTs c ts es
  | _, _ => false
end
/-! the forms of texts -/
def asCall : Expr → Option (Str × Pos × Expr × List Expr × Pos)
  | .Call (.Name x px) (y :: ys) [] p => some (x, px, y, ys, p)
  | _ => none
theorem asCall_eq {e : Expr} {x : Str} {px : Pos} {y : Expr} {ys : List Expr} {p : Pos} (h : asCall e = some (x, px, y, ys, p)) : e = .Call (.Name x px) (y :: ys) [] p := by
  unfold asCall at h
  split at h
  · cases h; rfl
  · cases h
def asMeth : Expr → Option (Expr × Str × Pos × Expr × List Expr × Pos)
  | .Call (.Attribute o n ap) (y :: ys) [] p => some (o, n, ap, y, ys, p)
  | _ => none
theorem asMeth_eq {e o : Expr} {n : Str} {ap : Pos} {y : Expr} {ys : List Expr} {p : Pos} (h : asMeth e = some (o, n, ap, y, ys, p)) : e = .Call (.Attribute o n ap) (y :: ys) [] p := by
  unfold asMeth at h
  split at h
  · cases h; rfl
  · cases h
def asMeth0 : Expr → Option (Expr × Str × Pos × Pos)
  | .Call (.Attribute o n ap) [] [] p => some (o, n, ap, p)
  | _ => none
theorem asMeth0_eq {e o : Expr} {n : Str} {ap p : Pos} (h : asMeth0 e = some (o, n, ap, p)) : e = .Call (.Attribute o n ap) [] [] p := by
  unfold asMeth0 at h
  split at h
  · cases h; rfl
  · cases h
def asRev : Expr → Option (Expr × Nat × Pos × Pos × Pos × Pos)
  | .Subscript o (.Slice none none (some (.UnaryOp .USub (.Constant (.int 1) k p1) p2)) p3) p => some (o, k, p1, p2, p3, p)
  | _ => none
theorem asRev_eq {e o : Expr} {k : Nat} {p1 p2 p3 p : Pos} (h : asRev e = some (o, k, p1, p2, p3, p)) : e = .Subscript o (.Slice none none (some (.UnaryOp .USub (.Constant (.int 1) k p1) p2)) p3) p := by
  unfold asRev at h
  split at h
  · cases h; rfl
  · cases h
def asLc : Expr → Option (Expr × Expr × Expr × List Expr × Scope × Pos)
  | .ListComp elt [⟨tg, iter, ifs, 0⟩] scope p => some (elt, tg, iter, ifs, scope, p)
  | _ => none
theorem asLc_eq {e elt tg iter : Expr} {ifs : List Expr} {scope : Scope} {p : Pos} (h : asLc e = some (elt, tg, iter, ifs, scope, p)) : e = .ListComp elt [⟨tg, iter, ifs, 0⟩] scope p := by
  unfold asLc at h
  split at h
  · cases h; rfl
  · cases h
def asTup : Expr → Option (List Expr × Nat × Pos)
  | .Tuple es k p => some (es, k, p)
  | _ => none
theorem asTup_eq {e : Expr} {es : List Expr} {k : Nat} {p : Pos} (h : asTup e = some (es, k, p)) : e = .Tuple es k p := by
  unfold asTup at h
  split at h
  · cases h; rfl
  · cases h
def frsB : Ex → Bool
  | .lst _ => true | .dsp _ => true | .lcp _ _ _ _ _ => true | .slc _ _ _ => true | .rev _ => true | .bi _ _ => true | .itm _ => true | .bin _ _ _ => true
  | _ => false
mutual
def mE : MC → Ex → Expr → Bool
  | c, .var i, .Name x _ => decide (c.N[i]? = some x) && visB c x && !dbg x
  | _, .lit k, .Constant k' _ _ => decide (k = k')
  | c, .glo x d, .Name y _ => decide (x = y) && glB c y && decide ((x, d) ∈ c.GK)
  | c, .bin op a b, .BinOp l o r _ => decide (op = o) && mE c a l && mE c b r
  | c, .neg a, .UnaryOp .USub x _ => mE c a x
  | c, .not a, .UnaryOp .Not x _ => mE c a x
  | c, .cmp op a b, .Compare l [o] [r] _ => decide (op = o) && mE c a l && mE c b r && !behindInMarks op r
  | c, .cmp2 o1 o2 a b d, .Compare l [p1, p2] [r, q] _ => decide (o1 = p1) && decide (o2 = p2) && mE c a l && mE c b r && mE c d q && !lastMarks [p1, p2] [r, q]
  | c, .and a b, .BoolOp .And (x :: xs) p => mE c a x && (match xs with
    | [y] => mE c b y
    | y :: z :: r => mE c b (.BoolOp .And (y :: z :: r) p)
    | [] => false)
  | c, .or a b, .BoolOp .Or (x :: xs) p => mE c a x && (match xs with
    | [y] => mE c b y
    | y :: z :: r => mE c b (.BoolOp .Or (y :: z :: r) p)
    | [] => false)
  | c, .ife t a b, .IfExp t' a' b' _ => mE c t t' && mE c a a' && mE c b b'
  | c, .tup es, .Tuple xs _ _ => mEs c es xs && decide (xs.length ≤ 1000)
  | c, .lst es, .List xs _ => mEs c es xs && decide (xs.length ≤ 1000)
  | c, .dsp ks, .Dict keys vals _ => mKV c ks keys vals && decide (keys.length ≤ 15)
  | c, .lcp own t it cd e, x => (match asLc x with
    | some (elt, tg, iter, ifs, scope, _) => mI c tg it iter && noSet iter && blkC c.N c.sc scope own && ((tgI t).all fun i => decide (i ∈ own.map (·.2))) &&
      mT (blkOf c scope) t tg && mC (blkOf c scope) cd ifs && mE (blkOf c scope) e elt
    | none => false)
  | c, .idx a b, .Subscript o i _ => mE c a o && mE c b i && ixB i
  | c, .slc a lo hi, .Subscript o (.Slice l h none _) _ => mE c a o && mO c lo l && mO c hi h
  | c, .rev a, x => (match asRev x with
    | some (o, _) => mE c a o
    | none => false)
  | c, .call f es, z => (match asCall z with
    | some (x, _, y, ys, _) => (match c.T[f]? with
      | some fn => decide (fn.name = x)
      | none => false) && glB c x && mEs c es (y :: ys)
    | none => false)
  | c, .bi b es, z => (match asCall z with
    | some (x, _, y, ys, _) => isBlt c x (biN b) && decide (b ≠ .sortedItems) && mEs c es (y :: ys)
    | none => false)
  | c, .itm a, z => (match asCall z with
    | some (x, _, y, ys, _) => isBlt c x "sorted" && ys.isEmpty && (match asMeth0 y with
      | some (o, n, ap, cp) => decide (n = Str.ofString "items") && mE c a o && baseOk o && (ap.endLine == cp.line)
      | none => false)
    | none => false)
  | c, .bm b a es, z => (match asMeth z with
    | some (o, n, ap, y, ys, cp) => (match bmN b with
      | some z => decide (n = Str.ofString z)
      | none => false) && mE c a o && baseOk o && mEs c es (y :: ys) && decide ((y :: ys).length < 20) && (ap.endLine == cp.line)
    | none => false)
  | c, .isi a ts, z => (match asCall z with
    | some (x, _, y, ys, _) => isBlt c x "isinstance" && mE c a y && noStar y && (match ys with
      | [z] => (match asTup z with
        | some (ns, _, _) => tysB c ts ns && decide (ts.length ≤ 10)
        | none => (match ts with
          | [t] => tyB c t z
          | _ => false))
      | _ => false)
    | none => false)
  | c, .alc a, e => mE c a e && frsB a
  | _, _, _ => false
def mEs : MC → Exs → List Expr → Bool
  | _, .nil, [] => true
  | c, .cons e es, x :: xs => mE c e x && noStar x && mEs c es xs
  | _, _, _ => false
def mKV : MC → Kvs → List (Option Expr) → List Expr → Bool
  | _, .nil, [], [] => true
  | c, .cons k v r, some x :: xs, y :: ys => mE c k x && mE c v y && mKV c r xs ys
  | _, _, _, _ => false
def mO : MC → Op → Option Expr → Bool
  | _, .no, none => true
  | c, .yes e, some x => mE c e x
  | _, _, _ => false
def mC : MC → Cd → List Expr → Bool
  | _, .no, [] => true
  | c, .yes e, [x] => mE c e x
  | _, _, _ => false
def mI : MC → Expr → It → Expr → Bool
  | c, _, .ex e, x => mE c e x
  | c, _, .rng1 a, z => (match asCall z with
    | some (n, _, x, ys, _) => ys.isEmpty && isBlt c n "range" && mE c a x && noStar x
    | none => false)
  | c, _, .rng2 a b, z => (match asCall z with
    | some (n, _, x, ys, _) => (match ys with
      | [y] => isBlt c n "range" && mE c a x && noStar x && mE c b y && noStar y
      | _ => false)
    | none => false)
  | c, tg, .zip a b, z => (match asCall z with
    | some (n, _, x, ys, _) => (match ys with
      | [y] => (asTup tg).isSome && isBlt c n "zip" && mE c a x && noStar x && mE c b y && noStar y
      | _ => false)
    | none => false)
  | c, tg, .enm a, z => (match asCall z with
    | some (n, _, x, ys, _) => ys.isEmpty && (asTup tg).isSome && isBlt c n "enumerate" && mE c a x && noStar x
    | none => false)
end
end EV

/-! A matched text does what its tree comes to. -/
namespace EV
open PySem PySem.Spec PyProof.Rows L2
def bltAll : List String := ["len", "all", "any", "sum", "abs", "int", "str", "repr", "sorted", "tuple", "list", "min", "max", "ord", "isinstance", "range", "zip", "enumerate", "bool", "dict"]
/-- the context as the matcher takes it; C: what calls come to -/
structure Ctx (X : Cx) (G : Gw) (c : MC) (k : Nat) (C : Nat → List D → Mem → R D) : Prop where
  hK : G.K = X.K
  calm : X.calm = true
  nd : X.N.Nodup
  room : Room k X.A
  N : X.N = c.N
  sc : X.env.scope = c.sc
  fn : ∀ x, c.fn x = true → X.fn x = true
  blt : ∀ x ∈ bltAll, X.mg (Str.ofString x) = none
  glo : ∀ p ∈ c.GK, GloOk X G p.1 p.2
  fns : ∀ (i : Nat) (f : Fn), c.T[i]? = some f → ∃ (a : Addr) (fd : FuncData) (ps : List Str), X.mg f.name = some (.ref a) ∧ PySem.W.keepIn X.K (.ref a) = true ∧ Binds X.K fd ps [] ∧ FnOk X.prog X.w X.K X.mg X.base (CX X.prog X.w) k a fd ps (spD G (C i))
section
variable {X : Cx} {G : Gw} {W : WX} {c : MC} {k : Nat} {C : Nat → List D → Mem → R D}
theorem Ctx.blk (h : Ctx X G c k C) (scope : Scope) (s : Shared) (H : Hp) (Ca : Addr) (cl : List (Str × Addr)) (fp : List Addr) : Ctx (X.blk s H scope (compEnvC scope cl Ca X.env) fp) G (blkOf c scope) k C := by
  refine ⟨h.hK, h.calm, h.nd, h.room, h.N, ?_, fun x q => q, h.blt, h.glo, h.fns⟩
  show relS scope X.env.scope = relS scope c.sc
  rw [h.sc]
theorem Ctx.units (h : Ctx X G c k C) : X.A.units + 64 < cLine := h.room.units
theorem gl_of (h : Ctx X G c k C) {x : Str} (q : glB c x = true) : Gl X x ∧ (x == ("__debug__" : Str)) = false := by
  unfold glB dbg at q
  simp only [Bool.and_eq_true, decide_eq_true_eq, Bool.not_eq_true', Bool.or_eq_false_iff] at q
  refine ⟨?_, q.2.1⟩
  show X.env.scope.names.lookup x = _
  rw [h.sc]; exact q.1
theorem blt_of (h : Ctx X G c k C) {x : Str} {y : String} (q : isBlt c x y = true) (hy : y ∈ bltAll) : x = Str.ofString y ∧ Gl X (Str.ofString y) ∧ X.mg (Str.ofString y) = none := by
  unfold isBlt at q
  simp only [Bool.and_eq_true, decide_eq_true_eq] at q
  obtain ⟨rfl, q⟩ := q
  exact ⟨rfl, (gl_of h q).1, h.blt y hy⟩
theorem vis_of (h : Ctx X G c k C) {x : Str} (q : visB c x = true) : Vis X.env.scope x := by
  unfold visB at q
  unfold Vis
  rw [h.sc]
  split at q <;> first | (rename_i e; rw [e]; first | exact .inl rfl | exact .inr (.inl rfl) | exact .inr (.inr rfl)) | cases q
theorem loc_of (h : Ctx X G c k C) {x : Str} (q : locB c x = true) : L2.Loc X.env.scope x ∧ (X.fn x = true ∨ X.env.scope.names.lookup x = some .local) := by
  unfold locB at q
  unfold L2.Loc
  rw [h.sc]
  split at q
  · rename_i e; rw [e]; exact ⟨.inl rfl, .inr rfl⟩
  · rename_i e; rw [e]; exact ⟨.inr rfl, .inl (h.fn x q)⟩
  · cases q
theorem ix_plain {b : Expr} (h : ixB b = true) : PlainIx b := by
  intro o i
  cases b <;> first | rfl | exact nomatch h
theorem asg_sub {a b : Expr} {p : Pos} {env : Env} (h : ixB b = true) (v : Value) : assign (.Subscript a b p) env v = (do
      let ov ← holding [v] (eval a env)
      let iv ← holding [v, ov] (eval b env)
      standAt p
      holding [v, ov, iv] (setItem ov iv v)
      release [v, ov, iv] []) := by
  cases b <;> first | rfl | exact nomatch h
theorem noset_of {e : Expr} {env : Env} (h : noSet e = true) (x : Value) : foldedSetIterable e env x = pure x := by
  cases e <;> first | rfl | exact nomatch h
theorem sd_of (h : Ctx X G c k C) {t : Ty} {n : Expr} (q : tyB c t n = true) : TyName X n t := by
  cases n with
  | Name x p =>
    have q : isBlt c x (tyN t) = true := q
    obtain ⟨rfl, h1, h2⟩ := blt_of h q (by cases t <;> decide)
    exact ⟨_, p, rfl, h1, h2, by cases t <;> rfl, by cases t <;> decide, by cases t <;> decide⟩
  | _ => exact nomatch q
theorem sds_of (h : Ctx X G c k C) : ∀ {ts : List Ty} {ns : List Expr}, tysB c ts ns = true → TyNames X ns ts
  | [], [], _ => trivial
  | [], _ :: _, q => nomatch q
  | _ :: _, [], q => nomatch q
  | t :: ts, n :: ns, q => by
    unfold tysB at q
    rw [Bool.and_eq_true] at q
    exact ⟨sd_of h q.1, sds_of h q.2⟩
mutual
theorem mT_ok (h : Ctx X G c k C) : ∀ (t : Tg) (e : Expr), mT c t e = true → EvG X G e t
  | .nm i, e, q => by
    cases e with
    | Name x p =>
      unfold mT at q
      rw [Bool.and_eq_true, decide_eq_true_eq] at q
      obtain ⟨h1, h2⟩ := loc_of h q.2
      exact evg_name h.nd (by rw [h.N]; exact q.1) h1 h2
    | _ => unfold mT at q; cases q
  | .tp ts, e, q => by
    cases e with
    | Tuple es kk p =>
      unfold mT at q
      rw [Bool.and_eq_true, Bool.and_eq_true, decide_eq_true_eq] at q
      exact evg_tup h.hK h.calm (mTs_ok h ts es q.1.1 q.1.2) q.1.2 q.2
    | _ => unfold mT at q; cases q
theorem mTs_ok (h : Ctx X G c k C) : ∀ (ts : Tgs) (es : List Expr), mTs c ts es = true → es.all noStar = true → EvGs X G es ts
  | .nil, [], _, _ => evgs_nil
  | .nil, _ :: _, q, _ => by unfold mTs at q; cases q
  | .cons _ _, [], q, _ => by unfold mTs at q; cases q
  | .cons t ts, e :: es, q, s => by
    unfold mTs at q
    rw [Bool.and_eq_true] at q
    rw [List.all_cons, Bool.and_eq_true] at s
    exact evgs_cons (mT_ok h t e q.1) (mTs_ok h ts es q.2 s.2) s.1
end
/-- what is known of a matched text -/
structure Snd (X : Cx) (G : Gw) (W : WX) (t : Ex) (e : Expr) (f : Rho → Mem → R D) : Prop where
  ev : EvE X G W e f
  tv : EvT X G W e f
  fv : frsB t = true → EvF X G W e f
  wv : ∀ op xs p, e = .BoolOp op xs p → EvW X G W e f
theorem Snd.mk' {t : Ex} {e : Expr} {f : Rho → Mem → R D} (h : EvE X G W e f) (hf : frsB t = true → EvF X G W e f) (ht : ∀ whole, isTrue e X.env whole = (do let v ← whole; standAt e.pos; holding [v] (truthy v))) (hb : ∀ op xs p, e ≠ .BoolOp op xs p) : Snd X G W t e f :=
  ⟨h, ev_tst h ht, hf, fun op xs p z => absurd z (hb op xs p)⟩
theorem Snd.mkF {t : Ex} {e : Expr} {f : Rho → Mem → R D} (h : EvF X G W e f) (ht : ∀ whole, isTrue e X.env whole = (do let v ← whole; standAt e.pos; holding [v] (truthy v))) (hb : ∀ op xs p, e ≠ .BoolOp op xs p) : Snd X G W t e f :=
  Snd.mk' h.ev (fun _ => h) ht hb
def biKind : Bi → Value
  | .int => .type "int" | .str => .type "str" | .tuple => .type "tuple" | .list => .type "list"
  | b => .builtin (biN b)
theorem len_of : ∀ (es : Exs) (xs : List Expr) (o : Mem → R D), mEs c es xs = true → ∀ ρ m ds m', evEs C o es ρ m = .ok ds m' → ds.length = xs.length
  | .nil, [], o, _, ρ, m, ds, m', h => by unfold evEs at h; cases h; rfl
  | .nil, _ :: _, o, q, _, _, _, _, _ => by unfold mEs at q; cases q
  | .cons e es, [], o, q, _, _, _, _, _ => by unfold mEs at q; cases q
  | .cons e es, x :: xs, o, q, ρ, m, ds, m', h => by
    unfold mEs at q
    rw [Bool.and_eq_true] at q
    unfold evEs at h
    cases h1 : evE C o e ρ m with
    | bad => rw [h1] at h; cases h
    | ex _ _ _ => rw [h1] at h; cases h
    | ok d m1 =>
      rw [h1] at h
      dsimp only [R.bind] at h
      cases h2 : evEs C o es ρ m1 with
      | bad => rw [h2] at h; cases h
      | ex _ _ _ => rw [h2] at h; cases h
      | ok ds2 m2 =>
        rw [h2] at h
        dsimp only [R.bind] at h
        cases h
        rw [List.length_cons, List.length_cons, len_of es xs o q.2 ρ m1 ds2 _ h2]
theorem lenKV_of : ∀ (es : Kvs) (xs : List (Option Expr)) (ys : List Expr) (o : Mem → R D), mKV c es xs ys = true → (∀ ρ m p m', evKV C o es ρ m = .ok p m' → p.1.length = xs.length) ∧ xs.length = ys.length ∧ xs.all (·.isSome) = true
  | .nil, [], [], o, _ => ⟨fun ρ m p m' h => by unfold evKV at h; cases h; rfl, rfl, rfl⟩
  | .nil, _ :: _, _, o, q => by unfold mKV at q; cases q
  | .nil, [], _ :: _, o, q => by unfold mKV at q; cases q
  | .cons _ _ _, [], _, o, q => by unfold mKV at q; cases q
  | .cons _ _ _, none :: _, _, o, q => by unfold mKV at q; cases q
  | .cons _ _ _, some _ :: _, [], o, q => by unfold mKV at q; cases q
  | .cons k v r, some x :: xs, y :: ys, o, q => by
    unfold mKV at q
    rw [Bool.and_eq_true] at q
    obtain ⟨h1, h2, h3⟩ := lenKV_of r xs ys o q.2
    refine ⟨fun ρ m p m' h => ?_, by rw [List.length_cons, List.length_cons, h2], by rw [List.all_cons, h3]; rfl⟩
    unfold evKV at h
    cases e1 : evE C o k ρ m with
    | bad => rw [e1] at h; cases h
    | ex _ _ _ => rw [e1] at h; cases h
    | ok d m1 =>
      rw [e1] at h
      dsimp only [R.bind] at h
      cases e2 : evE C o v ρ m1 with
      | bad => rw [e2] at h; cases h
      | ex _ _ _ => rw [e2] at h; cases h
      | ok d2 m2 =>
        rw [e2] at h
        dsimp only [R.bind] at h
        cases e3 : evKV C o r ρ m2 with
        | bad => rw [e3] at h; cases h
        | ex _ _ _ => rw [e3] at h; cases h
        | ok p3 m3 =>
          rw [e3] at h
          dsimp only [R.bind] at h
          cases h
          rw [List.length_cons, List.length_cons, h1 ρ m2 p3 _ e3]
theorem stars_of : ∀ (es : Exs) (xs : List Expr), mEs c es xs = true → xs.all noStar = true
  | .nil, [], _ => rfl
  | .nil, _ :: _, q => by unfold mEs at q; cases q
  | .cons _ _, [], q => by unfold mEs at q; cases q
  | .cons e es, x :: xs, q => by
    unfold mEs at q
    rw [Bool.and_eq_true, Bool.and_eq_true] at q
    rw [List.all_cons, q.1.2, stars_of es xs q.2]; rfl
end
end EV

/-! A matched expression does what its tree comes to. -/
namespace EV
open PySem PySem.Spec PyProof.Rows L2
section
variable {G : Gw} {k : Nat} {C : Nat → List D → Mem → R D} {o : Mem → R D}
theorem evF_bi {X : Cx} {W : WX} {c : MC} (h : Ctx X G c k C) {b : Bi} {x : Str} {y : Expr} {ys : List Expr} {fs : Rho → Mem → R (List D)} {p pos : Pos} (hx : isBlt c x (biN b) = true) (hb : b ≠ .sortedItems) (ha : EvA X G W (y :: ys) fs) (hs : (y :: ys).all noStar = true) :
    EvF X G W (.Call (.Name x p) (y :: ys) [] pos) (fun ρ m => (fs ρ m).bind fun ds m1 => biD b ds m1) := by
  have hs' := hs
  rw [List.all_cons, Bool.and_eq_true] at hs'
  have hst := star_cons (es := ys) (env := X.env) hs'.1
  have hpl := plain_args (env := X.env) (pos := pos) hs'.2
  obtain ⟨rfl, hg, hm⟩ := blt_of h hx (by cases b <;> decide)
  cases b with
  | len => exact ev_bi (k := lenD) (c_len h.hK) hg hm (by rfl) ha (by decide) (by decide) hst hpl
  | all => exact ev_bi (k := allD) (c_all h.calm) hg hm (by rfl) ha (by decide) (by decide) hst hpl
  | any => exact ev_bi (k := anyD) (c_any h.calm) hg hm (by rfl) ha (by decide) (by decide) hst hpl
  | sum => exact ev_bi (k := sumD) (c_sum h.calm) hg hm (by rfl) ha (by decide) (by decide) hst hpl
  | abs => exact ev_bi (k := absD) c_abs hg hm (by rfl) ha (by decide) (by decide) hst hpl
  | int => exact ev_ty (k := intD) c_int hg hm (by rfl) ha (by decide) (by decide) hst hpl
  | str => exact ev_ty (k := strD) c_str hg hm (by rfl) ha (by decide) (by decide) hst hpl
  | repr => exact ev_bi (k := reprD) c_repr hg hm (by rfl) ha (by decide) (by decide) hst hpl
  | sorted => exact ev_bi (k := sortedD) (c_sorted h.hK h.units) hg hm (by rfl) ha (by decide) (by decide) hst hpl
  | tuple => exact ev_ty (k := tupleD) (c_tuple h.hK) hg hm (by rfl) ha (by decide) (by decide) hst hpl
  | list => exact ev_ty (k := listD) (c_list h.hK) hg hm (by rfl) ha (by decide) (by decide) hst hpl
  | max => exact ev_bi (k := maxD) (c_max h.calm) hg hm (by rfl) ha (by decide) (by decide) hst hpl
  | min => exact ev_bi (k := minD) (c_min h.calm) hg hm (by rfl) ha (by decide) (by decide) hst hpl
  | ord => exact ev_bi (k := ordD) c_ord hg hm (by rfl) ha (by decide) (by decide) hst hpl
  | sortedItems => exact absurd rfl hb
theorem evF_bm {X : Cx} {W : WX} {b : Bm} {n : Str} {a y : Expr} {ys : List Expr} {fa : Rho → Mem → R D} {fs : Rho → Mem → R (List D)} {ap pos : Pos} (hn : (match bmN b with | some z => decide (n = Str.ofString z) | none => false) = true) (ha : EvE X G W a fa) (hs : EvA X G W (y :: ys) fs) (hb : baseOk a = true) (hst : (y :: ys).all noStar = true) (hl : (y :: ys).length < 20) (hline : (ap.endLine == pos.line) = true) :
    EvF X G W (.Call (.Attribute a n ap) (y :: ys) [] pos) (fun ρ m => (fa ρ m).bind fun d m1 => if tyM b d m1 then (fs ρ m1).bind fun ds m2 => bmD b d ds m2 else .bad) := by
  cases b with
  | append =>
    cases of_decide_eq_true hn
    exact ev_bm (T := "list") (id := "list.append") PySem.F.plainAttrs_list PySem.F.slot_list_append PySem.F.type_list_append mt_app (fun d m v H μ τ h1 h2 h3 => tyV_list .append (by decide) h1 h2 h3) ha hs hb hst hl hline
  | extend =>
    cases of_decide_eq_true hn
    exact ev_bm (T := "list") (id := "list.extend") PySem.F.plainAttrs_list PySem.F.slot_list_extend PySem.F.type_list_extend mt_ext (fun d m v H μ τ h1 h2 h3 => tyV_list .extend (by decide) h1 h2 h3) ha hs hb hst hl hline
  | join =>
    cases of_decide_eq_true hn
    exact ev_bm (T := "str") (id := "str.join") PySem.F.plainAttrs_str PySem.F.slot_str_join PySem.F.type_str_join mt_joinD (fun d m v H μ τ h1 h2 h3 => tyV_str h1 h3) ha hs hb hst hl hline
  | _ => exact nomatch hn
theorem Snd.alc {X : Cx} {W : WX} {c : MC} {a : Ex} {e : Expr} (hf : frsB a = true) (hm : mE c a e = true) (h : Snd X G W a e (evE C o a)) : Snd X G W (.alc a) e (evE C o (.alc a)) := by
  have h1 : EvE X G W e (evE C o (.alc a)) := by
    have := (h.fv hf).alc
    exact PE.imp this fun σ H Q q => by
      obtain ⟨ρ, m, μ, τ, g, s, q⟩ := q
      unfold evE at q
      exact ⟨ρ, m, μ, τ, g, s, q⟩
  have hp : plainT e = true := by
    cases a <;> first | exact absurd hf Bool.false_ne_true | skip
    all_goals cases e <;> first | rfl | (exact absurd (show false = true from hm) Bool.false_ne_true) | skip
    all_goals (rename_i op _ _; cases op <;> first | rfl | (exact absurd (show false = true from hm) Bool.false_ne_true))
  refine Snd.mk' h1 (fun z => absurd z Bool.false_ne_true) ?_ ?_
  · intro whole
    cases e <;> first | rfl | exact absurd hp Bool.false_ne_true | skip
    rename_i op _ _
    cases op <;> first | rfl | exact absurd hp Bool.false_ne_true
  · intro op xs p z
    subst z
    exact absurd hp Bool.false_ne_true
mutual
theorem mE_ok : ∀ (t : Ex) (c : MC) (X : Cx) (W : WX) (e : Expr), Ctx X G c k C → Takes X W → mE c t e = true → Snd X G W t e (evE C o t)
  | .var i, c, X, W, e, h, tk, q => by
    cases e with
    | Name x p =>
      unfold mE at q
      unfold dbg at q
      simp only [Bool.and_eq_true, decide_eq_true_eq, Bool.not_eq_true', Bool.or_eq_false_iff] at q
      have r := ev_var (G := G) (W := W) (pos := p) (i := i) (by rw [h.N]; exact q.1.1) (vis_of h q.1.2) q.2.1 q.2.2
      refine Snd.mk' ?_ nofun (fun _ => rfl) (fun _ _ _ => nofun)
      exact r
    | _ => unfold mE at q; cases q
  | .lit z, c, X, W, e, h, tk, q => by
    cases e with
    | Constant z' j p =>
      unfold mE at q
      rw [decide_eq_true_eq] at q
      subst q
      refine Snd.mk' ?_ nofun (fun _ => rfl) (fun _ _ _ => nofun)
      exact ev_lit
    | _ => unfold mE at q; cases q
  | .glo x d, c, X, W, e, h, tk, q => by
    cases e with
    | Name y p =>
      unfold mE at q
      simp only [Bool.and_eq_true, decide_eq_true_eq] at q
      obtain ⟨⟨rfl, q1⟩, q2⟩ := q
      obtain ⟨g1, g2⟩ := gl_of h q1
      refine Snd.mk' ?_ nofun (fun _ => rfl) (fun _ _ _ => nofun)
      exact ev_glo g1 g2 (h.glo _ q2)
    | _ => unfold mE at q; cases q
  | .bin op a b, c, X, W, e, h, tk, q => by
    cases e with
    | BinOp l o' r p =>
      unfold mE at q
      simp only [Bool.and_eq_true, decide_eq_true_eq] at q
      obtain ⟨⟨rfl, q1⟩, q2⟩ := q
      have r : EvF X G W (.BinOp l op r p) _ := PE.imp (pe_op (op_binF h.hK op) (mE_ok a c X W l h tk q1).ev (mE_ok b c X W r h tk q2).ev) fun _ _ _ z => twoF (a := l) (b := r) z
      refine Snd.mkF ?_ (fun _ => rfl) (fun _ _ _ => nofun)
      exact r
    | _ => unfold mE at q; cases q
  | .neg a, c, X, W, e, h, tk, q => by
    cases e with
    | UnaryOp op x p =>
      cases op with
      | USub =>
        unfold mE at q
        refine Snd.mk' ?_ nofun (fun _ => rfl) (fun _ _ _ => nofun)
        exact ev_neg (mE_ok a c X W x h tk q).ev
      | _ => unfold mE at q; cases q
    | _ => unfold mE at q; cases q
  | .not a, c, X, W, e, h, tk, q => by
    cases e with
    | UnaryOp op x p =>
      cases op with
      | Not =>
        unfold mE at q
        have ih := mE_ok a c X W x h tk q
        refine ⟨?_, ?_, nofun, fun _ _ _ => nofun⟩
        · exact ev_not ih.ev
        · exact ev_notT ih.tv
      | _ => unfold mE at q; cases q
    | _ => unfold mE at q; cases q
  | .cmp op a b, c, X, W, e, h, tk, q => by
    cases e with
    | Compare l ops rs p =>
      match ops, rs, q with
      | [o'], [r], q =>
        unfold mE at q
        simp only [Bool.and_eq_true, decide_eq_true_eq, Bool.not_eq_true'] at q
        obtain ⟨⟨⟨rfl, q1⟩, q2⟩, q3⟩ := q
        have i1 := mE_ok a c X W l h tk q1
        have i2 := mE_ok b c X W r h tk q2
        refine ⟨?_, ?_, nofun, fun _ _ _ => nofun⟩
        · exact ev_cmp (op_cmpO h.hK h.units op) i1.ev i2.ev q3
        · exact ev_cmpT (op_cmpO h.hK h.units op) i1.ev i2.ev q3
      | [], _, q => unfold mE at q; cases q
      | [_], [], q => unfold mE at q; cases q
      | [_], _ :: _ :: _, q => unfold mE at q; cases q
      | _ :: _ :: _, _, q => unfold mE at q; cases q
    | _ => unfold mE at q; cases q
  | .cmp2 o1 o2 a b d, c, X, W, e, h, tk, q => by
    cases e with
    | Compare l ops rs p =>
      match ops, rs, q with
      | [p1, p2], [r, s], q =>
        unfold mE at q
        simp only [Bool.and_eq_true, decide_eq_true_eq, Bool.not_eq_true'] at q
        obtain ⟨⟨⟨⟨⟨rfl, rfl⟩, q1⟩, q2⟩, q3⟩, q4⟩ := q
        have i1 := mE_ok a c X W l h tk q1
        have i2 := mE_ok b c X W r h tk q2
        have i3 := mE_ok d c X W s h tk q3
        refine ⟨?_, ?_, nofun, fun _ _ _ => nofun⟩
        · exact PE.imp (pe_chain (op_cmpO h.hK h.units o1) (op_cmpO h.hK h.units o2) i1.ev i2.ev i3.ev q4) fun _ _ _ z => chain_inv z
        · refine PT.imp (pt_chain (op_cmpO h.hK h.units o1) (op_cmpO h.hK h.units o2) i1.ev i2.ev i3.ev q4) fun σ H Q z => ?_
          obtain ⟨ρ, m, μ, τ, g, s', z⟩ := z
          exact chain_inv ⟨ρ, m, μ, τ, g, s', tst_inv (RP := RD G τ) z⟩
      | [], _, q => unfold mE at q; cases q
      | [_], _, q => unfold mE at q; cases q
      | [_, _], [], q => unfold mE at q; cases q
      | [_, _], [_], q => unfold mE at q; cases q
      | [_, _], _ :: _ :: _ :: _, q => unfold mE at q; cases q
      | _ :: _ :: _ :: _, _, q => unfold mE at q; cases q
    | _ => unfold mE at q; cases q
  | .and a b, c, X, W, e, h, tk, q => by
    cases e with
    | BoolOp op xs p =>
      match op, xs, q with
      | .And, [x, y], q =>
        unfold mE at q
        rw [Bool.and_eq_true] at q
        have i1 := mE_ok a c X W x h tk q.1
        have i2 := mE_ok b c X W y h tk q.2
        have w := evw_and (pos := p) i1.tv (evw_and1 (pos := p) i2.tv)
        refine ⟨?_, ?_, nofun, fun _ _ _ _ => ?_⟩
        · exact ev_and i1.ev (ev_one i2.ev)
        · exact w.t
        · exact w
      | .And, x :: y :: z :: r, q =>
        unfold mE at q
        rw [Bool.and_eq_true] at q
        have i1 := mE_ok a c X W x h tk q.1
        have i2 := mE_ok b c X W _ h tk q.2
        have w := evw_and (pos := p) i1.tv (i2.wv _ _ _ rfl)
        refine ⟨?_, ?_, nofun, fun _ _ _ _ => ?_⟩
        · exact ev_and i1.ev i2.ev
        · exact w.t
        · exact w
      | .And, [], q => unfold mE at q; cases q
      | .And, [_], q => unfold mE at q; simp at q
      | .Or, _, q => unfold mE at q; cases q
    | _ => unfold mE at q; cases q
  | .or a b, c, X, W, e, h, tk, q => by
    cases e with
    | BoolOp op xs p =>
      match op, xs, q with
      | .Or, [x, y], q =>
        unfold mE at q
        rw [Bool.and_eq_true] at q
        have i1 := mE_ok a c X W x h tk q.1
        have i2 := mE_ok b c X W y h tk q.2
        have w := evw_or (pos := p) i1.tv (evw_or1 (pos := p) i2.tv)
        refine ⟨?_, ?_, nofun, fun _ _ _ _ => ?_⟩
        · exact ev_or i1.ev (ev_one i2.ev)
        · exact w.t
        · exact w
      | .Or, x :: y :: z :: r, q =>
        unfold mE at q
        rw [Bool.and_eq_true] at q
        have i1 := mE_ok a c X W x h tk q.1
        have i2 := mE_ok b c X W _ h tk q.2
        have w := evw_or (pos := p) i1.tv (i2.wv _ _ _ rfl)
        refine ⟨?_, ?_, nofun, fun _ _ _ _ => ?_⟩
        · exact ev_or i1.ev i2.ev
        · exact w.t
        · exact w
      | .Or, [], q => unfold mE at q; cases q
      | .Or, [_], q => unfold mE at q; simp at q
      | .And, _, q => unfold mE at q; cases q
    | _ => unfold mE at q; cases q
  | .ife t a b, c, X, W, e, h, tk, q => by
    cases e with
    | IfExp t' a' b' p =>
      unfold mE at q
      simp only [Bool.and_eq_true] at q
      have i1 := mE_ok t c X W t' h tk q.1.1
      have i2 := mE_ok a c X W a' h tk q.1.2
      have i3 := mE_ok b c X W b' h tk q.2
      refine ⟨?_, ?_, nofun, fun _ _ _ => nofun⟩
      · exact ev_ife i1.tv i2.ev i3.ev
      · exact ev_ifeT i1.tv i2.tv i3.tv
    | _ => unfold mE at q; cases q
  | .tup es, c, X, W, e, h, tk, q => by
    cases e with
    | Tuple xs kk p =>
      unfold mE at q
      rw [Bool.and_eq_true, decide_eq_true_eq] at q
      refine Snd.mk' ?_ nofun (fun _ => rfl) (fun _ _ _ => nofun)
      exact ev_tup (mEs_ok es c X W xs h tk q.1) fun ρ m ds m' z => by rw [len_of es xs o q.1 ρ m ds m' z]; exact q.2
    | _ => unfold mE at q; cases q
  | .lst es, c, X, W, e, h, tk, q => by
    cases e with
    | List xs p =>
      unfold mE at q
      rw [Bool.and_eq_true, decide_eq_true_eq] at q
      refine Snd.mkF ?_ (fun _ => rfl) (fun _ _ _ => nofun)
      exact ev_lst (mEs_ok es c X W xs h tk q.1) fun ρ m ds m' z => by rw [len_of es xs o q.1 ρ m ds m' z]; exact q.2
    | _ => unfold mE at q; cases q
  | .dsp ks, c, X, W, e, h, tk, q => by
    cases e with
    | Dict keys vals p =>
      unfold mE at q
      rw [Bool.and_eq_true, decide_eq_true_eq] at q
      obtain ⟨l1, l2, l3⟩ := lenKV_of ks keys vals o q.1
      refine Snd.mkF ?_ (fun _ => rfl) (fun _ _ _ => nofun)
      by_cases h0 : keys = []
      · subst h0
        have : vals = [] := List.length_eq_zero_iff.mp l2.symm
        subst this
        cases ks with
        | cons _ _ _ => have z := q.1; unfold mKV at z; cases z
        | nil =>
          exact PE.imp (ev_dsp0 (G := G) (W := W)) fun σ H Q z => z
      · exact ev_dsp (mKV_ok ks c X W0 keys vals h takes0 q.1) l3 l2 h0 q.2 fun ρ m pr m' z => by rw [l1 ρ m pr m' z]; exact q.2
    | _ => unfold mE at q; cases q
  | .lcp own t it cd el, c, X, W, e, h, tk, q => by
    unfold mE at q
    split at q
    case h_2 => cases q
    rename_i elt tg iter ifs scope p he
    cases asLc_eq he
    simp only [Bool.and_eq_true] at q
    obtain ⟨⟨⟨⟨⟨⟨q1, q2⟩, q3⟩, q4⟩, q5⟩, q6⟩, q7⟩ := q
    refine Snd.mkF ?_ (fun _ => rfl) (fun _ _ _ => nofun)
    exact ev_lc h.calm h.nd (mI_ok it c X W tg iter h tk q1) (blkOk_by (by rw [h.N, h.sc]; exact q3)) (fun i hi => of_decide_eq_true (List.all_eq_true.mp q4 i hi)) (fun s H Ca cl fp => mT_ok (h.blk scope s H Ca cl fp) t tg q5) (fun s H Ca cl fp => mC_ok cd (blkOf c scope) _ W0 ifs (h.blk scope s H Ca cl fp) takes0 q6) (fun s H Ca cl fp => (mE_ok el (blkOf c scope) _ W0 elt (h.blk scope s H Ca cl fp) takes0 q7).ev) (fun x => noset_of q2 x)
  | .idx a b, c, X, W, e, h, tk, q => by
    cases e with
    | Subscript x i p =>
      unfold mE at q
      rw [Bool.and_eq_true, Bool.and_eq_true] at q
      refine Snd.mk' ?_ nofun (fun _ => rfl) (fun _ _ _ => nofun)
      exact ev_idx (ix_D h.hK h.units) (mE_ok a c X W x h tk q.1.1).ev (mE_ok b c X W i h tk q.1.2).ev (ix_plain q.2)
    | _ => unfold mE at q; cases q
  | .slc a lo hi, c, X, W, e, h, tk, q => by
    cases e with
    | Subscript x i p =>
      cases i with
      | Slice l u st p2 =>
        cases st with
        | none =>
          unfold mE at q
          rw [Bool.and_eq_true, Bool.and_eq_true] at q
          refine Snd.mkF ?_ (fun _ => rfl) (fun _ _ _ => nofun)
          exact ev_slc (sl_D h.hK) (mE_ok a c X W x h tk q.1.1).ev (mO_ok lo c X W l h tk q.1.2) (mO_ok hi c X W u h tk q.2)
        | some _ => unfold mE at q; cases q
      | _ => unfold mE at q; cases q
    | _ => unfold mE at q; cases q
  | .rev a, c, X, W, e, h, tk, q => by
    unfold mE at q
    split at q
    case h_2 => cases q
    rename_i he
    cases asRev_eq he
    refine Snd.mkF ?_ (fun _ => rfl) (fun _ _ _ => nofun)
    exact ev_rev (mE_ok a c X W _ h tk q).ev
  | .fld a f, c, X, W, e, h, tk, q => by unfold mE at q; cases q
  | .call f es, c, X, W, e, h, tk, q => by
    unfold mE at q
    split at q
    case h_2 => cases q
    rename_i x px y ys p he
    cases asCall_eq he
    simp only [Bool.and_eq_true] at q
    obtain ⟨⟨q1, q2⟩, q3⟩ := q
    split at q1
    case h_2 => cases q1
    rename_i fn hfn
    rw [decide_eq_true_eq] at q1
    subst q1
    obtain ⟨a, fd, ps, f1, f2, f3, f4⟩ := h.fns f fn hfn
    obtain ⟨g1, g2⟩ := gl_of h q2
    have hs := stars_of es (y :: ys) q3
    have hs' := hs
    rw [List.all_cons, Bool.and_eq_true] at hs'
    refine Snd.mk' ?_ nofun (fun _ => rfl) (fun _ _ _ => nofun)
    exact ev_call f4 h.room g1 f1 f2 f3 tk (mEs_ok es c X W (y :: ys) h tk q3) g2 (star_cons hs'.1) (plain_args hs'.2)
  | .cal0, c, X, W, e, h, tk, q => by unfold mE at q; cases q
  | .bi b es, c, X, W, e, h, tk, q => by
    unfold mE at q
    split at q
    case h_2 => cases q
    rename_i x px y ys p he
    cases asCall_eq he
    simp only [Bool.and_eq_true, decide_eq_true_eq] at q
    refine Snd.mkF ?_ (fun _ => rfl) (fun _ _ _ => nofun)
    exact evF_bi h q.1.1 q.1.2 (mEs_ok es c X W (y :: ys) h tk q.2) (stars_of es _ q.2)
  | .itm a, c, X, W, e, h, tk, q => by
    unfold mE at q
    split at q
    case h_2 => cases q
    rename_i x px y ys p he
    cases asCall_eq he
    simp only [Bool.and_eq_true] at q
    obtain ⟨⟨q0, q1⟩, q2⟩ := q
    split at q2
    case h_2 => cases q2
    rename_i o' n ap cp he2
    cases asMeth0_eq he2
    simp only [Bool.and_eq_true, decide_eq_true_eq] at q2
    obtain ⟨⟨⟨rfl, q3⟩, q4⟩, q5⟩ := q2
    cases List.isEmpty_iff.mp q1
    obtain ⟨rfl, hg, hm⟩ := blt_of h q0 (by decide)
    refine Snd.mkF ?_ (fun _ => rfl) (fun _ _ _ => nofun)
    exact ev_sortedItems h.hK h.calm h.units hg hm (mE_ok a c X W o' h tk q3).ev q4 q5
  | .bm b a es, c, X, W, e, h, tk, q => by
    unfold mE at q
    split at q
    case h_2 => cases q
    rename_i o' n ap y ys cp he
    cases asMeth_eq he
    simp only [Bool.and_eq_true] at q
    obtain ⟨⟨⟨⟨⟨q0, q1⟩, q2⟩, q3⟩, q4⟩, q5⟩ := q
    refine Snd.mk' ?_ nofun (fun _ => rfl) (fun _ _ _ => nofun)
    exact (evF_bm q0 (mE_ok a c X W o' h tk q1).ev (mEs_ok es c X W (y :: ys) h tk q3) q2 (stars_of es _ q3) (of_decide_eq_true q4) q5).ev
  | .isi a ts, c, X, W, e, h, tk, q => by
    unfold mE at q
    split at q
    case h_2 => cases q
    rename_i x px y ys p he
    cases asCall_eq he
    simp only [Bool.and_eq_true] at q
    obtain ⟨⟨⟨q0, q1⟩, q2⟩, q3⟩ := q
    obtain ⟨rfl, hg, hm⟩ := blt_of h q0 (by decide)
    refine Snd.mk' ?_ nofun (fun _ => rfl) (fun _ _ _ => nofun)
    split at q3
    case h_2 => cases q3
    split at q3
    · rename_i z ns kk pp hz
      cases asTup_eq hz
      rw [Bool.and_eq_true, decide_eq_true_eq] at q3
      exact ev_isiN h.hK hg hm (mE_ok a c X W y h tk q1).ev q2 (sds_of h q3.1) q3.2
    · split at q3
      case h_2 => cases q3
      exact ev_isi1 h.hK hg hm (mE_ok a c X W y h tk q1).ev q2 (sd_of h q3)
  | .alc a, c, X, W, e, h, tk, q => by
    have q' : mE c a e = true ∧ frsB a = true := by
      unfold mE at q
      rw [Bool.and_eq_true] at q
      exact q
    exact Snd.alc q'.2 q'.1 (mE_ok a c X W e h tk q'.1)
theorem mEs_ok : ∀ (es : Exs) (c : MC) (X : Cx) (W : WX) (xs : List Expr), Ctx X G c k C → Takes X W → mEs c es xs = true → EvA X G W xs (evEs C o es)
  | .nil, c, X, W, xs, h, tk, q => by
    cases xs with
    | nil => exact ev_nil
    | cons _ _ => unfold mEs at q; cases q
  | .cons e es, c, X, W, xs, h, tk, q => by
    cases xs with
    | nil => unfold mEs at q; cases q
    | cons x xs =>
      unfold mEs at q
      rw [Bool.and_eq_true, Bool.and_eq_true] at q
      exact ev_cons (mE_ok e c X W x h tk q.1.1).ev (mEs_ok es c X W xs h tk q.2) (star_cons q.1.2)
theorem mKV_ok : ∀ (ks : Kvs) (c : MC) (X : Cx) (W : WX) (xs : List (Option Expr)) (ys : List Expr), Ctx X G c k C → Takes X W → mKV c ks xs ys = true → EvKV X G W xs ys (evKV C o ks)
  | .nil, c, X, W, xs, ys, h, tk, q => by
    match xs, ys, q with
    | [], [], q => exact kv_nil
    | _ :: _, _, q => unfold mKV at q; cases q
    | [], _ :: _, q => unfold mKV at q; cases q
  | .cons a v r, c, X, W, xs, ys, h, tk, q => by
    match xs, ys, q with
    | some x :: xs, y :: ys, q =>
      unfold mKV at q
      rw [Bool.and_eq_true, Bool.and_eq_true] at q
      exact kv_cons (mE_ok a c X W x h tk q.1.1).ev (mE_ok v c X W y h tk q.1.2).ev (mKV_ok r c X W xs ys h tk q.2)
    | [], _, q => unfold mKV at q; cases q
    | none :: _, _, q => unfold mKV at q; cases q
    | some _ :: _, [], q => unfold mKV at q; cases q
theorem mO_ok : ∀ (t : Op) (c : MC) (X : Cx) (W : WX) (e : Option Expr), Ctx X G c k C → Takes X W → mO c t e = true → EvO X G W e (evO C o t)
  | .no, c, X, W, e, h, tk, q => by
    cases e with
    | none => exact ev_ono
    | some _ => unfold mO at q; cases q
  | .yes t, c, X, W, e, h, tk, q => by
    cases e with
    | none => unfold mO at q; cases q
    | some x => unfold mO at q; exact ev_oyes (mE_ok t c X W x h tk q).ev
theorem mC_ok : ∀ (t : Cd) (c : MC) (X : Cx) (W : WX) (es : List Expr), Ctx X G c k C → Takes X W → mC c t es = true → PTs X es (rdT G W (evC C o t))
  | .no, c, X, W, es, h, tk, q => by
    cases es with
    | nil => exact ⟨fun pins s σ H Q I z => pts_nil.run pins s σ H Q I (by
        obtain ⟨ρ, m, μ, τ, g, s, z⟩ := z
        unfold evC at z
        exact Pst.here z g rfl)⟩
    | cons _ _ => unfold mC at q; cases q
  | .yes t, c, X, W, es, h, tk, q => by
    match es, q with
    | [x], q =>
      unfold mC at q
      have := (mE_ok t c X W x h tk q).tv
      exact pts_one this
    | [], q => unfold mC at q; cases q
    | _ :: _ :: _, q => unfold mC at q; cases q
theorem mI_ok : ∀ (t : It) (c : MC) (X : Cx) (W : WX) (tg e : Expr), Ctx X G c k C → Takes X W → mI c tg t e = true → EvI X G W tg e (evI C o t)
  | .ex a, c, X, W, tg, e, h, tk, q => by
    unfold mI at q
    exact evi_ex h.hK (mE_ok a c X W e h tk q).ev
  | .rng1 a, c, X, W, tg, e, h, tk, q => by
    unfold mI at q
    split at q
    case h_2 => cases q
    rename_i x px y ys p he
    cases asCall_eq he
    simp only [Bool.and_eq_true] at q
    obtain ⟨⟨⟨q0, q1⟩, q2⟩, q3⟩ := q
    cases List.isEmpty_iff.mp q0
    obtain ⟨rfl, hg, hm⟩ := blt_of h q1 (by decide)
    exact evi_rng1 hg hm (mE_ok a c X W y h tk q2).ev q3
  | .rng2 a b, c, X, W, tg, e, h, tk, q => by
    unfold mI at q
    split at q
    case h_2 => cases q
    rename_i x px y ys p he
    cases asCall_eq he
    split at q
    case h_2 => cases q
    simp only [Bool.and_eq_true] at q
    obtain ⟨⟨⟨⟨q1, q2⟩, q3⟩, q4⟩, q5⟩ := q
    obtain ⟨rfl, hg, hm⟩ := blt_of h q1 (by decide)
    exact evi_rng2 hg hm (mE_ok a c X W _ h tk q2).ev (mE_ok b c X W _ h tk q4).ev q3 q5
  | .zip a b, c, X, W, tg, e, h, tk, q => by
    unfold mI at q
    split at q
    case h_2 => cases q
    rename_i x px y ys p he
    cases asCall_eq he
    split at q
    case h_2 => cases q
    simp only [Bool.and_eq_true] at q
    obtain ⟨⟨⟨⟨⟨q0, q1⟩, q2⟩, q3⟩, q4⟩, q5⟩ := q
    obtain ⟨⟨es, kk, pt⟩, ht⟩ := Option.isSome_iff_exists.mp q0
    cases asTup_eq ht
    obtain ⟨rfl, hg, hm⟩ := blt_of h q1 (by decide)
    exact evi_zip h.hK hg hm (mE_ok a c X W _ h tk q2).ev (mE_ok b c X W _ h tk q4).ev q3 q5
  | .enm a, c, X, W, tg, e, h, tk, q => by
    unfold mI at q
    split at q
    case h_2 => cases q
    rename_i x px y ys p he
    cases asCall_eq he
    simp only [Bool.and_eq_true] at q
    obtain ⟨⟨⟨⟨q0, q00⟩, q1⟩, q2⟩, q3⟩ := q
    cases List.isEmpty_iff.mp q0
    obtain ⟨⟨es, kk, pt⟩, ht⟩ := Option.isSome_iff_exists.mp q00
    cases asTup_eq ht
    obtain ⟨rfl, hg, hm⟩ := blt_of h q1 (by decide)
    exact evi_enm hg hm (mE_ok a c X W _ h tk q2).ev q3
end
end
end EV

/-! A matched statement does what its tree comes to. -/
namespace EV
open PySem PySem.Spec PyProof.Rows L2
def fnK (c : MC) : Bool := match c.sc.kind with
  | .function => true
  | _ => false
def swB (c : MC) (y : Str) (py pos : Pos) (scope : Scope) : Bool := c.sc.names.lookup y == some .local && py.line == pos.line && !(scope.names.any fun (n, k) => n == y && (k == .local || k == .cell))
def asName : Expr → Option (Str × Pos)
  | .Name x p => some (x, p)
  | _ => none
theorem asName_eq {e : Expr} {x : Str} {p : Pos} (h : asName e = some (x, p)) : e = .Name x p := by
  unfold asName at h
  split at h
  · cases h; rfl
  · cases h
def asSub : Expr → Option (Expr × Expr × Pos)
  | .Subscript a b p => some (a, b, p)
  | _ => none
theorem asSub_eq {e a b : Expr} {p : Pos} (h : asSub e = some (a, b, p)) : e = .Subscript a b p := by
  unfold asSub at h
  split at h
  · cases h; rfl
  · cases h
def asN2 : List Expr → Option (Str × Pos × Str × Pos)
  | [.Name x px, .Name y py] => some (x, px, y, py)
  | _ => none
theorem asN2_eq {es : List Expr} {x y : Str} {px py : Pos} (h : asN2 es = some (x, px, y, py)) : es = [.Name x px, .Name y py] := by
  unfold asN2 at h
  split at h
  · cases h; rfl
  · cases h
def asN3 : List Expr → Option (Str × Pos × Str × Pos × Str × Pos)
  | [.Name x px, .Name y py, .Name z pz] => some (x, px, y, py, z, pz)
  | _ => none
theorem asN3_eq {es : List Expr} {x y z : Str} {px py pz : Pos} (h : asN3 es = some (x, px, y, py, z, pz)) : es = [.Name x px, .Name y py, .Name z pz] := by
  unfold asN3 at h
  split at h
  · cases h; rfl
  · cases h
def asgd : Stmt → Option (Expr × Expr × Pos)
  | .Assign [t] e p => some (t, e, p)
  | _ => none
theorem asgd_eq {s : Stmt} {t e : Expr} {p : Pos} (h : asgd s = some (t, e, p)) : s = .Assign [t] e p := by
  unfold asgd at h
  split at h
  · cases h; rfl
  · cases h
/-- the values of a swapped store -/
def parB (vs : List Expr) : Bool := vs.all noStar && !(vs.all (foldedForSure 8)) && !(vs.all (constantsAlone 8))
def lcOf : Ex → Bool
  | .lcp _ _ _ _ _ => true
  | .alc (.lcp _ _ _ _ _) => true
  | _ => false
mutual
def mS : MC → St → Stmt → Bool
  | c, .asg t e, s => (match asgd s with
    | some (tg, v, _) => mT c t tg && noStar tg && mE c e v && (match asName tg with
      | some (x, px) => (match asLc v with
        | some (_, _, _, _, scope, p) => fnK c && (if swB c x px p scope then lcOf e else true)
        | none => noSw v)
      | none => noSw v && (asTup v).isNone)
    | none => false)
  | c, .par is es, s => (match asgd s with
    | some (tg, v, _) => (match asTup tg, asTup v with
      | some (ts, _, _), some (vs, _, _) => fnK c && mEs c es vs && parB vs && (match is, asN2 ts, asN3 ts with
        | [i, j], some (x, px, y, py), _ => decide (c.N[i]? = some x) && decide (c.N[j]? = some y) && decide (i ≠ j) && decide (c.sc.names.lookup x = some .local) && decide (c.sc.names.lookup y = some .local) && (py.line == px.line) && decide (x ≠ y) && decide (vs.length = 2)
        | [i, j, l], _, some (x, px, y, py, z, pz) => decide (c.N[i]? = some x) && decide (c.N[j]? = some y) && decide (c.N[l]? = some z) && decide (i ≠ j) && decide (i ≠ l) && decide (j ≠ l) && decide (c.sc.names.lookup x = some .local) && decide (c.sc.names.lookup y = some .local) && decide (c.sc.names.lookup z = some .local) && (py.line == px.line) && (pz.line == px.line) && decide ([x, y, z].eraseDups.length = 3) && decide (vs.length = 3)
        | _, _, _ => false)
      | _, _ => false)
    | none => false)
  | c, .seti a i e, s => (match asgd s with
    | some (tg, v, _) => (match asSub tg with
      | some (o, ix, _) => mE c a o && mE c i ix && ixB ix && mE c e v && noSw v
      | none => false)
    | none => false)
  | c, .expr e, .Expr v _ => mE c e v && noSw v
  | c, .ret e, .Return (some v) _ => mE c e v
  | _, .retn, .Return none _ => true
  | c, .ifs t a b, .If t' a' b' _ => mE c t t' && mSs c a a' && mSs c b b'
  | c, .fors t it b, .For tg iter body [] _ => mT c t tg && mI c tg it iter && noSet iter && mSs c b body
  | c, .whl t b, .While t' body [] _ => mE c t t' && mSs c b body
  | _, .brk, .Break _ => true
  | _, .cnt, .Continue _ => true
  | _, .pas, .Pass _ => true
  | _, _, _ => false
def mSs : MC → Ss → List Stmt → Bool
  | _, .nil, [] => true
  | c, .cons s r, x :: xs => mS c s x && mSs c r xs
  | _, _, _ => false
end
section
variable {X : Cx} {G : Gw} {W : WX} {c : MC} {k w : Nat} {C : Nat → List D → Mem → R D} {o : Mem → R D}
theorem fnK_of (h : Ctx X G c k C) (q : fnK c = true) : X.env.scope.kind = .function := by
  unfold fnK at q
  rw [h.sc]
  split at q
  · assumption
  · cases q
theorem bk_of {env : Env} (h : env.scope.kind = .function) : env.blockKind = .function := by
  unfold Env.blockKind
  rw [h]; rfl
theorem sw_eq {elt : Expr} {gs : List Comprehension} {scope : Scope} {pos py : Pos} {y : Str} {l : Nat} (h : Ctx X G c k C) (hk : X.env.scope.kind = .function) : swapsWith (.ListComp elt gs scope pos) (some (.Name y py)) l X.env = pure (swB c y py pos scope) := by
  unfold swapsWith swB
  have e : X.env.kindOf y = c.sc.names.lookup y := by
    show X.env.scope.names.lookup y = _
    rw [h.sc]
  simp only [bk_of hk, e]
  rfl
theorem stars_any : ∀ {vs : List Expr}, vs.all noStar = true → (vs.any fun | .Starred .. => true | _ => false) = false
  | [], _ => rfl
  | v :: vs, h => by
    rw [List.all_cons, Bool.and_eq_true] at h
    rw [List.any_cons, stars_any h.2]
    cases v <;> first | rfl | exact nomatch h.1
theorem swp2 (h : Ctx X G c k C) (hk : X.env.scope.kind = .function) {x y : Str} {px py pt pt2 : Pos} {kt k2 : Nat} {vs : List Expr} (hx : c.sc.names.lookup x = some .local) (hy : c.sc.names.lookup y = some .local) (hl : (py.line == px.line) = true) (hne : x ≠ y) (hv : parB vs = true) (hlen : vs.length = 2) :
    swappedStores [.Tuple [.Name x px, .Name y py] kt pt] (.Tuple vs k2 pt2) X.env = pure (some [x, y]) := by
  unfold parB at hv
  simp only [Bool.and_eq_true, Bool.not_eq_true'] at hv
  obtain ⟨⟨h1, h2⟩, h3⟩ := hv
  have ex : X.env.kindOf x = some .local := by show X.env.scope.names.lookup x = _; rw [h.sc]; exact hx
  have ey : X.env.kindOf y = some .local := by show X.env.scope.names.lookup y = _; rw [h.sc]; exact hy
  have ed : ([x, y] : List Str).eraseDups.length = 2 := by
    have : (y == x) = false := beq_eq_false_iff_ne.mpr (fun z => hne z.symm)
    simp [List.eraseDups_cons, this]
  have hl' : py.line = px.line := by simpa using hl
  unfold swappedStores
  simp [hlen, bk_of hk, stars_any h1, ex, ey, hl', h2, h3, Expr.pos, ed]
  intro e he hm
  have hz := List.all_eq_true.mp h1 e he
  cases e <;> first | exact absurd hm Bool.false_ne_true | exact absurd hz Bool.false_ne_true
theorem swp3 (h : Ctx X G c k C) (hk : X.env.scope.kind = .function) {x y z : Str} {px py pz pt pt2 : Pos} {kt k2 : Nat} {vs : List Expr} (hx : c.sc.names.lookup x = some .local) (hy : c.sc.names.lookup y = some .local) (hz : c.sc.names.lookup z = some .local) (hl : (py.line == px.line) = true) (hl2 : (pz.line == px.line) = true) (ed : [x, y, z].eraseDups.length = 3) (hv : parB vs = true) (hlen : vs.length = 3) :
    swappedStores [.Tuple [.Name x px, .Name y py, .Name z pz] kt pt] (.Tuple vs k2 pt2) X.env = pure (some [x, y, z]) := by
  unfold parB at hv
  simp only [Bool.and_eq_true, Bool.not_eq_true'] at hv
  obtain ⟨⟨h1, h2⟩, h3⟩ := hv
  have ex : X.env.kindOf x = some .local := by show X.env.scope.names.lookup x = _; rw [h.sc]; exact hx
  have ey : X.env.kindOf y = some .local := by show X.env.scope.names.lookup y = _; rw [h.sc]; exact hy
  have ez : X.env.kindOf z = some .local := by show X.env.scope.names.lookup z = _; rw [h.sc]; exact hz
  have hl' : py.line = px.line := by simpa using hl
  have hl2' : pz.line = px.line := by simpa using hl2
  unfold swappedStores
  simp [hlen, bk_of hk, stars_any h1, ex, ey, ez, hl', hl2', h2, h3, Expr.pos, ed]
  intro e he hm
  have hq := List.all_eq_true.mp h1 e he
  cases e <;> first | exact absurd hm Bool.false_ne_true | exact absurd hq Bool.false_ne_true
/-- name = [..] where the name takes the list at once -/
theorem lc_st {own : List (Str × Nat)} {t : Tg} {it : It} {cd : Cd} {el : Ex} {v elt tg iter : Expr} {ifs : List Expr} {scope : Scope} {p px spos : Pos} {x : Str} {i : Nat} (h : Ctx X G c k C) (tk : Takes X W) (hk : X.env.scope.kind = .function) (he : asLc v = some (elt, tg, iter, ifs, scope, p)) (q : mE c (.lcp own t it cd el) v = true) (hs : swB c x px p scope = true) (hi : X.N[i]? = some x) :
    ∃ te : TE, PS X (.Assign [.Name x px] v spos) (tAsg te (gName i)) ∧ ∀ σ H Q, rdF G W (evE C o (.lcp own t it cd el)) σ H Q → te σ H Q := by
  unfold mE at q
  rw [he] at q
  cases asLc_eq he
  simp only [Bool.and_eq_true] at q
  obtain ⟨⟨⟨⟨⟨⟨q1, q2⟩, q3⟩, q4⟩, q5⟩, q6⟩, q7⟩ := q
  have hyl : X.env.scope.names.lookup x = some .local := by
    unfold swB at hs
    simp only [Bool.and_eq_true, beq_iff_eq] at hs
    rw [h.sc]; exact hs.1.1
  refine ⟨_, ps_setLc h.calm h.nd hi hyl (by rw [sw_eq h hk, hs]) (mI_ok (o := o) it c X W tg iter h tk q1) (blkOk_by (own := own) (by rw [h.N, h.sc]; exact q3)) (fun s H Ca cl fp => mT_ok (h.blk scope s H Ca cl fp) t tg q5) (fun s H Ca cl fp => mC_ok (o := o) cd (blkOf c scope) _ W0 ifs (h.blk scope s H Ca cl fp) takes0 q6) (fun s H Ca cl fp => (mE_ok (o := o) el (blkOf c scope) _ W0 elt (h.blk scope s H Ca cl fp) takes0 q7).ev) (fun x => noset_of q2 x), fun σ H Q z => ?_⟩
  exact lc_in (fun i hi => of_decide_eq_true (List.all_eq_true.mp q4 i hi)) z
theorem lc_pair {e : Ex} {v elt tg iter : Expr} {ifs : List Expr} {scope : Scope} {p px spos : Pos} {x : Str} {i : Nat} (h : Ctx X G c k C) (tk : Takes X W) (hk : X.env.scope.kind = .function) (he : asLc v = some (elt, tg, iter, ifs, scope, p)) (q : mE c e v = true) (hl : lcOf e = true) (hs : swB c x px p scope = true) (hi : X.N[i]? = some x) :
    ∃ te : TE, PS X (.Assign [.Name x px] v spos) (tAsg te (gName i)) ∧ ∀ σ H Q, rdE G W (evE C o e) σ H Q → te σ H Q := by
  unfold lcOf at hl
  split at hl
  · obtain ⟨te, h1, h2⟩ := lc_st (o := o) (spos := spos) h tk hk he q hs hi
    exact ⟨te, h1, fun σ H Q ⟨ρ, m, μ, τ, g, s, z⟩ => h2 σ H Q ⟨ρ, m, μ, τ, g, s, PstF.of g z⟩⟩
  · rename_i own t it cd el
    have q' : mE c (.lcp own t it cd el) v = true ∧ frsB (.lcp own t it cd el) = true := by
      unfold mE at q
      rw [Bool.and_eq_true] at q
      exact q
    obtain ⟨te, h1, h2⟩ := lc_st (o := o) (spos := spos) h tk hk he q'.1 hs hi
    exact ⟨te, h1, fun σ H Q ⟨ρ, m, μ, τ, g, s, z⟩ => h2 σ H Q ⟨ρ, m, μ, τ, g, s, PstF.alc g z⟩⟩
  · cases hl
theorem lc_noTup {v : Expr} {r} (h : asLc v = some r) : noSw v = false := by
  obtain ⟨_, _, _, _, _, _⟩ := r
  cases asLc_eq h; rfl
theorem mS_asg {t : Tg} {e : Ex} {s : Stmt} (h : Ctx X G c k C) (tk : Takes X W) (q : mS c (.asg t e) s = true) : EvSt X G W s (exS C o w (.asg t e)) := by
  unfold mS at q
  split at q
  case h_2 => cases q
  rename_i tg v p hs
  cases asgd_eq hs
  simp only [Bool.and_eq_true] at q
  obtain ⟨⟨⟨q1, q2⟩, q3⟩, q4⟩ := q
  have iv := mE_ok (o := o) e c X W v h tk q3
  split at q4
  · rename_i x px hx
    cases asName_eq hx
    cases t with
    | tp ts => unfold mT at q1; cases q1
    | nm i =>
      unfold mT at q1
      rw [Bool.and_eq_true, decide_eq_true_eq] at q1
      obtain ⟨l1, l2⟩ := loc_of h q1.2
      have hi : X.N[i]? = some x := by rw [h.N]; exact q1.1
      split at q4
      · rename_i elt tg iter ifs scope pp hlc
        rw [Bool.and_eq_true] at q4
        have hk := fnK_of h q4.1
        by_cases hb : swB c x px pp scope = true
        · rw [if_pos hb] at q4
          obtain ⟨te, z1, z2⟩ := lc_pair (o := o) (W := W) (spos := p) h tk hk hlc q3 q4.2 hb hi
          exact st_asgLc z1 z2
        · refine st_asg h.nd hi l1 l2 iv.ev ?_
          cases asLc_eq hlc
          rw [sw_eq h hk]
          simp only [Bool.not_eq_true] at hb
          rw [hb]
      · exact st_asg h.nd hi l1 l2 iv.ev (sw_no q4)
  · rw [Bool.and_eq_true] at q4
    refine st_asgT (mT_ok h t tg q1) iv.ev q4.1 ?_ q2
    cases v <;> first | (cases tg <;> rfl) | exact absurd q4.2 Bool.false_ne_true
theorem mS_par {is : List Nat} {es : Exs} {s : Stmt} (h : Ctx X G c k C) (tk : Takes X W) (q : mS c (.par is es) s = true) : EvSt X G W s (exS C o w (.par is es)) := by
  unfold mS at q
  split at q
  case h_2 => cases q
  rename_i tg v p hs
  cases asgd_eq hs
  split at q
  case h_2 => cases q
  rename_i ts kt pt vs k2 pt2 h1 h2
  cases asTup_eq h1
  cases asTup_eq h2
  simp only [Bool.and_eq_true] at q
  obtain ⟨⟨⟨q0, q1⟩, q2⟩, q3⟩ := q
  have hk := fnK_of h q0
  have ia := mEs_ok (o := o) es c X W vs h tk q1
  split at q3
  · cases asN2_eq ‹asN2 _ = some _›
    simp only [Bool.and_eq_true, decide_eq_true_eq] at q3
    obtain ⟨⟨⟨⟨⟨⟨⟨z1, z2⟩, z3⟩, z4⟩, z5⟩, z6⟩, z7⟩, z8⟩ := q3
    have sw := swp2 (pt := pt) (pt2 := pt2) (kt := kt) (k2 := k2) h hk z4 z5 z6 z7 q2 z8
    obtain ⟨a, b, rfl⟩ : ∃ a b, vs = [a, b] := by
      match vs, z8 with
      | [a, b], _ => exact ⟨a, b, rfl⟩
    exact st_par2 h.calm h.nd (by rw [h.N]; exact z1) (by rw [h.N]; exact z2) z3 (by rw [h.sc]; exact z4) (by rw [h.sc]; exact z5) ia sw
  · cases asN3_eq ‹asN3 _ = some _›
    simp only [Bool.and_eq_true, decide_eq_true_eq] at q3
    obtain ⟨⟨⟨⟨⟨⟨⟨⟨⟨⟨⟨⟨z1, z2⟩, z3⟩, z4⟩, z5⟩, z6⟩, z7⟩, z8⟩, z9⟩, z10⟩, z11⟩, z12⟩, z13⟩ := q3
    have sw := swp3 (pt := pt) (pt2 := pt2) (kt := kt) (k2 := k2) h hk z7 z8 z9 z10 z11 z12 q2 z13
    obtain ⟨a, b, d, rfl⟩ : ∃ a b d, vs = [a, b, d] := by
      match vs, z13 with
      | [a, b, d], _ => exact ⟨a, b, d, rfl⟩
    exact st_par3 h.calm h.nd (by rw [h.N]; exact z1) (by rw [h.N]; exact z2) (by rw [h.N]; exact z3) z4 z5 z6 (by rw [h.sc]; exact z7) (by rw [h.sc]; exact z8) (by rw [h.sc]; exact z9) ia sw
  · cases q3
theorem mS_seti {a i e : Ex} {s : Stmt} (h : Ctx X G c k C) (tk : Takes X W) (q : mS c (.seti a i e) s = true) : EvSt X G W s (exS C o w (.seti a i e)) := by
  unfold mS at q
  split at q
  case h_2 => cases q
  rename_i tg v p hs
  cases asgd_eq hs
  split at q
  case h_2 => cases q
  rename_i b ix pp h1
  cases asSub_eq h1
  simp only [Bool.and_eq_true] at q
  obtain ⟨⟨⟨⟨q1, q2⟩, q3⟩, q4⟩, q5⟩ := q
  exact st_seti (by have := h.units; omega) (mE_ok (o := o) e c X W v h tk q4).ev (mE_ok (o := o) a c X W b h tk q1).ev (mE_ok (o := o) i c X W ix h tk q2).ev q5 (asg_sub q3)
mutual
theorem mS_ok (h : Ctx X G c k C) (tk : Takes X W) (hp : PassesOwn (model X.prog X.w) X.A X.env X.xe) : ∀ (st : St) (s : Stmt), mS c st s = true → EvSt X G W s (exS C o w st)
  | .asg t e, s, q => mS_asg h tk q
  | .par is es, s, q => mS_par h tk q
  | .seti a i e, s, q => mS_seti h tk q
  | .setf a f e, s, q => by unfold mS at q; cases q
  | .aug i op e, s, q => by unfold mS at q; cases q
  | .augf a f op e, s, q => by unfold mS at q; cases q
  | .expr e, s, q => by
    cases s with
    | Expr v p =>
      unfold mS at q
      rw [Bool.and_eq_true] at q
      exact st_expr (mE_ok (o := o) e c X W v h tk q.1).ev q.2
    | _ => unfold mS at q; cases q
  | .ret e, s, q => by
    cases s with
    | Return v p =>
      cases v with
      | some v =>
        unfold mS at q
        exact st_ret (mE_ok (o := o) e c X W v h tk q).ev
      | none => unfold mS at q; cases q
    | _ => unfold mS at q; cases q
  | .retn, s, q => by
    cases s with
    | Return v p =>
      cases v with
      | none => exact st_retn
      | some v => unfold mS at q; cases q
    | _ => unfold mS at q; cases q
  | .ifs t a b, s, q => by
    cases s with
    | If t' a' b' p =>
      unfold mS at q
      simp only [Bool.and_eq_true] at q
      exact st_if (mE_ok (o := o) t c X W t' h tk q.1.1).tv (mSs_ok h tk hp a a' q.1.2) (mSs_ok h tk hp b b' q.2)
    | _ => unfold mS at q; cases q
  | .fors t it b, s, q => by
    cases s with
    | For tg iter body orelse p =>
      cases orelse with
      | nil =>
        unfold mS at q
        simp only [Bool.and_eq_true] at q
        exact st_for hp h.calm (mI_ok (o := o) it c X W tg iter h tk q.1.1.2) (mT_ok h t tg q.1.1.1) (mSs_ok h tk hp b body q.2) (fun x => noset_of q.1.2 x)
      | cons _ _ => unfold mS at q; cases q
    | _ => unfold mS at q; cases q
  | .whl t b, s, q => by
    cases s with
    | While t' body orelse p =>
      cases orelse with
      | nil =>
        unfold mS at q
        rw [Bool.and_eq_true] at q
        exact st_whl w hp (mE_ok (o := o) t c X W t' h tk q.1).tv (mSs_ok h tk hp b body q.2)
      | cons _ _ => unfold mS at q; cases q
    | _ => unfold mS at q; cases q
  | .brk, s, q => by
    cases s with
    | Break p => exact st_brk
    | _ => unfold mS at q; cases q
  | .cnt, s, q => by
    cases s with
    | Continue p => exact st_cnt
    | _ => unfold mS at q; cases q
  | .pas, s, q => by
    cases s with
    | Pass p => exact st_pas
    | _ => unfold mS at q; cases q
theorem mSs_ok (h : Ctx X G c k C) (tk : Takes X W) (hp : PassesOwn (model X.prog X.w) X.A X.env X.xe) : ∀ (st : Ss) (s : List Stmt), mSs c st s = true → EvSs X G W s (exSs C o w st)
  | .nil, [], q => sts_nil
  | .nil, _ :: _, q => by unfold mSs at q; cases q
  | .cons _ _, [], q => by unfold mSs at q; cases q
  | .cons s r, x :: xs, q => by
    unfold mSs at q
    rw [Bool.and_eq_true] at q
    exact sts_cons (mS_ok h tk hp s x q.1) (mSs_ok h tk hp r xs q.2)
end
end
end EV

/-! Defs, the law. -/
namespace EV
open PySem PySem.Spec PyProof.Rows L2
section
variable {G : Gw} {W : WX} {σ : L2.St} {μ τ μ' τ' : List Addr} {H H' : Hp} {m m' : Mem} {Q : VK}
/-! ### behind a call -/
mutual
theorem Rep.bel : ∀ {d : D} {v : V}, Rep G μ τ H d v → bel μ.length d = true
  | .non, _, _ => rfl
  | .bl _, _, _ => rfl
  | .int _, _, _ => rfl
  | .str _, _, _ => rfl
  | .tup ds, v, r => by
    obtain ⟨a, vs, _, _, rs⟩ := r
    exact Reps.bel rs
  | .lst ds, v, r => by
    obtain ⟨a, vs, _, _, _, _, rs⟩ := r
    exact Reps.bel rs
  | .dic ks ds, v, r => by
    obtain ⟨a, vs, _, _, _, _, _, rs⟩ := r
    exact Reps.bel rs
  | .ref n, v, r => by
    obtain ⟨a, _, q⟩ := r
    exact decide_eq_true (List.getElem?_eq_some_iff.mp q).1
  | .fn, _, _ => rfl
  | .scr _, _, _ => rfl
theorem Reps.bel : ∀ {ds : List D} {vs : List V}, Reps G μ τ H ds vs → bels μ.length ds = true
  | [], _, _ => rfl
  | d :: ds, vs, r => by
    obtain ⟨v, r', _, p, rs⟩ := r
    show (EV.bel μ.length d && bels μ.length ds) = true
    rw [Rep.bel p, Reps.bel rs]; rfl
end
mutual
/-- what tells of old cells alone stands for the same with fewer cells -/
theorem Rep.less (hs : ∀ a, a ∈ μ → a ∈ μ') {k : Nat} (hp : ∀ n a, n < k → μ'[n]? = some a → μ[n]? = some a) : ∀ {d : D} {v : V}, bel k d = true → Rep G μ' τ H d v → Rep G μ τ H d v
  | .non, _, _, r => r
  | .bl _, _, _, r => r
  | .int _, _, _, r => r
  | .str _, _, _, r => r
  | .tup ds, v, b, r => by
    obtain ⟨a, vs, e, q, rs⟩ := r
    exact ⟨a, vs, e, q, Reps.less hs hp b rs⟩
  | .lst ds, v, b, r => by
    obtain ⟨a, vs, e, q, n1, n2, rs⟩ := r
    exact ⟨a, vs, e, q, fun z => n1 (hs a z), n2, Reps.less hs hp b rs⟩
  | .dic ks ds, v, b, r => by
    obtain ⟨a, vs, e, q, l, n1, n2, rs⟩ := r
    exact ⟨a, vs, e, q, l, fun z => n1 (hs a z), n2, Reps.less hs hp b rs⟩
  | .ref n, v, b, r => by
    obtain ⟨a, e, q⟩ := r
    exact ⟨a, e, hp n a (of_decide_eq_true b) q⟩
  | .fn, _, _, r => r
  | .scr ns, v, b, r => by
    obtain ⟨a, e, ⟨q, n1, n2⟩ | q⟩ := r
    · exact ⟨a, e, .inl ⟨q, fun z => n1 (hs a z), n2⟩⟩
    · exact ⟨a, e, .inr q⟩
theorem Reps.less (hs : ∀ a, a ∈ μ → a ∈ μ') {k : Nat} (hp : ∀ n a, n < k → μ'[n]? = some a → μ[n]? = some a) : ∀ {ds : List D} {vs : List V}, bels k ds = true → Reps G μ' τ H ds vs → Reps G μ τ H ds vs
  | [], _, _, r => r
  | d :: ds, vs, b, r => by
    obtain ⟨v, r', e, p, rs⟩ := r
    have b' : (bel k d && bels k ds) = true := b
    rw [Bool.and_eq_true] at b'
    exact ⟨v, r', e, Rep.less hs hp b'.1 p, Reps.less hs hp b'.2 rs⟩
end
theorem CellRep.less (hs : ∀ a, a ∈ μ → a ∈ μ') {k : Nat} (hp : ∀ n a, n < k → μ'[n]? = some a → μ[n]? = some a) {a : Addr} {c : Cell} (b : belC k c = true) (r : CellRep G μ' τ H a c) : CellRep G μ τ H a c := by
  cases c with
  | lst ds => obtain ⟨vs, h1, h2⟩ := r; exact ⟨vs, h1, h2.less hs hp b⟩
  | dic ks ds => obtain ⟨vs, h1, l, h2⟩ := r; exact ⟨vs, h1, l, h2.less hs hp b⟩
  | ins c ns ds => obtain ⟨dx, vs, h1, l, h2⟩ := r; exact ⟨dx, vs, h1, l, h2.less hs hp b⟩
theorem CellRep.bel {a : Addr} {c : Cell} (r : CellRep G μ τ H a c) : belC μ.length c = true := by
  cases c with
  | lst ds => obtain ⟨vs, h1, h2⟩ := r; exact h2.bel
  | dic ks ds => obtain ⟨vs, h1, l, h2⟩ := r; exact h2.bel
  | ins c ns ds => obtain ⟨dx, vs, h1, l, h2⟩ := r; exact h2.bel
theorem keep_inv {k : Nat} : ∀ {M m : Mem}, keepC k M m = true → M.length ≤ m.length ∧ ∀ (n : Nat) (c c' : Cell), M[n]? = some c → m[n]? = some c' → c = c' ∨ belC k c' = true
  | [], _, _ => ⟨Nat.zero_le _, fun n c c' e _ => by simp at e⟩
  | c :: M, [], h => by unfold keepC at h; cases h
  | c :: M, c' :: m, h => by
    unfold keepC at h
    rw [Bool.and_eq_true, Bool.or_eq_true, decide_eq_true_eq] at h
    obtain ⟨h1, h2⟩ := keep_inv h.2
    refine ⟨Nat.succ_le_succ h1, fun n d d' e e' => ?_⟩
    cases n with
    | zero =>
      simp at e e'
      subst e e'
      exact h.1
    | succ n => exact h2 n d d' (by simpa using e) (by simpa using e')
theorem gc_inv {r : R D} (g : Good G μ τ m H) (h : Pst G W σ μ τ H (RD G τ) (gcR m r) Q) : Pst G W σ μ τ H (RD G τ) r Q := by
  cases r with
  | bad => exact h
  | ex x p m1 => exact h
  | ok d m1 =>
    unfold gcR at h
    dsimp only at h
    by_cases hk : keepC m.length m m1 = true
    case neg => rw [if_neg hk] at h; exact h
    rw [if_pos hk] at h
    obtain ⟨hl, hkeep⟩ := keep_inv hk
    intro v H1 μ1 n1 g1 r1
    have hs : ∀ a, a ∈ μ → a ∈ μ1 := fun a z => n1.sub z
    have hp : ∀ n a, n < m.length → μ1[n]? = some a → μ[n]? = some a := fun n a hn e => by
      rw [← g.len] at hn
      have z := n1.pre n μ[n] (by simp [hn])
      rw [e] at z
      cases z
      simp [hn]
    have nx : Nxt μ τ H μ τ H1 := ⟨fun _ _ z => z, n1.keep, n1.tbl, fun a z => .inl z, fun a z => .inl z⟩
    have cells : ∀ (n : Nat) (c : Cell) (a : Addr), n < m.length → m1[n]? = some c → μ[n]? = some a → CellRep G μ τ H1 a c := fun n c a hn e1 e2 => by
      have e3 := n1.pre n a e2
      have cr := g1.cell n c a e1 e3
      refine cr.less hs hp ?_
      rcases hkeep n m[n] c (by simp [hn]) e1 with z | z
      · have := (g.cell n m[n] a (by simp [hn]) e2).bel
        rw [z, g.len] at this; exact this
      · exact z
    have g0 : Good G μ τ (m1.take m.length) H1 := by
      refine ⟨by rw [List.length_take, g.len]; omega, fun n c a e1 e2 => ?_, g.nodup, fun a z => ⟨(g.dis a z).1, (g1.dis a z).2⟩⟩
      have hn : n < m.length := by rw [← g.len]; exact (List.getElem?_eq_some_iff.mp e2).1
      rw [List.getElem?_take_of_lt hn] at e1
      exact cells n c a hn e1 e2
    by_cases hb : bel m.length d = true
    · rw [if_pos hb] at h
      exact h v H1 μ nx g0 (r1.less hs hp hb)
    · rw [if_neg hb] at h
      cases d with
      | ref n =>
        dsimp only at h
        cases hc : m1[n]? with
        | none => rw [hc] at h; exact h v H1 μ1 n1 g1 r1
        | some c =>
          rw [hc] at h
          dsimp only at h
          by_cases hcc : belC m.length c = true ∧ m.length ≤ n
          · rw [if_pos hcc] at h
            obtain ⟨a, rfl, ha⟩ := r1
            have hna : a ∉ μ := fun z => by
              obtain ⟨i, hi, e⟩ := List.getElem_of_mem z
              have e2 := n1.pre i a (by simp [hi, e])
              obtain ⟨h1, e1'⟩ := List.getElem?_eq_some_iff.mp e2
              obtain ⟨h2, e2'⟩ := List.getElem?_eq_some_iff.mp ha
              have := (List.getElem_inj g1.nodup).mp (e1'.trans e2'.symm)
              have := g.len
              omega
            have am : a ∈ μ1 := List.mem_of_getElem? ha
            have nw : H a = none := (n1.newM a am).resolve_left hna
            have hs2 : ∀ b, b ∈ μ ++ [a] → b ∈ μ1 := fun b z => by
              rcases List.mem_append.mp z with z | z
              · exact hs b z
              · rw [List.mem_singleton] at z; rw [z]; exact am
            have nx2 : Nxt μ τ H (μ ++ [a]) τ H1 := ⟨fun _ _ z => pre_snoc z, n1.keep, n1.tbl, fun b z => by
              rcases List.mem_append.mp z with z | z
              · exact .inl z
              · rw [List.mem_singleton] at z; rw [z]; exact .inr nw, fun b z => .inl z⟩
            have hp2 : ∀ n b, n < m.length → μ1[n]? = some b → (μ ++ [a])[n]? = some b := fun n b hn e => pre_snoc (hp n b hn e)
            refine h (.ref a) H1 (μ ++ [a]) nx2 ⟨?_, fun k cl b e1 e2 => ?_, ?_, fun b z => ⟨?_, (g1.dis b z).2⟩⟩ ⟨a, rfl, ?_⟩
            · rw [List.length_append, List.length_append, List.length_take, g.len, Nat.min_eq_left hl]; rfl
            · by_cases hk2 : k < m.length
              · have lt : k < (m1.take m.length).length := by rw [List.length_take]; omega
                rw [List.getElem?_append_left lt, List.getElem?_take_of_lt hk2] at e1
                rw [List.getElem?_append_left (by rw [g.len]; exact hk2)] at e2
                have e3 := n1.pre k b e2
                refine (g1.cell k cl b e1 e3).less hs2 hp2 ?_
                rcases hkeep k m[k] cl (by simp [hk2]) e1 with z | z
                · have := (g.cell k m[k] b (by simp [hk2]) e2).bel
                  rw [z, g.len] at this; exact this
                · exact z
              · have hk3 : k = m.length := by
                  have := (List.getElem?_eq_some_iff.mp e2).1
                  rw [List.length_append, g.len] at this
                  simp at this; omega
                subst hk3
                have hl2 : (m1.take m.length).length = m.length := by rw [List.length_take]; omega
                rw [List.getElem?_append_right (by rw [hl2]; exact Nat.le_refl _), hl2] at e1
                rw [List.getElem?_append_right (by rw [g.len]; exact Nat.le_refl _), g.len] at e2
                simp at e1 e2
                subst e1 e2
                exact (g1.cell n c a hc ha).less hs2 hp2 hcc.1
            · rw [List.nodup_append]
              refine ⟨g.nodup, by simp, fun b hb c hc => ?_⟩
              rw [List.mem_singleton] at hc
              subst hc
              exact fun z => hna (z ▸ hb)
            · rw [List.mem_append, List.mem_singleton, not_or]
              exact ⟨(g.dis b z).1, fun zz => (g1.dis b z).1 (zz ▸ am)⟩
            · rw [← g.len]; simp
          · rw [if_neg hcc] at h
            exact h v H1 μ1 n1 g1 r1
      | _ => exact h v H1 μ1 n1 g1 r1
/-! ### defs -/
theorem start_slots {n : Nat} {N : List Str} {ds : List D} {vs : List V} (rs : Reps G μ τ H ds vs) (hn : n = N.length) : Slots G μ τ H (startR n ds) (L2.start N vs) := by
  subst hn
  have l := rs.length
  refine ⟨by unfold startR L2.start; simp [l], fun i d e => ?_⟩
  unfold startR at e
  unfold L2.start
  by_cases hi : i < ds.length
  · rw [List.getElem?_append_left (by simpa using hi), List.getElem?_map] at e
    obtain ⟨d', e1, e2⟩ := Option.map_eq_some_iff.mp e
    cases e2
    obtain ⟨v, h1, h2⟩ := rs.get e1
    refine ⟨v, ?_, h2⟩
    rw [List.getElem?_append_left (by simpa [l] using hi), List.getElem?_map, h1]; rfl
  · rw [List.getElem?_append_right (by simpa using hi), List.getElem?_replicate] at e
    split at e <;> cases e
theorem ret_inv {E : XK} {o : O} (h : Pst G (fun c dd _ H' => E c dd H') [] μ τ H (RD G τ) (retO o) Q) : PstS G (fun c dd _ H' => E c dd H') μ τ H o { nx := fun _ H' => Q .non H', rt := Q } := by
  cases o with
  | nx ρ m => exact fun σ' H' μ' n g s => h .non H' μ' n g rfl
  | rt d m => exact h
  | ex x p ρ m => exact fun c dd σ' H' μ' n g e s => h c dd H' μ' n g e
  | bk ρ m => exact False.elim h
  | ct ρ m => exact False.elim h
  | bad => exact h
end
/-- a tree tells a def -/
structure RowOk (T : List Fn) (GK : List (Str × D)) (fn : Fn) (st : Stmt) (N ps : List Str) : Prop where
  np : fn.np = ps.length
  ns : fn.ns = N.length
  S : FnScope N ps (defScope st)
  body : mSs ⟨T, GK, N, defScope st, fun _ => true⟩ fn.body (defBody st) = true
section
variable {P : Program} {w : World} {K : PySem.W.Frag} {mg : Str → Option Value} {base : Heap} {G : Gw} {T : List Fn} {GK : List (Str × D)} {k wf : Nat} {C : Nat → List D → Mem → R D}
/-- what a table's def is in the memory -/
def DefOk (T : List Fn) (GK : List (Str × D)) (K : PySem.W.Frag) (fn : Fn) : Prop := ∃ st N ps f fd, RowOk T GK fn st N ps ∧ Fun K fn.name fn.name st f fd ∧ PySem.W.nsIn K mainGlobals fn.name = some (some (.ref f)) ∧ ∀ us : List Value, us.length = ps.length → bindArgs fd ⟨us, []⟩ = pure (ps.zip us)
def AtK (P : Program) (w : World) (K : PySem.W.Frag) (mg : Str → Option Value) (base : Heap) (G : Gw) (k : Nat) (C : Nat → List D → Mem → R D) (i : Nat) (f : Fn) : Prop :=
  ∃ (a : Addr) (fd : FuncData) (ps : List Str), mg f.name = some (.ref a) ∧ PySem.W.keepIn K (.ref a) = true ∧ Binds K fd ps [] ∧ FnOk P w K mg base (CX P w) k a fd ps (spD G (C i))
theorem spD_len {k : List D → Mem → R D} {n : Nat} (h : ∀ ds m, ds.length ≠ n → k ds m = .bad) (vs : List V) (H : Hp) (Q : VK) (E : XK) (q : spD G k vs H Q E) : vs.length = n := by
  obtain ⟨ds, m, μ, τ, g, rs, z⟩ := q
  by_cases hl : ds.length = n
  · rw [rs.length, hl]
  · rw [h ds m hl] at z
    exact False.elim z
theorem fn_level (hG : G.K = K) {i : Nat} {fn : Fn} {st : Stmt} {N ps : List Str} {f : Addr} {fd : FuncData} (hT : T[i]? = some fn) (R : RowOk T GK fn st N ps) (F : Fun K fn.name fn.name st f fd)
    (blt : ∀ x ∈ bltAll, mg (Str.ofString x) = none) (glo : ∀ p ∈ GK, ∃ u v, mg p.1 = some u ∧ RelV v u ∧ ∀ μ τ H, Rep G μ τ H p.2 v) (fns : ∀ (i : Nat) (f : Fn), T[i]? = some f → AtK P w K mg base G k (callAt T wf k) i f) :
    FnOk P w K mg base (CX P w) (k + 1) f fd ps (spD G (callAt T wf (k + 1) i)) := by
  have e : ∀ ds m, callAt T wf (k + 1) i ds m = runFn (callAt T wf k) wf fn ds m := fun ds m => by
    show (match T[i]? with | some fn => runFn (callAt T wf k) wf fn ds m | none => .bad) = _
    rw [hT]
  have hl : ∀ ds m, ds.length ≠ ps.length → callAt T wf (k + 1) i ds m = .bad := fun ds m z => by
    rw [e]
    unfold runFn
    rw [if_neg (by rw [R.np]; exact z)]
  refine F.okX R.S (spD_len hl) fun cdv A outer s H vs Q E hr ⟨ds, m, μ, τ, g, rs, h⟩ => ?_
  have ctx : Ctx (cxOf (CX P w) P w K mg base N fn.name (defScope st) f cdv A outer s H E) G ⟨T, GK, N, defScope st, fun _ => true⟩ k (callAt T wf k) :=
    ⟨hG, rfl, R.S.nd, hr, rfl, rfl, fun _ _ => rfl, blt, fun p hp => glo p hp, fun i f hf => fns i f hf⟩
  have tk : Takes (cxOf (CX P w) P w K mg base N fn.name (defScope st) f cdv A outer s H E) (fun cls d _ H' => E cls d H') := takes_of rfl rfl rfl rfl
  have hp := passes_of (X := cxOf (CX P w) P w K mg base N fn.name (defScope st) f cdv A outer s H E) rfl
  refine ⟨_, mSs_ok (o := fun _ => .bad) (w := wf) ctx tk hp fn.body (defBody st) R.body, startR fn.ns ds, m, μ, τ, g, start_slots rs R.ns, ?_⟩
  rw [e] at h
  unfold runFn at h
  by_cases hn : ds.length = fn.np
  · rw [if_pos hn] at h
    exact ret_inv (gc_inv g h)
  · rw [if_neg hn] at h
    exact False.elim h
theorem fns_ok (hG : G.K = K) (KB : K.In base) (NB : base.Ns mainGlobals mg) (hD : ∀ (i : Nat) (fn : Fn), T[i]? = some fn → DefOk T GK K fn)
    (blt : ∀ x ∈ bltAll, mg (Str.ofString x) = none) (glo : ∀ p ∈ GK, ∃ u v, mg p.1 = some u ∧ RelV v u ∧ ∀ μ τ H, Rep G μ τ H p.2 v) : ∀ (k : Nat) (i : Nat) (fn : Fn), T[i]? = some fn → AtK P w K mg base G k (callAt T wf k) i fn
  | 0, i, fn, hT => by
    obtain ⟨st, N, ps, f, fd, R, F, hn, hb⟩ := hD i fn hT
    refine ⟨f, fd, ps, PySem.W.mg_of KB NB hn, F.kp, .all hb, ⟨fun vs H Q E ⟨ds, m, μ, τ, g, rs, z⟩ => False.elim z, fun A outer s H args us vs Q E hr e0 hbi hv ⟨ds, m, μ, τ, g, rs, z⟩ => False.elim z⟩⟩
  | k + 1, i, fn, hT => by
    obtain ⟨st, N, ps, f, fd, R, F, hn, hb⟩ := hD i fn hT
    exact ⟨f, fd, ps, PySem.W.mg_of KB NB hn, F.kp, .all hb, fn_level hG hT R F blt glo (fns_ok hG KB NB hD blt glo k)⟩
def AllR (p : Fn → Prop) : List Fn → Prop
  | [] => True
  | a :: l => p a ∧ AllR p l
theorem AllR.get {p : Fn → Prop} : ∀ {l : List Fn} {i : Nat} {a : Fn}, AllR p l → l[i]? = some a → p a
  | [], _, _, _, h => by simp at h
  | x :: l, 0, a, h, e => by simp at e; subst e; exact h.1
  | x :: l, i + 1, a, h, e => AllR.get h.2 (by simpa using e)
theorem defOk_mk {fn : Fn} {st : Stmt} {N ps : List Str} {f : Addr} {oc : Value} {od an : Option Addr} {osl : Array (Option Value)} {kV doc pm cdv ct : Value} (R : RowOk T GK fn st N ps)
    (hb : ∀ (kV doc pm : Value) (an : Option Addr) (cdv ct : Value) (us : List Value), us.length = ps.length → bindArgs (PySem.W.fnOf fn.name fn.name (defArgs st) (defBody st) (defScope st) .none kV doc pm an cdv ct) ⟨us, []⟩ = pure (ps.zip us))
    (a : PySem.W.nsIn K mainGlobals fn.name = some (some (.ref f))) (l : K.lookup f = some ⟨oc, od, .func (PySem.W.fnOf fn.name fn.name (defArgs st) (defBody st) (defScope st) .none kV doc pm an cdv ct), osl⟩) (c : PySem.W.codeIn K cdv fn.name = true) (k : PySem.W.keepIn K (.ref f) = true) : DefOk T GK K fn := by
  have F := fun_mk (st := st) l c k
  exact ⟨st, N, ps, f, _, R, F, a, fun us hl => hb kV doc pm an cdv ct us hl⟩
/-- a constant of the top -/
def GVal (K : PySem.W.Frag) (mg : Str → Option Value) (x : Str) (d : D) : Prop := ∃ u v, mg x = some u ∧ RelV v u ∧ ∀ (G : Gw) μ τ H, G.K = K → Rep G μ τ H d v
def AllG (K : PySem.W.Frag) (mg : Str → Option Value) : List (Str × D) → Prop
  | [] => True
  | a :: l => GVal K mg a.1 a.2 ∧ AllG K mg l
theorem AllG.get {l : List (Str × D)} (h : AllG K mg l) : ∀ p ∈ l, GVal K mg p.1 p.2 := by
  induction l with
  | nil => intro p hp; simp at hp
  | cons a l ih =>
    intro p hp
    rcases List.mem_cons.mp hp with rfl | hp
    · exact h.1
    · exact ih h.2 p hp
def AllB (mg : Str → Option Value) : List String → Prop
  | [] => True
  | a :: l => mg (Str.ofString a) = none ∧ AllB mg l
theorem AllB.get {l : List String} (h : AllB mg l) : ∀ x ∈ l, mg (Str.ofString x) = none := by
  induction l with
  | nil => intro p hp; simp at hp
  | cons a l ih =>
    intro p hp
    rcases List.mem_cons.mp hp with rfl | hp
    · exact h.1
    · exact ih h.2 p hp
def theG (K : PySem.W.Frag) : Gw := ⟨K, fun _ => 0, fun _ => 0, fun _ => Str.ofString ""⟩
end
theorem cx_none {P : Program} {w : World} {outer : List Env} {H : Hp} {s : Shared} {e : Value} {s' : Shared} (h : L2.CX P w outer H s (fun _ _ _ => False) e s') : False := by
  obtain ⟨_, _, _, _, _, _, _, _, _, _, _, _, z⟩ := h
  exact z
mutual
/-- the written part's value u is the data d -/
def repK (K : PySem.W.Frag) : D → Value → Bool
  | .non, .none => true
  | .bl b, .bool c => b == c
  | .int i, .int j _ => decide (i = j)
  | .str x, .str y _ => decide (x = y) && sOk x
  | .tup ds, .ref a => match K.lookup a with
    | some o => (match o.cls with
      | .type n => decide (n = "tuple")
      | _ => false) && (match o.data with
      | .seq its _ => decide (its.size ≤ 100000) && repKs K ds its.toList
      | _ => false)
    | none => false
  | _, _ => false
def repKs (K : PySem.W.Frag) : List D → List Value → Bool
  | [], [] => true
  | d :: ds, u :: us => repK K d u && repKs K ds us
  | _, _ => false
end
mutual
theorem repK_ok {K : PySem.W.Frag} : ∀ (d : D) (u : Value), repK K d u = true → ∃ v, RelV v u ∧ ∀ (G : Gw) μ τ H, G.K = K → Rep G μ τ H d v
  | .non, u, h => by
    cases u <;> first | exact ⟨.non, rfl, fun _ _ _ _ _ => rfl⟩ | (unfold repK at h; cases h)
  | .bl b, u, h => by
    cases u with
    | bool c =>
      have e : b = c := by simpa [repK] using h
      subst e
      exact ⟨.bl b, rfl, fun _ _ _ _ _ => rfl⟩
    | _ => unfold repK at h; cases h
  | .int i, u, h => by
    cases u with
    | int j t =>
      have e : i = j := by simpa [repK] using h
      subst e
      exact ⟨.int i, ⟨t, rfl⟩, fun _ _ _ _ _ => rfl⟩
    | _ => unfold repK at h; cases h
  | .str x, u, h => by
    cases u with
    | str y t =>
      have e : x = y ∧ sOk x = true := by simpa [repK] using h
      obtain ⟨rfl, e⟩ := e
      exact ⟨.str x, ⟨t, rfl⟩, fun _ _ _ _ _ => ⟨rfl, e⟩⟩
    | _ => unfold repK at h; cases h
  | .tup ds, u, h => by
    cases u with
    | ref a =>
      unfold repK at h
      cases hk : K.lookup a with
      | none => rw [hk] at h; cases h
      | some o =>
        rw [hk] at h
        simp only [Bool.and_eq_true] at h
        obtain ⟨h1, h2⟩ := h
        cases hc : o.cls with
        | type n =>
          rw [hc] at h1
          have e := of_decide_eq_true h1
          subst e
          cases hd : o.data with
          | seq its n =>
            rw [hd] at h2
            simp only [Bool.and_eq_true, decide_eq_true_eq] at h2
            obtain ⟨vs, r1, r2⟩ := repKs_ok ds its.toList h2.2
            refine ⟨.ref a, rfl, fun G μ τ H e => ⟨a, vs, rfl, .inr ⟨o, its, n, e ▸ hk, hc, hd, ?_, r1⟩, r2 G μ τ H e⟩⟩
            have := h2.1
            rw [sizeLine_eq]; omega
          | _ => rw [hd] at h2; cases h2
        | _ => rw [hc] at h1; cases h1
    | _ => unfold repK at h; cases h
  | .lst _, u, h => by unfold repK at h; cases h
  | .dic _ _, u, h => by unfold repK at h; cases h
  | .ref _, u, h => by unfold repK at h; cases h
  | .fn, u, h => by unfold repK at h; cases h
  | .scr _, u, h => by unfold repK at h; cases h
theorem repKs_ok {K : PySem.W.Frag} : ∀ (ds : List D) (us : List Value), repKs K ds us = true → ∃ vs, Vals vs us ∧ ∀ (G : Gw) μ τ H, G.K = K → Reps G μ τ H ds vs
  | [], [], _ => ⟨[], .nil, fun _ _ _ _ _ => rfl⟩
  | [], _ :: _, h => by unfold repKs at h; cases h
  | _ :: _, [], h => by unfold repKs at h; cases h
  | d :: ds, u :: us, h => by
    unfold repKs at h
    rw [Bool.and_eq_true] at h
    obtain ⟨v, r1, r2⟩ := repK_ok d u h.1
    obtain ⟨vs, r3, r4⟩ := repKs_ok ds us h.2
    exact ⟨v :: vs, .cons r1 r3, fun G μ τ H e => .cons (r2 G μ τ H e) (r4 G μ τ H e)⟩
end
theorem gval_K {K : PySem.W.Frag} {mg : Str → Option Value} {h : Heap} {x : Str} {d : D} {u : Value} (X : K.In h) (N : h.Ns mainGlobals mg) (a : PySem.W.nsIn K mainGlobals x = some (some u)) (r : repK K d u = true) : GVal K mg x d := by
  obtain ⟨v, r1, r2⟩ := repK_ok d u r
  exact ⟨u, v, PySem.W.mg_of X N a, r1, r2⟩
theorem gval_L {K : PySem.W.Frag} {q : Program} {lv : List (Str × PySem.W.WData)} {mg : Str → Option Value} {h : Heap} {x : Str} {i : Int} (X : PySem.W.XL q lv mg h) (e : (x, PySem.W.WData.int i) ∈ lv) : GVal K mg x (.int i) := by
  obtain ⟨v, h1, h2⟩ := X.2.val _ e
  cases h2
  exact ⟨_, .int i, h1, ⟨_, rfl⟩, fun _ _ _ _ _ => rfl⟩
theorem gval_LS {K : PySem.W.Frag} {q : Program} {lv : List (Str × PySem.W.WData)} {mg : Str → Option Value} {h : Heap} {x y : Str} (X : PySem.W.XL q lv mg h) (e : (x, PySem.W.WData.str y) ∈ lv) (hs : sOk y = true) : GVal K mg x (.str y) := by
  obtain ⟨v, h1, h2⟩ := X.2.val _ e
  cases h2
  exact ⟨_, .str y, h1, ⟨_, rfl⟩, fun _ _ _ _ _ => ⟨rfl, hs⟩⟩
open PySem.W in
/-- THE LAW: what k_head leaves, from the table and from what the law's tree comes to -/
theorem law_by {l : OpenLaw} {n k iL wf : Nat} {q : Program} {loose : List Str} {XP : (Str → Option Value) → Heap → Prop} {YP : World → Heap → Prop} {d : DefRec} {K : Params → Frag} {T : List Fn} {GK : List (Str × D)} {fnL : Fn}
    (hn : l.most = some n) (hn2 : n ≤ sizeLine) (hdf : d.params.defaults = []) (hr : Room k callerA) (hY : ∀ (w : World) (h : Heap), YP w h → (K w.params).In h) (hL : T[iL]? = some fnL) (hLn : fnL.name = d.name) (hL1 : fnL.np = 1)
    (F : ∀ (w : World) (mg : Str → Option Value) (h : Heap), (K w.params).In h → h.Ns mainGlobals mg → XP mg h → AllR (DefOk T GK (K w.params)) T ∧ AllB mg bltAll ∧ AllG (K w.params) mg GK)
    (law : ∀ ns : List Int, ns.length ≤ n → ∃ m, callAt T wf k iL [.scr ns] [] = .ok (.bl true) m) : WalkO q loose XP YP l.row.toRowW d [] (fun f vs => PySem.call f vs) := by
  refine Att.attach_call hn hdf fun w s₀ s₁ mg mb fa o pm cd doc a vs ns Gr Yh ho hd hcd hmg hobj hints hlen hg => ?_
  have KX := hY w _ Yh
  obtain ⟨hD, hB, hGl⟩ := F w mg s₁.heap KX Gr.T.g Gr.X
  have glo : ∀ p ∈ GK, ∃ u v, mg p.1 = some u ∧ RelV v u ∧ ∀ μ τ H, Rep (theG (K w.params)) μ τ H p.2 v := fun p hp => by
    obtain ⟨u, v, h1, h2, h3⟩ := hGl.get p hp
    exact ⟨u, v, h1, h2, fun μ τ H => h3 (theG (K w.params)) μ τ H rfl⟩
  obtain ⟨st, N, ps, f, fd, R, Fu, hnf, hbf⟩ := hD.get hL
  have hf : mg fnL.name = some (.ref f) := PySem.W.mg_of KX Gr.T.g hnf
  have efa : f = fa := by
    rw [hLn, hmg] at hf
    cases hf; rfl
  subst efa
  obtain ⟨x, hps⟩ : ∃ x, ps = [x] := by
    have h1 : ps.length = 1 := by rw [← R.np]; exact hL1
    match ps, h1 with
    | [x], _ => exact ⟨x, rfl⟩
  subst hps
  have hbind : ∀ (s : Shared) (u : Value), BindsTo s fd ⟨[u], []⟩ [(x, u)] := fun s u => .of_eq (hbf [u] rfl)
  cases k with
  | zero =>
    obtain ⟨m, z⟩ := law [] (Nat.zero_le _)
    cases z
  | succ k =>
    refine law_call (sp := spD (theG (K w.params)) (callAt T wf (k + 1) iL)) KX Gr.T.g Gr.T.b Gr.T.builtins Gr.T.nolimit hg hobj hints (Nat.le_trans hlen hn2) hr (fun base KB NB => fn_level rfl hL R Fu hB.get glo (fns_ok (T := T) (GK := GK) rfl KB NB (fun i fn e => hD.get e) hB.get glo k)) hbind (fun H hO hS => ?_) fun H e s' h => cx_none h
    obtain ⟨m, z⟩ := law ns hlen
    refine ⟨[.scr ns], [], [], [], ⟨rfl, fun n c a h => by simp at h, List.nodup_nil, fun a h => by simp at h⟩, ?_, ?_⟩
    · refine .cons ⟨a, rfl, ?_⟩ .nil
      rcases hS with hS | hS
      · exact .inl ⟨hS, by simp, by simp⟩
      · exact .inr fun H' => .inr hS
    · rw [z]
      intro v H' μ' _ _ r
      exact r
end EV

/-! What a tree comes to, by what is wanted behind it. -/
namespace EV
open PySem PySem.Spec PyProof.Rows L2
/-- the result is there, as wanted -/
def Wr {α : Type} (r : R α) (Q : α → Mem → Prop) : Prop := match r with
  | .ok a m => Q a m
  | _ => False
@[simp] theorem Wr_ok {α : Type} (a : α) (m : Mem) (Q : α → Mem → Prop) : Wr (.ok a m) Q = Q a m := rfl
@[simp] theorem Wr_bad {α : Type} (Q : α → Mem → Prop) : Wr (.bad : R α) Q = False := rfl
@[simp] theorem Wr_ex {α : Type} (x : Nat) (p : Option D) (m : Mem) (Q : α → Mem → Prop) : Wr (.ex x p m : R α) Q = False := rfl
@[simp] theorem Wr_bind {α β : Type} (r : R α) (k : α → Mem → R β) (Q : β → Mem → Prop) : Wr (r.bind k) Q = Wr r fun a m => Wr (k a m) Q := by cases r <;> rfl
theorem Wr.imp {α : Type} {r : R α} {Q Q' : α → Mem → Prop} (h : Wr r Q) (q : ∀ a m, Q a m → Q' a m) : Wr r Q' := by
  cases r with
  | ok a m => exact q a m h
  | _ => exact h
@[simp] theorem Wr_of {α : Type} (o : Option α) (m : Mem) (Q : α → Mem → Prop) : Wr (R.of o m) Q = ∃ a, o = some a ∧ Q a m := by
  cases o <;> simp
@[simp] theorem Wr_calm {α : Type} (r : R α) (Q : α → Mem → Prop) : Wr (calmR r) Q = Wr r Q := by cases r <;> rfl
theorem Wr_if {α : Type} {c : Prop} [Decidable c] (a b : R α) (Q : α → Mem → Prop) : Wr (if c then a else b) Q = if c then Wr a Q else Wr b Q := by split <;> rfl
/-- of a statement: what is wanted where it goes on (N) and where it returns (T) -/
def Wo (o : O) (N : Rho → Mem → Prop) (T : D → Mem → Prop) : Prop := match o with
  | .nx ρ m => N ρ m
  | .rt d m => T d m
  | _ => False
@[simp] theorem Wo_nx (ρ : Rho) (m : Mem) (N : Rho → Mem → Prop) (T : D → Mem → Prop) : Wo (.nx ρ m) N T = N ρ m := rfl
@[simp] theorem Wo_rt (d : D) (m : Mem) (N : Rho → Mem → Prop) (T : D → Mem → Prop) : Wo (.rt d m) N T = T d m := rfl
@[simp] theorem Wo_bad (N : Rho → Mem → Prop) (T : D → Mem → Prop) : Wo .bad N T = False := rfl
@[simp] theorem Wo_go {α : Type} (r : R α) (ρ : Rho) (k : α → Mem → O) (N : Rho → Mem → Prop) (T : D → Mem → Prop) : Wo (r.go ρ k) N T = Wr r fun a m => Wo (k a m) N T := by cases r <;> rfl
@[simp] theorem Wo_then (o : O) (k : Rho → Mem → O) (N : Rho → Mem → Prop) (T : D → Mem → Prop) : Wo (o.then k) N T = Wo o (fun ρ m => Wo (k ρ m) N T) T := by cases o <;> rfl
@[simp] theorem Wo_test (r : R D) (ρ : Rho) (k : Bool → Mem → O) (N : Rho → Mem → Prop) (T : D → Mem → Prop) : Wo (O.test r ρ k) N T = Wr (tst r) fun b m => Wo (k b m) N T := by unfold O.test; exact Wo_go _ _ _ _ _
@[simp] theorem Wo_ofR (o : Option Rho) (m : Mem) (N : Rho → Mem → Prop) (T : D → Mem → Prop) : Wo (O.ofR o m) N T = ∃ ρ, o = some ρ ∧ N ρ m := by
  cases o <;> simp
@[simp] theorem Wo_ofM (o : Option Mem) (k : Mem → O) (N : Rho → Mem → Prop) (T : D → Mem → Prop) : Wo (O.ofM o k) N T = ∃ m, o = some m ∧ Wo (k m) N T := by
  cases o <;> simp
theorem Wo.imp {o : O} {N N' : Rho → Mem → Prop} {T T' : D → Mem → Prop} (h : Wo o N T) (hn : ∀ ρ m, N ρ m → N' ρ m) (ht : ∀ d m, T d m → T' d m) : Wo o N' T' := by
  cases o with
  | nx ρ m => exact hn ρ m h
  | rt d m => exact ht d m h
  | _ => exact h
@[simp] theorem Wr_tst (r : R D) (Q : Bool → Mem → Prop) : Wr (tst r) Q = Wr r fun d m => ∃ b, d = .bl b ∧ Q b m := by
  cases r with
  | ok d m =>
    cases d with
    | bl b => exact propext ⟨fun h => ⟨b, rfl, h⟩, fun ⟨_, e, h⟩ => by cases e; exact h⟩
    | _ => exact propext ⟨fun h => False.elim h, fun ⟨_, e, _⟩ => by cases e⟩
  | _ => rfl
@[simp] theorem Wr_both {α : Type} (r : R D) (k : Bool → Mem → R α) (Q : α → Mem → Prop) : Wr (bothD r k) Q = Wr r fun d m => ∃ b, d = .bl b ∧ Wr (k b m) Q := by
  unfold bothD
  rw [Wr_bind, Wr_tst]
theorem Wr_ret (o : O) (Q : D → Mem → Prop) (h : Wo o (fun _ m => Q .non m) Q) : Wr (retO o) Q := by
  cases o <;> exact h
/-- a call by its body, the cells as they were -/
theorem Wr_call {T : List Fn} {w k i : Nat} {fn : Fn} {ds : List D} {m : Mem} {Q : D → Mem → Prop} (hT : T[i]? = some fn) (hl : ds.length = fn.np) (h : Wo (exSs (callAt T w k) (fun _ => .bad) w fn.body (startR fn.ns ds) m) (fun _ m' => Wr (gcR m (.ok .non m')) Q) (fun d m' => Wr (gcR m (.ok d m')) Q)) : Wr (callAt T w (k + 1) i ds m) Q := by
  show Wr (match T[i]? with | some fn => runFn (callAt T w k) w fn ds m | none => .bad) Q
  rw [hT]
  show Wr (runFn (callAt T w k) w fn ds m) Q
  unfold runFn
  rw [if_pos hl]
  have : Wr (retO (exSs (callAt T w k) (fun _ => .bad) w fn.body (startR fn.ns ds) m)) (fun d m' => Wr (gcR m (.ok d m')) Q) := Wr_ret _ _ h
  revert this
  cases retO (exSs (callAt T w k) (fun _ => .bad) w fn.body (startR fn.ns ds) m) with
  | ok d m' => exact id
  | _ => exact id
theorem keepC_same : ∀ (n : Nat) (M more : Mem), keepC n M (M ++ more) = true
  | _, [], _ => rfl
  | n, c :: M, more => by
    show ((decide (c = c) || belC n c) && keepC n M (M ++ more)) = true
    rw [keepC_same n M more, decide_eq_true rfl]; rfl
/-- an immediate result, the cells as they were -/
theorem gc_same {m more : Mem} {d : D} {Q : D → Mem → Prop} (hb : bel m.length d = true) (h : Q d m) : Wr (gcR m (.ok d (m ++ more))) Q := by
  unfold gcR
  dsimp only
  rw [if_pos (keepC_same _ _ _), if_pos hb, Wr_ok, List.take_left']
  · exact h
  · rfl
theorem gc_same0 {m : Mem} {d : D} {Q : D → Mem → Prop} (hb : bel m.length d = true) (h : Q d m) : Wr (gcR m (.ok d m)) Q := by
  have := gc_same (m := m) (more := []) hb h
  rwa [List.append_nil] at this
theorem gc_self {m : Mem} {d : D} (hb : bel m.length d = true) : gcR m (.ok d m) = .ok d m := by
  unfold gcR
  have h1 := keepC_same m.length m []
  rw [List.append_nil] at h1
  dsimp only
  rw [if_pos h1, if_pos hb, List.take_length]
/-- a call whose body returns with the cells as they were -/
theorem call_eq {T : List Fn} {w k i : Nat} {fn : Fn} {ds : List D} {d : D} {m : Mem} (hT : T[i]? = some fn) (hl : ds.length = fn.np) (hb : bel m.length d = true) (h : exSs (callAt T w k) (fun _ => .bad) w fn.body (startR fn.ns ds) m = .rt d m) : callAt T w (k + 1) i ds m = .ok d m := by
  show (match T[i]? with | some fn => runFn (callAt T w k) w fn ds m | none => .bad) = _
  rw [hT]
  show runFn (callAt T w k) w fn ds m = _
  unfold runFn
  rw [if_pos hl, h]
  exact gc_self hb
/-- a comprehension whose turns keep the cells -/
theorem lcp_pure {q : Option (Nat × List D)} {tg : D → Rho → Option Rho} {cd : Rho → Mem → R Bool} {el : Rho → Mem → R D} {ρ : Rho} {m : Mem} {f : D → D} (hq : ckD q m = true) : ∀ (xs acc : List D), (∀ x ∈ xs, ∃ ρ', tg x ρ = some ρ' ∧ cd ρ' m = .ok true m ∧ el ρ' m = .ok (f x) m) → lcpL q tg cd el ρ xs acc m = .ok (.lst (acc ++ xs.map f)) m
  | [], acc, _ => by
    unfold lcpL
    rw [if_pos hq, List.map_nil, List.append_nil]
  | x :: xs, acc, h => by
    obtain ⟨ρ', h1, h2, h3⟩ := h x List.mem_cons_self
    unfold lcpL
    rw [if_pos hq, h1]
    dsimp only
    rw [h2]
    dsimp only [R.bind]
    rw [if_pos rfl, h3]
    dsimp only [R.bind]
    rw [lcp_pure hq xs (acc ++ [f x]) fun y hy => h y (List.mem_cons_of_mem _ hy), List.append_assoc]
    rfl
theorem allOf_map {α : Type} {f : D → Option α} {g : α → D} (h : ∀ a, f (g a) = some a) : ∀ as : List α, allOf f (as.map g) = some as
  | [] => rfl
  | a :: as => by
    rw [List.map_cons]
    unfold allOf
    rw [h a, allOf_map h as]
theorem allD_map {m : Mem} (bs : List Bool) : allD [.lst (bs.map .bl)] m = .ok (.bl (bs.all id)) m := by
  unfold allD
  dsimp only [lstOf, Option.bind]
  rw [allOf_map (f := isB) (g := .bl) fun _ => rfl]
theorem anyD_map {m : Mem} (bs : List Bool) : anyD [.lst (bs.map .bl)] m = .ok (.bl (bs.any id)) m := by
  unfold anyD
  dsimp only [lstOf, Option.bind]
  rw [allOf_map (f := isB) (g := .bl) fun _ => rfl]
theorem R.bind_assoc {α β γ : Type} (r : R α) (f : α → Mem → R β) (g : β → Mem → R γ) : (r.bind f).bind g = r.bind fun a m => (f a m).bind g := by cases r <;> rfl
theorem go_bind {α β : Type} (r : R α) (f : α → Mem → R β) (ρ : Rho) (g : β → Mem → O) : (r.bind f).go ρ g = r.go ρ fun a m => (f a m).go ρ g := by cases r <;> rfl
theorem then_go {α : Type} (r : R α) (ρ : Rho) (k : α → Mem → O) (h : Rho → Mem → O) : (r.go ρ k).then h = r.go ρ fun a m => (k a m).then h := by cases r <;> rfl
theorem then_then (o : O) (k h : Rho → Mem → O) : (o.then k).then h = o.then fun ρ m => (k ρ m).then h := by cases o <;> rfl
theorem tst_bindL {α : Type} (r : R α) (f : α → Mem → R D) : tst (r.bind f) = r.bind fun a m => tst (f a m) := by cases r <;> rfl
theorem both_bindL {α β : Type} (r : R α) (f : α → Mem → R D) (k : Bool → Mem → R β) : bothD (r.bind f) k = r.bind fun a m => bothD (f a m) k := by cases r <;> rfl
section
variable {C : Nat → List D → Mem → R D} {o : Mem → R D}
theorem rng_nat {i : Int} (n : Nat) (h : i.toNat = n) (h1 : -1 ≤ i) (h2 : i ≤ lim) : rngD 0 i = some ((List.range n).map fun (j : Nat) => D.int (0 + (j : Int))) := by
  unfold rngD
  have : (i : Int) ≤ 16777216 := h2
  rw [if_pos (by omega), Int.sub_zero, h]
/-- a comprehension over a range, its turns not looked into -/
theorem ev_lcpR {own : List (Str × Nat)} {t : Tg} {a e : Ex} {ρ : Rho} {m : Mem} {i : Int} (n : Nat) (ha : evE C o a ρ m = .ok (.int i) m) (hi : i.toNat = n) (h1 : -1 ≤ i) (h2 : i ≤ lim) :
    evE C o (.lcp own t (.rng1 a) .no e) ρ m = lcpL none (tgD t) (fun _ m => .ok true m) (fun ρ' m => calmR (evE C o e ρ' m)) (wipeR ρ (own.map (·.2))) ((List.range n).map fun (j : Nat) => D.int (0 + (j : Int))) [] m := by
  have e1 : evE C o (.lcp own t (.rng1 a) .no e) ρ m = ((evE C o a ρ m).bind fun d m1 => match d with | .int i => R.of ((rngD 0 i).map fun xs => (xs, none)) m1 | _ => .bad).bind fun xs m1 => if lim < xs.1.length then .bad else lcpL xs.2 (tgD t) (fun _ m => .ok true m) (fun ρ' m => calmR (evE C o e ρ' m)) (wipeR ρ (own.map (·.2))) xs.1 [] m1 := rfl
  rw [e1, ha]
  dsimp only [R.bind]
  rw [rng_nat n hi h1 h2]
  show (if lim < ((List.range n).map fun (j : Nat) => D.int (0 + (j : Int))).length then R.bad else _) = _
  rw [if_neg]
  rw [List.length_map, List.length_range]
  have : (i : Int) ≤ 16777216 := h2
  show ¬ 16777216 < n
  omega
/-- a comprehension over a list or a tuple -/
theorem ev_lcpS {own : List (Str × Nat)} {t : Tg} {a e : Ex} {ρ : Rho} {m : Mem} {d : D} {xs : List D} (ha : evE C o a ρ m = .ok d m) (hd : itsD m d = some xs) (hr : ∀ n, d ≠ .ref n) (hl : xs.length ≤ lim) :
    evE C o (.lcp own t (.ex a) .no e) ρ m = lcpL none (tgD t) (fun _ m => .ok true m) (fun ρ' m => calmR (evE C o e ρ' m)) (wipeR ρ (own.map (·.2))) xs [] m := by
  have e1 : evE C o (.lcp own t (.ex a) .no e) ρ m = ((evE C o a ρ m).bind fun d m1 => match d with
    | .ref n => match m1[n]? with
      | some (.lst xs) => .ok (xs, some (n, xs)) m1
      | _ => .bad
    | d => R.of ((itsD m1 d).map fun xs => (xs, none)) m1).bind fun xs m1 => if lim < xs.1.length then .bad else lcpL xs.2 (tgD t) (fun _ m => .ok true m) (fun ρ' m => calmR (evE C o e ρ' m)) (wipeR ρ (own.map (·.2))) xs.1 [] m1 := rfl
  rw [e1, ha]
  dsimp only [R.bind]
  have e2 : (match d with
    | .ref n => match m[n]? with
      | some (.lst xs) => R.ok (xs, some (n, xs)) m
      | _ => .bad
    | d => R.of ((itsD m d).map fun xs => (xs, (none : Option (Nat × List D)))) m) = R.ok (xs, none) m := by
    cases d with
    | ref n => exact absurd rfl (hr n)
    | _ => dsimp only; rw [hd]; rfl
  rw [e2]
  dsimp only
  rw [if_neg (Nat.not_lt.mpr hl)]
/-- ''.join(..) -/
theorem ev_join {es : Exs} {ρ : Rho} {m : Mem} : evE C o (.bm .join (.lit (.str (Str.ofString ""))) es) ρ m = (evEs C o es ρ m).bind fun ds m2 => joinD (.str (Str.ofString "")) ds m2 := by
  have e : evE C o (.bm .join (.lit (.str (Str.ofString ""))) es) ρ m = (evE C o (.lit (.str (Str.ofString ""))) ρ m).bind fun d m1 => if tyM .join d m1 then (evEs C o es ρ m1).bind fun ds m2 => bmD .join d ds m2 else .bad := rfl
  have e2 : evE C o (.lit (.str (Str.ofString ""))) ρ m = .ok (.str (Str.ofString "")) m := by
    show R.of (litD (.str (Str.ofString ""))) m = _
    rw [show litD (.str (Str.ofString "")) = some (.str (Str.ofString "")) from if_pos (sOk_of "")]
    rfl
  rw [e, e2]
  rfl
end
theorem Wo_turn {o : O} {k : Rho → Mem → O} {N : Rho → Mem → Prop} {T : D → Mem → Prop} (h : Wo o (fun ρ m => Wo (k ρ m) N T) T) : Wo (o.turn k) N T := by
  cases o <;> first | exact h | exact False.elim h
/-- a loop by its invariant -/
theorem for_wo {tg : D → Rho → Option Rho} {body : Rho → Mem → O} {T : D → Mem → Prop} {N : Rho → Mem → Prop} : ∀ (xs : List D) (I : Nat → Rho → Mem → Prop) (ρ : Rho) (m : Mem), I 0 ρ m → (∀ i x ρ m, xs[i]? = some x → I i ρ m → ∃ ρ', tg x ρ = some ρ' ∧ Wo (body ρ' m) (I (i + 1)) T) → (∀ ρ m, I xs.length ρ m → N ρ m) → Wo (forL none tg body xs ρ m) N T
  | [], I, ρ, m, h0, _, hn => by
    unfold forL
    exact hn ρ m h0
  | x :: xs, I, ρ, m, h0, hs, hn => by
    obtain ⟨ρ', h1, h2⟩ := hs 0 x ρ m rfl h0
    unfold forL
    rw [if_pos (show ckD none m = true from rfl), h1]
    refine Wo_turn (h2.imp (fun ρ2 m2 h => ?_) fun _ _ h => h)
    exact for_wo xs (fun i => I (i + 1)) ρ2 m2 h (fun i y ρ m e hi => hs (i + 1) y ρ m (by simpa using e) hi) fun ρ m h => hn ρ m h
section
variable {C : Nat → List D → Mem → R D} {o : Mem → R D} {w : Nat}
theorem ex_forS {t : Tg} {a : Ex} {b : Ss} {ρ : Rho} {m m1 : Mem} {d : D} {xs : List D} (ha : evE C o a ρ m = .ok d m1) (hd : itsD m1 d = some xs) (hr : ∀ n, d ≠ .ref n) :
    exS C o w (.fors t (.ex a) b) ρ m = forL none (tgD t) (fun ρ' m' => exSs C o w b ρ' m') xs ρ m1 := by
  have e1 : exS C o w (.fors t (.ex a) b) ρ m = ((evE C o a ρ m).bind fun d m1 => match d with
    | .ref n => match m1[n]? with
      | some (.lst xs) => .ok (xs, some (n, xs)) m1
      | _ => .bad
    | d => R.of ((itsD m1 d).map fun xs => (xs, none)) m1).go ρ fun xs m1 => forL xs.2 (tgD t) (fun ρ' m' => exSs C o w b ρ' m') xs.1 ρ m1 := rfl
  rw [e1, ha]
  dsimp only [R.bind]
  have e2 : (match d with
    | .ref n => match m1[n]? with
      | some (.lst xs) => R.ok (xs, some (n, xs)) m1
      | _ => .bad
    | d => R.of ((itsD m1 d).map fun xs => (xs, (none : Option (Nat × List D)))) m1) = R.ok (xs, none) m1 := by
    cases d with
    | ref n => exact absurd rfl (hr n)
    | _ => dsimp only; rw [hd]; rfl
  rw [e2]
  rfl
theorem wo_forS {t : Tg} {a : Ex} {b : Ss} {ρ : Rho} {m : Mem} {N : Rho → Mem → Prop} {T : D → Mem → Prop} (h : Wr (evE C o a ρ m) fun d m1 => ∃ xs, itsD m1 d = some xs ∧ (∀ n, d ≠ .ref n) ∧ Wo (forL none (tgD t) (fun ρ' m' => exSs C o w b ρ' m') xs ρ m1) N T) : Wo (exS C o w (.fors t (.ex a) b) ρ m) N T := by
  cases he : evE C o a ρ m with
  | bad => rw [he] at h; exact False.elim h
  | ex _ _ _ => rw [he] at h; exact False.elim h
  | ok d m1 =>
    rw [he] at h
    obtain ⟨xs, h1, h2, h3⟩ := h
    rw [ex_forS he h1 h2]
    exact h3
theorem wo_forR {t : Tg} {a : Ex} {b : Ss} {ρ : Rho} {m : Mem} {N : Rho → Mem → Prop} {T : D → Mem → Prop} {i : Int} (n : Nat) (ha : evE C o a ρ m = .ok (.int i) m) (hi : i.toNat = n) (h1 : -1 ≤ i) (h2 : i ≤ lim) (h : Wo (forL none (tgD t) (fun ρ' m' => exSs C o w b ρ' m') ((List.range n).map fun (j : Nat) => D.int (0 + (j : Int))) ρ m) N T) : Wo (exS C o w (.fors t (.rng1 a) b) ρ m) N T := by
  have e1 : exS C o w (.fors t (.rng1 a) b) ρ m = ((evE C o a ρ m).bind fun d m1 => match d with | .int i => R.of ((rngD 0 i).map fun xs => (xs, none)) m1 | _ => .bad).go ρ fun xs m1 => forL xs.2 (tgD t) (fun ρ' m' => exSs C o w b ρ' m') xs.1 ρ m1 := rfl
  rw [e1, ha]
  dsimp only [R.bind]
  rw [rng_nat n hi h1 h2]
  exact h
end
end EV

/-! What is wanted behind a tree, node by node. -/
namespace EV
open PySem PySem.Spec PyProof.Rows L2
section
variable {C : Nat → List D → Mem → R D} {o : Mem → R D} {w : Nat} {ρ : Rho} {m : Mem} {Q : D → Mem → Prop} {a b c e : Ex} {es : Exs} {N : Rho → Mem → Prop} {T : D → Mem → Prop} {Qs : List D → Mem → Prop}
theorem w_var {i : Nat} : Wr (evE C o (.var i) ρ m) Q = (match ρ[i]? with | some (some d) => Q d m | _ => False) := by
  show Wr (match ρ[i]? with | some (some d) => R.ok d m | _ => .bad) Q = _
  cases ρ[i]? with
  | none => rfl
  | some d => cases d <;> rfl
theorem w_int {i : Int} : Wr (evE C o (.lit (.int i)) ρ m) Q = Q (.int i) m := rfl
theorem w_bool {i : Bool} : Wr (evE C o (.lit (.bool i)) ρ m) Q = Q (.bl i) m := rfl
theorem w_none : Wr (evE C o (.lit .none) ρ m) Q = Q .non m := rfl
theorem w_str {s : String} : Wr (evE C o (.lit (.str (Str.ofString s))) ρ m) Q = Q (.str (Str.ofString s)) m := by
  show Wr (R.of (litD (.str (Str.ofString s))) m) Q = _
  rw [show litD (.str (Str.ofString s)) = some (.str (Str.ofString s)) from if_pos (sOk_of s)]
  rfl
theorem w_glo {x : Str} {d : D} : Wr (evE C o (.glo x d) ρ m) Q = Q d m := rfl
theorem w_bin {op : Operator} : Wr (evE C o (.bin op a b) ρ m) Q = Wr (evE C o a ρ m) fun d m1 => Wr (evE C o b ρ m1) fun e m2 => Wr (binD op d e m2) Q := by
  show Wr ((evE C o a ρ m).bind fun d m1 => (evE C o b ρ m1).bind fun e m2 => binD op d e m2) Q = _
  simp only [Wr_bind]
theorem w_not : Wr (evE C o (.not a) ρ m) Q = Wr (evE C o a ρ m) fun d m1 => ∃ v, d = .bl v ∧ Q (.bl (!v)) m1 := by
  show Wr (bothD (evE C o a ρ m) fun b m1 => .ok (.bl (!b)) m1) Q = _
  simp only [Wr_both, Wr_ok]
theorem w_cmp {op : CmpOp} : Wr (evE C o (.cmp op a b) ρ m) Q = Wr (evE C o a ρ m) fun d m1 => Wr (evE C o b ρ m1) fun e m2 => ∃ v, cmpD op d e m2 = some v ∧ Q (.bl v) m2 := by
  show Wr ((evE C o a ρ m).bind fun d m1 => (evE C o b ρ m1).bind fun e m2 => R.of ((cmpD op d e m2).map .bl) m2) Q = _
  simp only [Wr_bind, Wr_of, Option.map_eq_some_iff]
  congr 1; funext d m1; congr 1; funext e m2
  refine propext ⟨?_, ?_⟩
  · rintro ⟨_, ⟨v, h, rfl⟩, q⟩; exact ⟨v, h, q⟩
  · rintro ⟨v, h, q⟩; exact ⟨_, ⟨v, h, rfl⟩, q⟩
theorem w_and : Wr (evE C o (.and a b) ρ m) Q = Wr (evE C o a ρ m) fun d m1 => ∃ v, d = .bl v ∧ if v then Wr (evE C o b ρ m1) Q else Q (.bl false) m1 := by
  show Wr (bothD (evE C o a ρ m) fun k m1 => if k then evE C o b ρ m1 else .ok (.bl false) m1) Q = _
  simp only [Wr_both, Wr_if, Wr_ok]
theorem w_or : Wr (evE C o (.or a b) ρ m) Q = Wr (evE C o a ρ m) fun d m1 => ∃ v, d = .bl v ∧ if v then Q (.bl true) m1 else Wr (evE C o b ρ m1) Q := by
  show Wr (bothD (evE C o a ρ m) fun k m1 => if k then .ok (.bl true) m1 else evE C o b ρ m1) Q = _
  simp only [Wr_both, Wr_if, Wr_ok]
theorem w_ife : Wr (evE C o (.ife c a b) ρ m) Q = Wr (evE C o c ρ m) fun d m1 => ∃ v, d = .bl v ∧ if v then Wr (evE C o a ρ m1) Q else Wr (evE C o b ρ m1) Q := by
  show Wr (bothD (evE C o c ρ m) fun k m1 => if k then evE C o a ρ m1 else evE C o b ρ m1) Q = _
  simp only [Wr_both, Wr_if]
theorem w_tup : Wr (evE C o (.tup es) ρ m) Q = Wr (evEs C o es ρ m) fun ds m1 => Q (.tup ds) m1 := by
  show Wr ((evEs C o es ρ m).bind fun ds m1 => .ok (.tup ds) m1) Q = _
  simp only [Wr_bind, Wr_ok]
theorem w_lst : Wr (evE C o (.lst es) ρ m) Q = Wr (evEs C o es ρ m) fun ds m1 => Q (.lst ds) m1 := by
  show Wr ((evEs C o es ρ m).bind fun ds m1 => .ok (.lst ds) m1) Q = _
  simp only [Wr_bind, Wr_ok]
theorem w_idx : Wr (evE C o (.idx a b) ρ m) Q = Wr (evE C o a ρ m) fun d m1 => Wr (evE C o b ρ m1) fun e m2 => ∃ v, idxD d e m2 = some v ∧ Q v m2 := by
  show Wr ((evE C o a ρ m).bind fun d m1 => (evE C o b ρ m1).bind fun e m2 => R.of (idxD d e m2) m2) Q = _
  simp only [Wr_bind, Wr_of]
theorem w_slc {lo hi : Op} : Wr (evE C o (.slc a lo hi) ρ m) Q = Wr (evE C o a ρ m) fun d m1 => Wr (evO C o lo ρ m1) fun l m2 => Wr (evO C o hi ρ m2) fun h m3 => ∃ v, slcD d l h m3 = some v ∧ Q v m3 := by
  show Wr ((evE C o a ρ m).bind fun d m1 => (evO C o lo ρ m1).bind fun l m2 => (evO C o hi ρ m2).bind fun h m3 => R.of (slcD d l h m3) m3) Q = _
  simp only [Wr_bind, Wr_of]
theorem w_no {Qo : Option Int → Mem → Prop} : Wr (evO C o .no ρ m) Qo = Qo none m := rfl
theorem w_yes {Qo : Option Int → Mem → Prop} : Wr (evO C o (.yes a) ρ m) Qo = Wr (evE C o a ρ m) fun d m1 => ∃ i, d = .int i ∧ Qo (some i) m1 := by
  show Wr ((evE C o a ρ m).bind fun d m1 => R.of (optI d) m1) Qo = _
  simp only [Wr_bind, Wr_of]
  congr 1; funext d m1
  refine propext ⟨?_, ?_⟩
  · rintro ⟨v, h, q⟩
    cases d <;> cases h
    exact ⟨_, rfl, q⟩
  · rintro ⟨i, rfl, q⟩; exact ⟨_, rfl, q⟩
theorem w_rev : Wr (evE C o (.rev a) ρ m) Q = Wr (evE C o a ρ m) fun d m1 => ∃ v, revD d m1 = some v ∧ Q v m1 := by
  show Wr ((evE C o a ρ m).bind fun d m1 => R.of (revD d m1) m1) Q = _
  simp only [Wr_bind, Wr_of]
theorem w_call {f : Nat} : Wr (evE C o (.call f es) ρ m) Q = Wr (evEs C o es ρ m) fun ds m1 => Wr (C f ds m1) Q := by
  show Wr ((evEs C o es ρ m).bind fun ds m1 => C f ds m1) Q = _
  simp only [Wr_bind]
theorem w_bi {f : Bi} : Wr (evE C o (.bi f es) ρ m) Q = Wr (evEs C o es ρ m) fun ds m1 => Wr (biD f ds m1) Q := by
  show Wr ((evEs C o es ρ m).bind fun ds m1 => biD f ds m1) Q = _
  simp only [Wr_bind]
theorem w_itm : Wr (evE C o (.itm a) ρ m) Q = Wr (evE C o a ρ m) fun d m1 => Wr (sortedItemsD [d] m1) Q := by
  show Wr ((evE C o a ρ m).bind fun d m1 => sortedItemsD [d] m1) Q = _
  simp only [Wr_bind]
theorem w_isi {ts : List Ty} : Wr (evE C o (.isi a ts) ρ m) Q = Wr (evE C o a ρ m) fun d m1 => ∃ v, isiD m1 d ts = some v ∧ Q (.bl v) m1 := by
  show Wr ((evE C o a ρ m).bind fun d m1 => R.of ((isiD m1 d ts).map .bl) m1) Q = _
  simp only [Wr_bind, Wr_of, Option.map_eq_some_iff]
  congr 1; funext d m1
  refine propext ⟨?_, ?_⟩
  · rintro ⟨_, ⟨v, h, rfl⟩, q⟩; exact ⟨v, h, q⟩
  · rintro ⟨v, h, q⟩; exact ⟨_, ⟨v, h, rfl⟩, q⟩
theorem w_alc : Wr (evE C o (.alc a) ρ m) Q = Wr (evE C o a ρ m) fun d m1 => Wr (alcD d m1) Q := by
  show Wr ((evE C o a ρ m).bind alcD) Q = _
  simp only [Wr_bind]
theorem w_nil : Wr (evEs C o .nil ρ m) Qs = Qs [] m := rfl
theorem w_cons : Wr (evEs C o (.cons e es) ρ m) Qs = Wr (evE C o e ρ m) fun d m1 => Wr (evEs C o es ρ m1) fun ds m2 => Qs (d :: ds) m2 := by
  show Wr ((evE C o e ρ m).bind fun d m1 => (evEs C o es ρ m1).bind fun ds m2 => .ok (d :: ds) m2) Qs = _
  simp only [Wr_bind, Wr_ok]
theorem w_lcpR {own : List (Str × Nat)} {t : Tg} (h : Wr (evE C o a ρ m) fun d m1 => ∃ i : Int, d = .int i ∧ -1 ≤ i ∧ i ≤ lim ∧ Wr (lcpL none (tgD t) (fun _ m => .ok true m) (fun ρ' m => calmR (evE C o e ρ' m)) (wipeR ρ (own.map (·.2))) ((List.range i.toNat).map fun (j : Nat) => D.int (0 + (j : Int))) [] m1) Q) : Wr (evE C o (.lcp own t (.rng1 a) .no e) ρ m) Q := by
  have e1 : evE C o (.lcp own t (.rng1 a) .no e) ρ m = ((evE C o a ρ m).bind fun d m1 => match d with | .int i => R.of ((rngD 0 i).map fun xs => (xs, none)) m1 | _ => .bad).bind fun xs m1 => if lim < xs.1.length then .bad else lcpL xs.2 (tgD t) (fun _ m => .ok true m) (fun ρ' m => calmR (evE C o e ρ' m)) (wipeR ρ (own.map (·.2))) xs.1 [] m1 := rfl
  rw [e1]
  cases he : evE C o a ρ m with
  | bad => rw [he] at h; exact False.elim h
  | ex _ _ _ => rw [he] at h; exact False.elim h
  | ok d m1 =>
    rw [he] at h
    obtain ⟨i, rfl, h1, h2, h3⟩ := h
    dsimp only [R.bind]
    rw [rng_nat i.toNat rfl h1 h2]
    show Wr (if lim < ((List.range i.toNat).map fun (j : Nat) => D.int (0 + (j : Int))).length then R.bad else _) Q
    rw [if_neg]
    · exact h3
    · rw [List.length_map, List.length_range]
      have : (i : Int) ≤ 16777216 := h2
      show ¬ 16777216 < i.toNat
      omega
theorem w_lcpS {own : List (Str × Nat)} {t : Tg} (h : Wr (evE C o a ρ m) fun d m1 => ∃ xs, itsD m1 d = some xs ∧ (∀ n, d ≠ .ref n) ∧ xs.length ≤ lim ∧ Wr (lcpL none (tgD t) (fun _ m => .ok true m) (fun ρ' m => calmR (evE C o e ρ' m)) (wipeR ρ (own.map (·.2))) xs [] m1) Q) : Wr (evE C o (.lcp own t (.ex a) .no e) ρ m) Q := by
  have e1 : evE C o (.lcp own t (.ex a) .no e) ρ m = ((evE C o a ρ m).bind fun d m1 => match d with
    | .ref n => match m1[n]? with
      | some (.lst xs) => .ok (xs, some (n, xs)) m1
      | _ => .bad
    | d => R.of ((itsD m1 d).map fun xs => (xs, none)) m1).bind fun xs m1 => if lim < xs.1.length then .bad else lcpL xs.2 (tgD t) (fun _ m => .ok true m) (fun ρ' m => calmR (evE C o e ρ' m)) (wipeR ρ (own.map (·.2))) xs.1 [] m1 := rfl
  rw [e1]
  cases he : evE C o a ρ m with
  | bad => rw [he] at h; exact False.elim h
  | ex _ _ _ => rw [he] at h; exact False.elim h
  | ok d m1 =>
    rw [he] at h
    obtain ⟨xs, h1, h2, h3, h4⟩ := h
    dsimp only [R.bind]
    have e2 : (match d with
      | .ref n => match m1[n]? with
        | some (.lst xs) => R.ok (xs, some (n, xs)) m1
        | _ => .bad
      | d => R.of ((itsD m1 d).map fun xs => (xs, (none : Option (Nat × List D)))) m1) = R.ok (xs, none) m1 := by
      cases d with
      | ref n => exact absurd rfl (h2 n)
      | _ => dsimp only; rw [h1]; rfl
    rw [e2]
    dsimp only
    rw [if_neg (Nat.not_lt.mpr h3)]
    exact h4
/-! statements -/
theorem w_asg {t : Tg} : Wo (exS C o w (.asg t e) ρ m) N T = Wr (evE C o e ρ m) fun d m1 => ∃ ρ', tgD t d ρ = some ρ' ∧ N ρ' m1 := by
  show Wo ((evE C o e ρ m).go ρ fun d m1 => O.ofR (tgD t d ρ) m1) N T = _
  simp only [Wo_go, Wo_ofR]
theorem w_par {is : List Nat} : Wo (exS C o w (.par is es) ρ m) N T = Wr (evEs C o es ρ m) fun ds m1 => ∃ ρ', setAll is ds ρ = some ρ' ∧ N ρ' m1 := by
  show Wo ((evEs C o es ρ m).go ρ fun ds m1 => O.ofR (setAll is ds ρ) m1) N T = _
  simp only [Wo_go, Wo_ofR]
theorem w_seti : Wo (exS C o w (.seti a b e) ρ m) N T = Wr (evE C o e ρ m) fun y m1 => Wr (evE C o a ρ m1) fun d m2 => Wr (evE C o b ρ m2) fun j m3 => ∃ m4, setD d j y m3 = some m4 ∧ N ρ m4 := by
  show Wo ((evE C o e ρ m).go ρ fun y m1 => (evE C o a ρ m1).go ρ fun d m2 => (evE C o b ρ m2).go ρ fun j m3 => O.ofM (setD d j y m3) fun m4 => .nx ρ m4) N T = _
  simp only [Wo_go, Wo_ofM, Wo_nx]
theorem w_expr : Wo (exS C o w (.expr e) ρ m) N T = Wr (evE C o e ρ m) fun _ m1 => N ρ m1 := by
  show Wo ((evE C o e ρ m).go ρ fun _ m1 => .nx ρ m1) N T = _
  simp only [Wo_go, Wo_nx]
theorem w_ret : Wo (exS C o w (.ret e) ρ m) N T = Wr (evE C o e ρ m) T := by
  show Wo ((evE C o e ρ m).go ρ fun d m1 => .rt d m1) N T = _
  simp only [Wo_go, Wo_rt]
theorem w_ifs {p q : Ss} : Wo (exS C o w (.ifs c p q) ρ m) N T = Wr (evE C o c ρ m) fun d m1 => ∃ v, d = .bl v ∧ if v then Wo (exSs C o w p ρ m1) N T else Wo (exSs C o w q ρ m1) N T := by
  show Wo (O.test (evE C o c ρ m) ρ fun k m1 => if k then exSs C o w p ρ m1 else exSs C o w q ρ m1) N T = _
  simp only [Wo_test, Wr_tst]
  congr 1; funext d m1; congr 1; funext v
  cases v <;> simp
theorem w_snil : Wo (exSs C o w .nil ρ m) N T = N ρ m := rfl
theorem w_scons {s : EV.St} {r : Ss} : Wo (exSs C o w (.cons s r) ρ m) N T = Wo (exS C o w s ρ m) (fun ρ1 m1 => Wo (exSs C o w r ρ1 m1) N T) T := by
  show Wo ((exS C o w s ρ m).then fun ρ1 m1 => exSs C o w r ρ1 m1) N T = _
  rw [Wo_then]
end
end EV

namespace K01
open PySem PySem.Spec PyProof.Rows L2 EV
def topS (n : Nat) : Stmt := PySem.Challenge.pw_chainclaims_k01_whole_names_places_and_s.main.body.getD n (.Pass ⟨0, 0, 0, 0⟩)
def b0 : Ss := (.cons (.ret (.and (.isi (.var 0) [.int]) (.not (.isi (.var 0) [.bool])))) .nil)
def b1 : Ss := (.cons (.ret (.and (.call 0 (.cons (.var 0) .nil)) (.cmp2 .LtE .LtE (.var 1) (.var 0) (.var 2)))) .nil)
def b2 : Ss := (.cons (.ifs (.or (.not (.isi (.var 0) [.str])) (.or (.not (.cmp2 .LtE .LtE (.lit (.int 1)) (.bi .len (.cons (.var 0) .nil)) (.glo (Str.ofString "MOST_LETTERS") (.int 8)))) (.cmp .In (.var 0) (.glo (Str.ofString "BOUND_WORDS") (.tup [(.str (Str.ofString "nil")), (.str (Str.ofString "new")), (.str (Str.ofString "free")), (.str (Str.ofString "if")), (.str (Str.ofString "else")), (.str (Str.ofString "while")), (.str (Str.ofString "keep")), (.str (Str.ofString "emp"))]))))) (.cons (.ret (.lit (.bool false))) .nil) .nil) (.cons (.ret (.bi .all (.cons (.lcp [((Str.ofString "sign"), 1)] (.nm 1) (.ex (.var 0)) .no (.cmp .In (.var 1) (.glo (Str.ofString "LETTERS") (.str (Str.ofString "abcdefghijklmnopqrstuvwxyz"))))) .nil))) .nil))
def b3 : Ss := (.cons (.ret (.or (.call 2 (.cons (.var 0) .nil)) (.and (.isi (.var 0) [.str]) (.cmp .Eq (.var 0) (.glo (Str.ofString "NIL") (.str (Str.ofString "nil"))))))) .nil)
def b4 : Ss := (.cons (.ret (.call 1 (.cons (.var 0) (.cons (.lit (.int 0)) (.cons (.bin .Sub (.glo (Str.ofString "MOST_PLACE") (.int 1000000000)) (.lit (.int 1))) .nil))))) .nil)
def b5 : Ss := (.cons (.ret (.and (.isi (.var 0) [.tuple]) (.cmp2 .LtE .LtE (.var 1) (.bi .len (.cons (.var 0) .nil)) (.var 2)))) .nil)
def b6 : Ss := (.cons (.ret (.bi .all (.cons (.lcp [((Str.ofString "at"), 1)] (.nm 1) (.rng1 (.bin .Sub (.bi .len (.cons (.var 0) .nil)) (.lit (.int 1)))) .no (.cmp .Lt (.idx (.var 0) (.var 1)) (.idx (.var 0) (.bin .Add (.var 1) (.lit (.int 1)))))) .nil))) .nil)
def b7 : Ss := (.cons (.ifs (.or (.not (.call 5 (.cons (.var 0) (.cons (.lit (.int 0)) (.cons (.glo (Str.ofString "MOST_NAMES") (.int 8)) .nil))))) (.not (.bi .all (.cons (.lcp [((Str.ofString "pair"), 1)] (.nm 1) (.ex (.var 0)) .no (.call 5 (.cons (.var 1) (.cons (.lit (.int 2)) (.cons (.lit (.int 2)) .nil))))) .nil)))) (.cons (.ret (.lit (.bool false))) .nil) .nil) (.cons (.ifs (.not (.bi .all (.cons (.lcp [((Str.ofString "pair"), 1)] (.nm 1) (.ex (.var 0)) .no (.and (.call 2 (.cons (.idx (.var 1) (.lit (.int 0))) .nil)) (.call 4 (.cons (.idx (.var 1) (.lit (.int 1))) .nil)))) .nil))) (.cons (.ret (.lit (.bool false))) .nil) .nil) (.cons (.ret (.call 6 (.cons (.lcp [((Str.ofString "pair"), 1)] (.nm 1) (.ex (.var 0)) .no (.idx (.var 1) (.lit (.int 0)))) .nil))) .nil)))
def b8 : Ss := (.cons (.ifs (.or (.not (.call 5 (.cons (.var 0) (.cons (.lit (.int 0)) (.cons (.glo (Str.ofString "MOST_CELLS") (.int 60)) .nil))))) (.not (.bi .all (.cons (.lcp [((Str.ofString "pair"), 1)] (.nm 1) (.ex (.var 0)) .no (.call 5 (.cons (.var 1) (.cons (.lit (.int 2)) (.cons (.lit (.int 2)) .nil))))) .nil)))) (.cons (.ret (.lit (.bool false))) .nil) .nil) (.cons (.ifs (.not (.bi .all (.cons (.lcp [((Str.ofString "pair"), 1)] (.nm 1) (.ex (.var 0)) .no (.and (.call 4 (.cons (.idx (.var 1) (.lit (.int 0))) .nil)) (.and (.call 4 (.cons (.idx (.var 1) (.lit (.int 1))) .nil)) (.cmp .Gt (.idx (.var 1) (.lit (.int 0))) (.lit (.int 0)))))) .nil))) (.cons (.ret (.lit (.bool false))) .nil) .nil) (.cons (.ret (.call 6 (.cons (.lcp [((Str.ofString "pair"), 1)] (.nm 1) (.ex (.var 0)) .no (.idx (.var 1) (.lit (.int 0)))) .nil))) .nil)))
def b9 : Ss := (.cons (.ret (.and (.call 5 (.cons (.var 0) (.cons (.lit (.int 2)) (.cons (.lit (.int 2)) .nil)))) (.and (.call 7 (.cons (.idx (.var 0) (.lit (.int 0))) .nil)) (.call 8 (.cons (.idx (.var 0) (.lit (.int 1))) .nil))))) .nil)
def b10 : Ss := (.cons (.asg (.nm 1) (.lcp [((Str.ofString "cell"), 2)] (.nm 2) (.ex (.slc (.var 0) .no (.yes (.lit (.int 63))))) .no (.bin .Mod (.bi .abs (.cons (.bi .int (.cons (.var 2) .nil)) .nil)) (.bin .Pow (.lit (.int 10)) (.lit (.int 60)))))) (.cons (.ret (.alc (.lst (.cons (.var 1) (.cons (.lit (.int 0)) (.cons (.lit (.int 0)) (.cons (.bin .Add (.lit (.int 6007)) (.bin .Mult (.lit (.int 13)) (.bi .len (.cons (.var 1) .nil)))) (.cons (.lit (.int 0)) .nil)))))))) .nil))
def b11 : Ss := (.cons (.ifs (.and (.cmp .Eq (.idx (.var 0) (.lit (.int 2))) (.lit (.int 0))) (.cmp .Lt (.idx (.var 0) (.lit (.int 1))) (.bi .len (.cons (.idx (.var 0) (.lit (.int 0))) .nil)))) (.cons (.asg (.nm 3) (.idx (.idx (.var 0) (.lit (.int 0))) (.idx (.var 0) (.lit (.int 1))))) (.cons (.seti (.var 0) (.lit (.int 1)) (.bin .Add (.idx (.var 0) (.lit (.int 1))) (.lit (.int 1)))) (.cons (.seti (.var 0) (.lit (.int 3)) (.bin .Mod (.bi .int (.cons (.bin .Add (.bin .Add (.bin .Mult (.idx (.var 0) (.lit (.int 3))) (.lit (.int 69621))) (.bin .Mult (.var 3) (.lit (.int 48271)))) (.lit (.int 47))) .nil)) (.lit (.int 2147483629)))) (.cons (.ifs (.cmp .GtE (.var 3) (.bin .Pow (.lit (.int 10)) (.lit (.int 18)))) (.cons (.seti (.var 0) (.lit (.int 2)) (.var 3)) .nil) .nil) .nil)))) .nil) (.cons (.ifs (.cmp .Gt (.idx (.var 0) (.lit (.int 2))) (.lit (.int 0))) (.cons (.asg (.nm 4) (.bin .Mod (.bi .int (.cons (.idx (.var 0) (.lit (.int 2))) .nil)) (.var 1))) (.cons (.seti (.var 0) (.lit (.int 2)) (.bin .FloorDiv (.idx (.var 0) (.lit (.int 2))) (.var 1))) (.cons (.ret (.var 4)) .nil))) .nil) (.cons (.seti (.var 0) (.lit (.int 4)) (.bin .Add (.idx (.var 0) (.lit (.int 4))) (.lit (.int 1)))) (.cons (.asg (.nm 2) (.bin .Mod (.bi .int (.cons (.bin .Mult (.bi .int (.cons (.bin .Add (.idx (.var 0) (.lit (.int 3))) (.bin .Mult (.lit (.int 7919)) (.idx (.var 0) (.lit (.int 4))))) .nil)) (.lit (.int 40692))) .nil)) (.lit (.int 2147483647)))) (.cons (.asg (.nm 2) (.bin .Mod (.bi .int (.cons (.bin .Mult (.var 2) (.bin .Add (.bin .FloorDiv (.var 2) (.lit (.int 1009))) (.lit (.int 69621)))) .nil)) (.lit (.int 2147483647)))) (.cons (.asg (.nm 2) (.bin .Mod (.bi .int (.cons (.bin .Mult (.var 2) (.bin .Add (.bin .FloorDiv (.var 2) (.lit (.int 2003))) (.lit (.int 40014)))) .nil)) (.lit (.int 2147483563)))) (.cons (.ret (.bin .Mod (.bi .int (.cons (.bin .FloorDiv (.var 2) (.lit (.int 16))) .nil)) (.var 1))) .nil)))))))
def b12 : Ss := (.cons (.ret (.idx (.var 1) (.call 11 (.cons (.var 0) (.cons (.bi .len (.cons (.var 1) .nil)) .nil))))) .nil)
def b13 : Ss := (.cons (.ifs (.isi (.var 1) [.tuple, .list]) (.cons (.ifs (.or (.cmp .NotEq (.isi (.var 0) [.tuple]) (.isi (.var 1) [.tuple])) (.not (.isi (.var 0) [.tuple, .list]))) (.cons (.ret (.lit (.bool false))) .nil) .nil) (.cons (.ret (.and (.cmp .Eq (.bi .len (.cons (.var 0) .nil)) (.bi .len (.cons (.var 1) .nil))) (.bi .all (.cons (.lcp [((Str.ofString "one"), 2), ((Str.ofString "other"), 3)] (.tp (.cons (.nm 2) (.cons (.nm 3) .nil))) (.zip (.var 0) (.var 1)) .no (.call 13 (.cons (.var 2) (.cons (.var 3) .nil)))) .nil)))) .nil)) .nil) (.cons (.ifs (.or (.cmp .Is (.var 1) (.lit .none)) (.isi (.var 1) [.bool])) (.cons (.ret (.ife (.cmp .Is (.var 1) (.lit .none)) (.cmp .Is (.var 0) (.lit .none)) (.and (.isi (.var 0) [.bool]) (.cmp .Eq (.bi .repr (.cons (.var 0) .nil)) (.bi .repr (.cons (.var 1) .nil)))))) .nil) .nil) (.cons (.ifs (.isi (.var 1) [.str]) (.cons (.ret (.and (.isi (.var 0) [.str]) (.cmp .Eq (.bi .repr (.cons (.var 0) .nil)) (.bi .repr (.cons (.var 1) .nil))))) .nil) .nil) (.cons (.ret (.and (.isi (.var 0) [.int]) (.and (.not (.isi (.var 0) [.bool])) (.cmp .Eq (.bi .repr (.cons (.var 0) .nil)) (.bi .repr (.cons (.var 1) .nil)))))) .nil))))
def b14 : Ss := (.cons (.ret (.and (.isi (.var 0) [.int]) (.and (.not (.isi (.var 0) [.bool])) (.cmp2 .LtE .Lt (.var 1) (.var 0) (.bin .Pow (.lit (.int 10)) (.lit (.int 9))))))) .nil)
def b15 : Ss := (.cons (.ifs (.or (.not (.isi (.var 0) [.str])) (.not (.cmp2 .LtE .LtE (.lit (.int 1)) (.bi .len (.cons (.var 0) .nil)) (.lit (.int 8))))) (.cons (.ret (.lit (.bool false))) .nil) .nil) (.cons (.ifs (.cmp .In (.var 0) (.lst (.cons (.lit (.str (Str.ofString "nil"))) (.cons (.lit (.str (Str.ofString "new"))) (.cons (.lit (.str (Str.ofString "free"))) (.cons (.lit (.str (Str.ofString "if"))) (.cons (.lit (.str (Str.ofString "else"))) (.cons (.lit (.str (Str.ofString "while"))) (.cons (.lit (.str (Str.ofString "keep"))) (.cons (.lit (.str (Str.ofString "emp"))) .nil)))))))))) (.cons (.ret (.lit (.bool false))) .nil) .nil) (.cons (.ret (.bi .all (.cons (.lcp [((Str.ofString "sign"), 1)] (.nm 1) (.ex (.var 0)) .no (.cmp .In (.var 1) (.lit (.str (Str.ofString "abcdefghijklmnopqrstuvwxyz"))))) .nil))) .nil)))
def b16 : Ss := (.cons (.ifs (.or (.not (.isi (.var 0) [.tuple])) (.cmp .Gt (.bi .len (.cons (.var 0) .nil)) (.var 1))) (.cons (.ret (.lit (.bool false))) .nil) .nil) (.cons (.ret (.bi .all (.cons (.lcp [((Str.ofString "pair"), 2)] (.nm 2) (.ex (.var 0)) .no (.and (.isi (.var 2) [.tuple]) (.cmp .Eq (.bi .len (.cons (.var 2) .nil)) (.lit (.int 2))))) .nil))) .nil))
def b17 : Ss := (.cons (.ifs (.not (.call 16 (.cons (.var 0) (.cons (.lit (.int 8)) .nil)))) (.cons (.ret (.lit (.bool false))) .nil) .nil) (.cons (.ifs (.not (.bi .all (.cons (.lcp [((Str.ofString "pair"), 2)] (.nm 2) (.ex (.var 0)) .no (.and (.call 15 (.cons (.idx (.var 2) (.lit (.int 0))) .nil)) (.call 14 (.cons (.idx (.var 2) (.lit (.int 1))) (.cons (.lit (.int 0)) .nil))))) .nil))) (.cons (.ret (.lit (.bool false))) .nil) .nil) (.cons (.ret (.bi .all (.cons (.lcp [((Str.ofString "at"), 1)] (.nm 1) (.rng1 (.bin .Sub (.bi .len (.cons (.var 0) .nil)) (.lit (.int 1)))) .no (.cmp .Lt (.idx (.idx (.var 0) (.var 1)) (.lit (.int 0))) (.idx (.idx (.var 0) (.bin .Add (.var 1) (.lit (.int 1)))) (.lit (.int 0))))) .nil))) .nil)))
def b18 : Ss := (.cons (.ifs (.not (.call 16 (.cons (.var 0) (.cons (.lit (.int 60)) .nil)))) (.cons (.ret (.lit (.bool false))) .nil) .nil) (.cons (.ifs (.not (.bi .all (.cons (.lcp [((Str.ofString "pair"), 2)] (.nm 2) (.ex (.var 0)) .no (.and (.call 14 (.cons (.idx (.var 2) (.lit (.int 0))) (.cons (.lit (.int 1)) .nil))) (.call 14 (.cons (.idx (.var 2) (.lit (.int 1))) (.cons (.lit (.int 0)) .nil))))) .nil))) (.cons (.ret (.lit (.bool false))) .nil) .nil) (.cons (.ret (.bi .all (.cons (.lcp [((Str.ofString "at"), 1)] (.nm 1) (.rng1 (.bin .Sub (.bi .len (.cons (.var 0) .nil)) (.lit (.int 1)))) .no (.cmp .Lt (.idx (.idx (.var 0) (.var 1)) (.lit (.int 0))) (.idx (.idx (.var 0) (.bin .Add (.var 1) (.lit (.int 1)))) (.lit (.int 0))))) .nil))) .nil)))
def b19 : Ss := (.cons (.ifs (.or (.not (.isi (.var 0) [.tuple])) (.cmp .NotEq (.bi .len (.cons (.var 0) .nil)) (.lit (.int 2)))) (.cons (.ret (.lit (.bool false))) .nil) .nil) (.cons (.ret (.and (.call 17 (.cons (.idx (.var 0) (.lit (.int 0))) .nil)) (.call 18 (.cons (.idx (.var 0) (.lit (.int 1))) .nil)))) .nil))
def b20 : Ss := (.cons (.ret (.bm .join (.lit (.str (Str.ofString ""))) (.cons (.lcp [((Str.ofString "k"), 2)] (.nm 2) (.rng1 (.var 1)) .no (.idx (.lit (.str (Str.ofString "abcdefghijklmnopqrstuvwxyz"))) (.call 11 (.cons (.var 0) (.cons (.lit (.int 26)) .nil))))) .nil))) .nil)
def b21 : Ss := (.cons (.ret (.call 20 (.cons (.var 0) (.cons (.bin .Add (.lit (.int 1)) (.call 11 (.cons (.var 0) (.cons (.lit (.int 8)) .nil)))) .nil)))) .nil)
def b22 : Ss := (.cons (.ret (.bi .max (.cons (.var 1) (.cons (.call 12 (.cons (.var 0) (.cons (.lst (.cons (.call 11 (.cons (.var 0) (.cons (.lit (.int 9)) .nil))) (.cons (.call 11 (.cons (.var 0) (.cons (.bin .Pow (.lit (.int 10)) (.lit (.int 9))) .nil))) (.cons (.bin .Sub (.bin .Pow (.lit (.int 10)) (.lit (.int 9))) (.lit (.int 1))) (.cons (.lit (.int 0)) (.cons (.lit (.int 1)) .nil)))))) .nil))) .nil)))) .nil)
def b23 : Ss := (.cons (.asg (.nm 3) (.alc (.dsp .nil))) (.cons (.fors (.nm 4) (.ex (.var 1)) (.cons (.seti (.var 3) (.var 4) (.call 22 (.cons (.var 0) (.cons (.var 2) .nil)))) .nil)) (.cons (.ret (.bi .tuple (.cons (.itm (.var 3)) .nil))) .nil)))
def b24 : Ss := (.cons (.ret (.call 23 (.cons (.var 0) (.cons (.lcp [((Str.ofString "k"), 1)] (.nm 1) (.rng1 (.call 11 (.cons (.var 0) (.cons (.lit (.int 9)) .nil)))) .no (.call 21 (.cons (.var 0) .nil))) (.cons (.lit (.int 0)) .nil))))) .nil)
def b25 : Ss := (.cons (.asg (.nm 1) (.call 12 (.cons (.var 0) (.cons (.lst (.cons (.lit (.int 0)) (.cons (.lit (.int 1)) (.cons (.lit (.int 3)) (.cons (.lit (.int 8)) (.cons (.lit (.int 58)) .nil)))))) .nil)))) (.cons (.asg (.nm 2) (.bin .Add (.lcp [((Str.ofString "k"), 3)] (.nm 3) (.rng1 (.var 1)) .no (.call 22 (.cons (.var 0) (.cons (.lit (.int 1)) .nil)))) (.lcp [((Str.ofString "k"), 3)] (.nm 3) (.rng1 (.call 12 (.cons (.var 0) (.cons (.lst (.cons (.lit (.int 0)) (.cons (.lit (.int 0)) (.cons (.lit (.int 2)) .nil)))) .nil)))) .no (.bin .Add (.lit (.int 7)) (.bin .Mult (.lit (.int 3)) (.var 3)))))) (.cons (.ret (.call 23 (.cons (.var 0) (.cons (.var 2) (.cons (.lit (.int 0)) .nil))))) .nil)))
def b26 : Ss := (.cons (.asg (.nm 1) (.lst (.cons (.lit .none) (.cons (.lit (.bool true)) (.cons (.lit (.bool false)) (.cons (.neg (.lit (.int 1))) (.cons (.bin .Pow (.lit (.int 10)) (.lit (.int 9))) (.cons (.bin .Pow (.lit (.int 10)) (.lit (.int 50))) (.cons (.lit (.str (Str.ofString ""))) (.cons (.lit (.str (Str.ofString "nil"))) (.cons (.lit (.str (Str.ofString "Ab"))) (.cons (.lit (.str (Str.ofString "a1"))) (.cons (.lit (.str (Str.ofString "a b"))) (.cons (.lit (.str (Str.ofString "abcdefghi"))) (.cons (.lit (.str (Str.ofString "3"))) (.cons (.lst .nil) (.cons (.dsp .nil) (.cons (.tup .nil) .nil)))))))))))))))))) (.cons (.ret (.call 12 (.cons (.var 0) (.cons (.bin .Add (.var 1) (.lst (.cons (.call 21 (.cons (.var 0) .nil)) (.cons (.call 22 (.cons (.var 0) (.cons (.lit (.int 0)) .nil))) (.cons (.tup (.cons (.lit (.str (Str.ofString "a"))) (.cons (.lit (.int 1)) .nil))) (.cons (.lst (.cons (.lit (.int 1)) (.cons (.lit (.int 2)) .nil))) (.cons (.dsp (.cons (.lit (.str (Str.ofString "a"))) (.lit (.int 1)) .nil)) (.cons (.tup (.cons (.tup (.cons (.lit (.int 1)) (.cons (.lit (.int 2)) .nil))) .nil)) .nil)))))))) .nil)))) .nil))
def b27 : Ss := (.cons (.par [3, 4, 5] (.cons (.call 11 (.cons (.var 0) (.cons (.lit (.int 9)) .nil))) (.cons (.call 11 (.cons (.var 0) (.cons (.bin .Add (.bi .len (.cons (.var 1) .nil)) (.lit (.int 1))) .nil))) (.cons (.bi .list (.cons (.var 1) .nil)) .nil)))) (.cons (.asg (.nm 2) (.call 26 (.cons (.var 0) .nil))) (.cons (.ifs (.or (.cmp .Eq (.var 3) (.lit (.int 0))) (.cmp .Eq (.var 4) (.bi .len (.cons (.var 1) .nil)))) (.cons (.ret (.bi .tuple (.cons (.bin .Add (.bin .Add (.slc (.var 5) .no (.yes (.var 4))) (.lst (.cons (.tup (.cons (.var 2) (.cons (.call 26 (.cons (.var 0) .nil)) .nil))) .nil))) (.slc (.var 5) (.yes (.var 4)) .no)) .nil))) .nil) .nil) (.cons (.ifs (.cmp .Eq (.var 3) (.lit (.int 1))) (.cons (.ret (.bi .tuple (.cons (.bin .Add (.bin .Add (.slc (.var 5) .no (.yes (.var 4))) (.lst (.cons (.idx (.var 5) (.var 4)) .nil))) (.slc (.var 5) (.yes (.var 4)) .no)) .nil))) .nil) .nil) (.cons (.ifs (.cmp .Eq (.var 3) (.lit (.int 2))) (.cons (.ret (.bi .tuple (.cons (.bin .Add (.rev (.slc (.var 5) .no (.yes (.var 4)))) (.slc (.var 5) (.yes (.var 4)) .no)) .nil))) .nil) .nil) (.cons (.ifs (.cmp .Eq (.var 3) (.lit (.int 3))) (.cons (.ret (.bi .tuple (.cons (.bin .Add (.bin .Add (.slc (.var 5) .no (.yes (.var 4))) (.lst (.cons (.bi .list (.cons (.idx (.var 5) (.var 4)) .nil)) .nil))) (.slc (.var 5) (.yes (.bin .Add (.var 4) (.lit (.int 1)))) .no)) .nil))) .nil) .nil) (.cons (.ifs (.cmp .Eq (.var 3) (.lit (.int 4))) (.cons (.ret (.bi .tuple (.cons (.bin .Add (.bin .Add (.slc (.var 5) .no (.yes (.var 4))) (.lst (.cons (.bin .Add (.idx (.var 5) (.var 4)) (.tup (.cons (.var 2) .nil))) .nil))) (.slc (.var 5) (.yes (.bin .Add (.var 4) (.lit (.int 1)))) .no)) .nil))) .nil) .nil) (.cons (.ifs (.cmp .Eq (.var 3) (.lit (.int 5))) (.cons (.ret (.var 5)) .nil) .nil) (.cons (.ifs (.cmp .Eq (.var 3) (.lit (.int 6))) (.cons (.ret (.bi .tuple (.cons (.bin .Add (.bin .Add (.slc (.var 5) .no (.yes (.var 4))) (.lst (.cons (.var 2) .nil))) (.slc (.var 5) (.yes (.bin .Add (.var 4) (.lit (.int 1)))) .no)) .nil))) .nil) .nil) (.cons (.ifs (.cmp .Eq (.var 3) (.lit (.int 7))) (.cons (.ret (.bi .tuple (.cons (.bin .Add (.bin .Add (.slc (.var 5) .no (.yes (.var 4))) (.lst (.cons (.tup (.cons (.var 2) (.cons (.idx (.idx (.var 5) (.var 4)) (.lit (.int 1))) .nil))) .nil))) (.slc (.var 5) (.yes (.bin .Add (.var 4) (.lit (.int 1)))) .no)) .nil))) .nil) .nil) (.cons (.ret (.bi .tuple (.cons (.bin .Add (.bin .Add (.slc (.var 5) .no (.yes (.var 4))) (.lst (.cons (.tup (.cons (.idx (.idx (.var 5) (.var 4)) (.lit (.int 0))) (.cons (.var 2) .nil))) .nil))) (.slc (.var 5) (.yes (.bin .Add (.var 4) (.lit (.int 1)))) .no)) .nil))) .nil)))))))))))
def b28 : Ss := (.cons (.par [2, 3, 4] (.cons (.call 24 (.cons (.var 0) .nil)) (.cons (.call 25 (.cons (.var 0) .nil)) (.cons (.call 11 (.cons (.var 0) (.cons (.lit (.int 8)) .nil))) .nil)))) (.cons (.asg (.nm 1) (.bin .Add (.bin .Mult (.lst (.cons (.tup (.cons (.var 2) (.cons (.var 3) .nil))) .nil)) (.lit (.int 2))) (.lst (.cons (.lst (.cons (.var 2) (.cons (.var 3) .nil))) (.cons (.tup (.cons (.var 3) (.cons (.var 2) .nil))) (.cons (.tup (.cons (.var 2) (.cons (.var 3) (.cons (.tup .nil) .nil)))) (.cons (.tup (.cons (.var 2) .nil)) .nil))))))) (.cons (.asg (.nm 1) (.bin .Add (.var 1) (.lst (.cons (.tup (.cons (.call 27 (.cons (.var 0) (.cons (.var 2) .nil))) (.cons (.var 3) .nil))) (.cons (.tup (.cons (.var 2) (.cons (.call 27 (.cons (.var 0) (.cons (.var 3) .nil))) .nil))) .nil))))) (.cons (.ret (.idx (.var 1) (.var 4))) .nil))))
def b29 : Ss := (.cons (.ret (.call 12 (.cons (.var 0) (.cons (.lst (.cons (.lit (.str (Str.ofString "nil"))) (.cons (.lit (.str (Str.ofString "new"))) (.cons (.lit (.str (Str.ofString "free"))) (.cons (.lit (.str (Str.ofString "if"))) (.cons (.lit (.str (Str.ofString "else"))) (.cons (.lit (.str (Str.ofString "while"))) (.cons (.lit (.str (Str.ofString "keep"))) (.cons (.lit (.str (Str.ofString "emp"))) .nil))))))))) .nil)))) .nil)
def b30 : Ss := (.cons (.fors (.nm 1) (.rng1 (.lit (.int 8))) (.cons (.asg (.nm 2) (.call 12 (.cons (.var 0) (.cons (.lst (.cons (.lit (.int 1)) (.cons (.lit (.int 2)) (.cons (.lit (.int 3)) (.cons (.lit (.int 7)) (.cons (.lit (.int 8)) (.cons (.lit (.int 9)) .nil))))))) .nil)))) (.cons (.asg (.nm 3) (.call 20 (.cons (.var 0) (.cons (.var 2) .nil)))) (.cons (.asg (.nm 4) (.call 11 (.cons (.var 0) (.cons (.var 2) .nil)))) (.cons (.asg (.nm 5) (.bin .Add (.bin .Add (.slc (.var 3) .no (.yes (.var 4))) (.call 12 (.cons (.var 0) (.cons (.lst (.cons (.lit (.str (Str.ofString "A"))) (.cons (.lit (.str (Str.ofString "0"))) (.cons (.lit (.str (Str.ofString " "))) (.cons (.lit (.str (Str.ofString "_"))) (.cons (.lit (.str (Str.ofString ""))) (.cons (.lit (.str (Str.ofString "z"))) .nil))))))) .nil)))) (.slc (.var 3) (.yes (.bin .Add (.var 4) (.lit (.int 1)))) .no))) (.cons (.fors (.nm 6) (.ex (.lst (.cons (.var 3) (.cons (.var 5) (.cons (.call 26 (.cons (.var 0) .nil)) (.cons (.lit (.str (Str.ofString "nil"))) (.cons (.lst (.cons (.var 3) .nil)) (.cons (.call 29 (.cons (.var 0) .nil)) (.cons (.bin .Add (.call 29 (.cons (.var 0) .nil)) (.lit (.str (Str.ofString "s")))) .nil))))))))) (.cons (.asg (.nm 7) (.call 15 (.cons (.var 6) .nil))) (.cons (.ifs (.or (.not (.call 13 (.cons (.call 2 (.cons (.var 6) .nil)) (.cons (.var 7) .nil)))) (.not (.call 13 (.cons (.call 3 (.cons (.var 6) .nil)) (.cons (.or (.var 7) (.and (.isi (.var 6) [.str]) (.cmp .Eq (.var 6) (.lit (.str (Str.ofString "nil")))))) .nil))))) (.cons (.ret (.lit (.bool false))) .nil) .nil) .nil))) .nil)))))) (.cons (.ret (.lit (.bool true))) .nil))
def b31 : Ss := (.cons (.asg (.nm 1) (.lcp [((Str.ofString "letter"), 5)] (.nm 5) (.ex (.lit (.str (Str.ofString "bdfhjlnp")))) .no (.bin .Add (.var 5) (.call 20 (.cons (.var 0) (.cons (.lit (.int 7)) .nil)))))) (.cons (.asg (.nm 2) (.bi .tuple (.cons (.lcp [((Str.ofString "name"), 6)] (.nm 6) (.ex (.var 1)) .no (.tup (.cons (.var 6) (.cons (.call 22 (.cons (.var 0) (.cons (.lit (.int 0)) .nil))) .nil)))) .nil))) (.cons (.asg (.nm 3) (.bi .tuple (.cons (.lcp [((Str.ofString "k"), 7)] (.nm 7) (.rng1 (.lit (.int 60))) .no (.tup (.cons (.bin .Add (.bin .Add (.lit (.int 1)) (.bin .Mult (.lit (.int 16000000)) (.var 7))) (.call 11 (.cons (.var 0) (.cons (.bin .Pow (.lit (.int 10)) (.lit (.int 6))) .nil)))) (.cons (.call 22 (.cons (.var 0) (.cons (.lit (.int 0)) .nil))) .nil)))) .nil))) (.cons (.asg (.nm 4) (.lst (.cons (.call 7 (.cons (.var 2) .nil)) (.cons (.call 8 (.cons (.var 3) .nil)) (.cons (.call 9 (.cons (.tup (.cons (.var 2) (.cons (.var 3) .nil))) .nil)) (.cons (.call 9 (.cons (.tup (.cons (.tup .nil) (.cons (.tup .nil) .nil))) .nil)) .nil)))))) (.cons (.asg (.nm 4) (.bin .Add (.var 4) (.lst (.cons (.call 7 (.cons (.bin .Add (.var 2) (.tup (.cons (.tup (.cons (.lit (.str (Str.ofString "q"))) (.cons (.lit (.int 1)) .nil))) .nil))) .nil)) (.cons (.call 8 (.cons (.bin .Add (.var 3) (.tup (.cons (.tup (.cons (.bin .Sub (.bin .Pow (.lit (.int 10)) (.lit (.int 9))) (.lit (.int 1))) (.cons (.lit (.int 1)) .nil))) .nil))) .nil)) (.cons (.call 8 (.cons (.bin .Add (.slc (.var 3) .no (.yes (.lit (.int 59)))) (.tup (.cons (.tup (.cons (.lit (.int 0)) (.cons (.lit (.int 1)) .nil))) .nil))) .nil)) .nil)))))) (.cons (.asg (.nm 4) (.bin .Add (.var 4) (.lst (.cons (.call 9 (.cons (.tup (.cons (.bin .Add (.var 2) (.tup (.cons (.tup (.cons (.lit (.str (Str.ofString "z"))) (.cons (.lit (.int 0)) .nil))) .nil))) (.cons (.var 3) .nil))) .nil)) (.cons (.call 8 (.cons (.bin .Add (.slc (.var 3) (.yes (.lit (.int 1))) .no) (.tup (.cons (.tup (.cons (.bin .Sub (.bin .Pow (.lit (.int 10)) (.lit (.int 9))) (.lit (.int 1))) (.cons (.lit (.int 1)) .nil))) .nil))) .nil)) .nil))))) (.cons (.ret (.call 13 (.cons (.var 4) (.cons (.lst (.cons (.lit (.bool true)) (.cons (.lit (.bool true)) (.cons (.lit (.bool true)) (.cons (.lit (.bool true)) (.cons (.lit (.bool false)) (.cons (.lit (.bool false)) (.cons (.lit (.bool false)) (.cons (.lit (.bool false)) (.cons (.lit (.bool true)) .nil)))))))))) .nil)))) .nil)))))))
def b32 : Ss := (.cons (.asg (.nm 1) (.call 10 (.cons (.var 0) .nil))) (.cons (.fors (.nm 2) (.rng1 (.lit (.int 6))) (.cons (.par [4, 5] (.cons (.call 24 (.cons (.var 1) .nil)) (.cons (.call 25 (.cons (.var 1) .nil)) .nil))) (.cons (.fors (.nm 3) (.ex (.lst (.cons (.var 4) (.cons (.call 27 (.cons (.var 1) (.cons (.var 4) .nil))) (.cons (.call 26 (.cons (.var 1) .nil)) (.cons (.var 5) .nil)))))) (.cons (.ifs (.not (.call 13 (.cons (.call 7 (.cons (.var 3) .nil)) (.cons (.call 17 (.cons (.var 3) .nil)) .nil)))) (.cons (.ret (.lit (.bool false))) .nil) .nil) .nil)) (.cons (.fors (.nm 3) (.ex (.lst (.cons (.var 5) (.cons (.call 27 (.cons (.var 1) (.cons (.var 5) .nil))) (.cons (.call 26 (.cons (.var 1) .nil)) (.cons (.var 4) .nil)))))) (.cons (.ifs (.not (.call 13 (.cons (.call 8 (.cons (.var 3) .nil)) (.cons (.call 18 (.cons (.var 3) .nil)) .nil)))) (.cons (.ret (.lit (.bool false))) .nil) .nil) .nil)) (.cons (.fors (.nm 3) (.ex (.lst (.cons (.call 28 (.cons (.var 1) .nil)) (.cons (.call 26 (.cons (.var 1) .nil)) (.cons (.tup (.cons (.call 26 (.cons (.var 1) .nil)) (.cons (.var 5) .nil))) .nil))))) (.cons (.ifs (.not (.call 13 (.cons (.call 9 (.cons (.var 3) .nil)) (.cons (.call 19 (.cons (.var 3) .nil)) .nil)))) (.cons (.ret (.lit (.bool false))) .nil) .nil) .nil)) .nil))))) (.cons (.ret (.and (.call 30 (.cons (.var 1) .nil)) (.call 31 (.cons (.var 1) .nil)))) .nil)))
def f0 : Fn := ⟨(Str.ofString "is_integer"), 1, 1, b0⟩
def f1 : Fn := ⟨(Str.ofString "is_within"), 3, 3, b1⟩
def f2 : Fn := ⟨(Str.ofString "is_name"), 1, 2, b2⟩
def f3 : Fn := ⟨(Str.ofString "is_term"), 1, 1, b3⟩
def f4 : Fn := ⟨(Str.ofString "is_place"), 1, 1, b4⟩
def f5 : Fn := ⟨(Str.ofString "is_sized"), 3, 3, b5⟩
def f6 : Fn := ⟨(Str.ofString "are_rising"), 1, 2, b6⟩
def f7 : Fn := ⟨(Str.ofString "is_stack"), 1, 2, b7⟩
def f8 : Fn := ⟨(Str.ofString "is_heap"), 1, 2, b8⟩
def f9 : Fn := ⟨(Str.ofString "is_state"), 1, 1, b9⟩
def f10 : Fn := ⟨(Str.ofString "_law_hand"), 1, 3, b10⟩
def f11 : Fn := ⟨(Str.ofString "_law_draw"), 2, 5, b11⟩
def f12 : Fn := ⟨(Str.ofString "_law_some"), 2, 2, b12⟩
def f13 : Fn := ⟨(Str.ofString "_law_is"), 2, 4, b13⟩
def f14 : Fn := ⟨(Str.ofString "_law_is_place"), 2, 2, b14⟩
def f15 : Fn := ⟨(Str.ofString "_law_is_name"), 1, 2, b15⟩
def f16 : Fn := ⟨(Str.ofString "_law_are_pairs"), 2, 3, b16⟩
def f17 : Fn := ⟨(Str.ofString "_law_is_stack"), 1, 3, b17⟩
def f18 : Fn := ⟨(Str.ofString "_law_is_heap"), 1, 3, b18⟩
def f19 : Fn := ⟨(Str.ofString "_law_is_state"), 1, 1, b19⟩
def f20 : Fn := ⟨(Str.ofString "_law_letters"), 2, 3, b20⟩
def f21 : Fn := ⟨(Str.ofString "_law_name"), 1, 1, b21⟩
def f22 : Fn := ⟨(Str.ofString "_law_place"), 2, 2, b22⟩
def f23 : Fn := ⟨(Str.ofString "_law_by_keys"), 3, 5, b23⟩
def f24 : Fn := ⟨(Str.ofString "_law_stack"), 1, 2, b24⟩
def f25 : Fn := ⟨(Str.ofString "_law_heap"), 1, 4, b25⟩
def f26 : Fn := ⟨(Str.ofString "_law_odd"), 1, 2, b26⟩
def f27 : Fn := ⟨(Str.ofString "_law_turned"), 2, 6, b27⟩
def f28 : Fn := ⟨(Str.ofString "_law_state_thing"), 1, 5, b28⟩
def f29 : Fn := ⟨(Str.ofString "_law_bound"), 1, 1, b29⟩
def f30 : Fn := ⟨(Str.ofString "_law_are_words_right"), 1, 8, b30⟩
def f31 : Fn := ⟨(Str.ofString "_law_are_greatest_right"), 1, 8, b31⟩
def f32 : Fn := ⟨(Str.ofString "law"), 1, 6, b32⟩
def T : List Fn := [f0, f1, f2, f3, f4, f5, f6, f7, f8, f9, f10, f11, f12, f13, f14, f15, f16, f17, f18, f19, f20, f21, f22, f23, f24, f25, f26, f27, f28, f29, f30, f31, f32]
def GK : List (Str × D) := [((Str.ofString "LETTERS"), (.str (Str.ofString "abcdefghijklmnopqrstuvwxyz"))), ((Str.ofString "MOST_LETTERS"), (.int 8)), ((Str.ofString "BOUND_WORDS"), (.tup [(.str (Str.ofString "nil")), (.str (Str.ofString "new")), (.str (Str.ofString "free")), (.str (Str.ofString "if")), (.str (Str.ofString "else")), (.str (Str.ofString "while")), (.str (Str.ofString "keep")), (.str (Str.ofString "emp"))])), ((Str.ofString "NIL"), (.str (Str.ofString "nil"))), ((Str.ofString "MOST_PLACE"), (.int 1000000000)), ((Str.ofString "MOST_NAMES"), (.int 8)), ((Str.ofString "MOST_CELLS"), (.int 60))]
theorem r0 : RowOk T GK f0 (topS 6) [(Str.ofString "thing")] [(Str.ofString "thing")] :=
  ⟨rfl, rfl, ⟨rfl, rfl, rfl, by decide +kernel, rfl, by decide +kernel, by decide +kernel⟩, by decide +kernel⟩
theorem r1 : RowOk T GK f1 (topS 7) [(Str.ofString "thing"), (Str.ofString "low"), (Str.ofString "high")] [(Str.ofString "thing"), (Str.ofString "low"), (Str.ofString "high")] :=
  ⟨rfl, rfl, ⟨rfl, rfl, rfl, by decide +kernel, rfl, by decide +kernel, by decide +kernel⟩, by decide +kernel⟩
theorem r2 : RowOk T GK f2 (topS 8) [(Str.ofString "thing"), (Str.ofString "sign")] [(Str.ofString "thing")] :=
  ⟨rfl, rfl, ⟨rfl, rfl, rfl, by decide +kernel, rfl, by decide +kernel, by decide +kernel⟩, by decide +kernel⟩
theorem r3 : RowOk T GK f3 (topS 9) [(Str.ofString "thing")] [(Str.ofString "thing")] :=
  ⟨rfl, rfl, ⟨rfl, rfl, rfl, by decide +kernel, rfl, by decide +kernel, by decide +kernel⟩, by decide +kernel⟩
theorem r4 : RowOk T GK f4 (topS 10) [(Str.ofString "thing")] [(Str.ofString "thing")] :=
  ⟨rfl, rfl, ⟨rfl, rfl, rfl, by decide +kernel, rfl, by decide +kernel, by decide +kernel⟩, by decide +kernel⟩
theorem r5 : RowOk T GK f5 (topS 11) [(Str.ofString "thing"), (Str.ofString "least"), (Str.ofString "most")] [(Str.ofString "thing"), (Str.ofString "least"), (Str.ofString "most")] :=
  ⟨rfl, rfl, ⟨rfl, rfl, rfl, by decide +kernel, rfl, by decide +kernel, by decide +kernel⟩, by decide +kernel⟩
theorem r6 : RowOk T GK f6 (topS 12) [(Str.ofString "things"), (Str.ofString "at")] [(Str.ofString "things")] :=
  ⟨rfl, rfl, ⟨rfl, rfl, rfl, by decide +kernel, rfl, by decide +kernel, by decide +kernel⟩, by decide +kernel⟩
theorem r7 : RowOk T GK f7 (topS 16) [(Str.ofString "thing"), (Str.ofString "pair")] [(Str.ofString "thing")] :=
  ⟨rfl, rfl, ⟨rfl, rfl, rfl, by decide +kernel, rfl, by decide +kernel, by decide +kernel⟩, by decide +kernel⟩
theorem r8 : RowOk T GK f8 (topS 17) [(Str.ofString "thing"), (Str.ofString "pair")] [(Str.ofString "thing")] :=
  ⟨rfl, rfl, ⟨rfl, rfl, rfl, by decide +kernel, rfl, by decide +kernel, by decide +kernel⟩, by decide +kernel⟩
theorem r9 : RowOk T GK f9 (topS 18) [(Str.ofString "thing")] [(Str.ofString "thing")] :=
  ⟨rfl, rfl, ⟨rfl, rfl, rfl, by decide +kernel, rfl, by decide +kernel, by decide +kernel⟩, by decide +kernel⟩
theorem r10 : RowOk T GK f10 (topS 20) [(Str.ofString "script"), (Str.ofString "cells"), (Str.ofString "cell")] [(Str.ofString "script")] :=
  ⟨rfl, rfl, ⟨rfl, rfl, rfl, by decide +kernel, rfl, by decide +kernel, by decide +kernel⟩, by decide +kernel⟩
theorem r11 : RowOk T GK f11 (topS 21) [(Str.ofString "hand"), (Str.ofString "many"), (Str.ofString "number"), (Str.ofString "cell"), (Str.ofString "digit")] [(Str.ofString "hand"), (Str.ofString "many")] :=
  ⟨rfl, rfl, ⟨rfl, rfl, rfl, by decide +kernel, rfl, by decide +kernel, by decide +kernel⟩, by decide +kernel⟩
theorem r12 : RowOk T GK f12 (topS 22) [(Str.ofString "hand"), (Str.ofString "things")] [(Str.ofString "hand"), (Str.ofString "things")] :=
  ⟨rfl, rfl, ⟨rfl, rfl, rfl, by decide +kernel, rfl, by decide +kernel, by decide +kernel⟩, by decide +kernel⟩
theorem r13 : RowOk T GK f13 (topS 23) [(Str.ofString "came"), (Str.ofString "due"), (Str.ofString "one"), (Str.ofString "other")] [(Str.ofString "came"), (Str.ofString "due")] :=
  ⟨rfl, rfl, ⟨rfl, rfl, rfl, by decide +kernel, rfl, by decide +kernel, by decide +kernel⟩, by decide +kernel⟩
theorem r14 : RowOk T GK f14 (topS 24) [(Str.ofString "thing"), (Str.ofString "low")] [(Str.ofString "thing"), (Str.ofString "low")] :=
  ⟨rfl, rfl, ⟨rfl, rfl, rfl, by decide +kernel, rfl, by decide +kernel, by decide +kernel⟩, by decide +kernel⟩
theorem r15 : RowOk T GK f15 (topS 25) [(Str.ofString "thing"), (Str.ofString "sign")] [(Str.ofString "thing")] :=
  ⟨rfl, rfl, ⟨rfl, rfl, rfl, by decide +kernel, rfl, by decide +kernel, by decide +kernel⟩, by decide +kernel⟩
theorem r16 : RowOk T GK f16 (topS 26) [(Str.ofString "thing"), (Str.ofString "most"), (Str.ofString "pair")] [(Str.ofString "thing"), (Str.ofString "most")] :=
  ⟨rfl, rfl, ⟨rfl, rfl, rfl, by decide +kernel, rfl, by decide +kernel, by decide +kernel⟩, by decide +kernel⟩
theorem r17 : RowOk T GK f17 (topS 27) [(Str.ofString "thing"), (Str.ofString "at"), (Str.ofString "pair")] [(Str.ofString "thing")] :=
  ⟨rfl, rfl, ⟨rfl, rfl, rfl, by decide +kernel, rfl, by decide +kernel, by decide +kernel⟩, by decide +kernel⟩
theorem r18 : RowOk T GK f18 (topS 28) [(Str.ofString "thing"), (Str.ofString "at"), (Str.ofString "pair")] [(Str.ofString "thing")] :=
  ⟨rfl, rfl, ⟨rfl, rfl, rfl, by decide +kernel, rfl, by decide +kernel, by decide +kernel⟩, by decide +kernel⟩
theorem r19 : RowOk T GK f19 (topS 29) [(Str.ofString "thing")] [(Str.ofString "thing")] :=
  ⟨rfl, rfl, ⟨rfl, rfl, rfl, by decide +kernel, rfl, by decide +kernel, by decide +kernel⟩, by decide +kernel⟩
theorem r20 : RowOk T GK f20 (topS 30) [(Str.ofString "hand"), (Str.ofString "size"), (Str.ofString "k")] [(Str.ofString "hand"), (Str.ofString "size")] :=
  ⟨rfl, rfl, ⟨rfl, rfl, rfl, by decide +kernel, rfl, by decide +kernel, by decide +kernel⟩, by decide +kernel⟩
theorem r21 : RowOk T GK f21 (topS 31) [(Str.ofString "hand")] [(Str.ofString "hand")] :=
  ⟨rfl, rfl, ⟨rfl, rfl, rfl, by decide +kernel, rfl, by decide +kernel, by decide +kernel⟩, by decide +kernel⟩
theorem r22 : RowOk T GK f22 (topS 32) [(Str.ofString "hand"), (Str.ofString "low")] [(Str.ofString "hand"), (Str.ofString "low")] :=
  ⟨rfl, rfl, ⟨rfl, rfl, rfl, by decide +kernel, rfl, by decide +kernel, by decide +kernel⟩, by decide +kernel⟩
theorem r23 : RowOk T GK f23 (topS 33) [(Str.ofString "hand"), (Str.ofString "keys"), (Str.ofString "low"), (Str.ofString "found"), (Str.ofString "key")] [(Str.ofString "hand"), (Str.ofString "keys"), (Str.ofString "low")] :=
  ⟨rfl, rfl, ⟨rfl, rfl, rfl, by decide +kernel, rfl, by decide +kernel, by decide +kernel⟩, by decide +kernel⟩
theorem r24 : RowOk T GK f24 (topS 34) [(Str.ofString "hand"), (Str.ofString "k")] [(Str.ofString "hand")] :=
  ⟨rfl, rfl, ⟨rfl, rfl, rfl, by decide +kernel, rfl, by decide +kernel, by decide +kernel⟩, by decide +kernel⟩
theorem r25 : RowOk T GK f25 (topS 35) [(Str.ofString "hand"), (Str.ofString "many"), (Str.ofString "keys"), (Str.ofString "k")] [(Str.ofString "hand")] :=
  ⟨rfl, rfl, ⟨rfl, rfl, rfl, by decide +kernel, rfl, by decide +kernel, by decide +kernel⟩, by decide +kernel⟩
theorem r26 : RowOk T GK f26 (topS 36) [(Str.ofString "hand"), (Str.ofString "some")] [(Str.ofString "hand")] :=
  ⟨rfl, rfl, ⟨rfl, rfl, rfl, by decide +kernel, rfl, by decide +kernel, by decide +kernel⟩, by decide +kernel⟩
theorem r27 : RowOk T GK f27 (topS 37) [(Str.ofString "hand"), (Str.ofString "row"), (Str.ofString "odd"), (Str.ofString "way"), (Str.ofString "at"), (Str.ofString "some")] [(Str.ofString "hand"), (Str.ofString "row")] :=
  ⟨rfl, rfl, ⟨rfl, rfl, rfl, by decide +kernel, rfl, by decide +kernel, by decide +kernel⟩, by decide +kernel⟩
theorem r28 : RowOk T GK f28 (topS 38) [(Str.ofString "hand"), (Str.ofString "some"), (Str.ofString "stack"), (Str.ofString "heap"), (Str.ofString "way")] [(Str.ofString "hand")] :=
  ⟨rfl, rfl, ⟨rfl, rfl, rfl, by decide +kernel, rfl, by decide +kernel, by decide +kernel⟩, by decide +kernel⟩
theorem r29 : RowOk T GK f29 (topS 39) [(Str.ofString "hand")] [(Str.ofString "hand")] :=
  ⟨rfl, rfl, ⟨rfl, rfl, rfl, by decide +kernel, rfl, by decide +kernel, by decide +kernel⟩, by decide +kernel⟩
theorem r30 : RowOk T GK f30 (topS 40) [(Str.ofString "hand"), (Str.ofString "turn"), (Str.ofString "size"), (Str.ofString "word"), (Str.ofString "at"), (Str.ofString "other"), (Str.ofString "thing"), (Str.ofString "due")] [(Str.ofString "hand")] :=
  ⟨rfl, rfl, ⟨rfl, rfl, rfl, by decide +kernel, rfl, by decide +kernel, by decide +kernel⟩, by decide +kernel⟩
theorem r31 : RowOk T GK f31 (topS 41) [(Str.ofString "hand"), (Str.ofString "names"), (Str.ofString "stack"), (Str.ofString "heap"), (Str.ofString "told"), (Str.ofString "letter"), (Str.ofString "name"), (Str.ofString "k")] [(Str.ofString "hand")] :=
  ⟨rfl, rfl, ⟨rfl, rfl, rfl, by decide +kernel, rfl, by decide +kernel, by decide +kernel⟩, by decide +kernel⟩
theorem r32 : RowOk T GK f32 (topS 42) [(Str.ofString "script"), (Str.ofString "hand"), (Str.ofString "turn"), (Str.ofString "thing"), (Str.ofString "stack"), (Str.ofString "heap")] [(Str.ofString "script")] :=
  ⟨rfl, rfl, ⟨rfl, rfl, rfl, by decide +kernel, rfl, by decide +kernel, by decide +kernel⟩, by decide +kernel⟩
end K01
/-! k01: the two judges. -/
namespace K01
open PySem PySem.Spec PyProof.Rows L2 EV
def wf : Nat := 100
mutual
/-- a value that tells no cell, its texts not too long -/
def im : D → Bool
  | .non => true
  | .bl _ => true
  | .int _ => true
  | .str x => decide (x.length ≤ lim)
  | .tup ds => ims ds
  | .lst ds => ims ds
  | .dic _ ds => ims ds
  | _ => false
def ims : List D → Bool
  | [] => true
  | d :: ds => im d && ims ds
end
theorem ims_mem : ∀ {ds : List D}, ims ds = true → ∀ d ∈ ds, im d = true
  | d :: ds, h, e, he => by
    unfold ims at h
    rw [Bool.and_eq_true] at h
    rcases List.mem_cons.mp he with rfl | he
    · exact h.1
    · exact ims_mem h.2 e he
theorem ims_of : ∀ {ds : List D}, (∀ d ∈ ds, im d = true) → ims ds = true
  | [], _ => rfl
  | d :: ds, h => by
    unfold ims
    rw [h d List.mem_cons_self, ims_of fun e he => h e (List.mem_cons_of_mem _ he)]; rfl
def intB : D → Bool
  | .int _ => true
  | _ => false
def withB (lo hi : Int) : D → Bool
  | .int i => decide (lo ≤ i) && decide (i ≤ hi)
  | _ => false
def sizB (a b : Int) : D → Bool
  | .tup xs => decide (a ≤ (xs.length : Int)) && decide ((xs.length : Int) ≤ b)
  | _ => false
def letters : Str := Str.ofString "abcdefghijklmnopqrstuvwxyz"
def bound : List D := [.str (Str.ofString "nil"), .str (Str.ofString "new"), .str (Str.ofString "free"), .str (Str.ofString "if"), .str (Str.ofString "else"), .str (Str.ofString "while"), .str (Str.ofString "keep"), .str (Str.ofString "emp")]
def bndB (x : Str) : Bool := bound.any fun y => PyData.eqv (pd y) (.str x)
def letB (c : Nat) : Bool := decide (c ∈ letters.cps.toList)
def nameB : D → Bool
  | .str x => decide ((1 : Int) ≤ x.length) && decide ((x.length : Int) ≤ 8) && !bndB x && x.cps.toList.all letB
  | _ => false
section
variable {m : Mem} {k : Nat}
abbrev C (k : Nat) := callAt T wf k
theorem j_integer {d : D} (h : im d = true) : C (k + 1) 0 [d] m = .ok (.bl (intB d)) m := by
  refine call_eq (fn := f0) rfl rfl rfl ?_
  cases d <;> first | rfl | exact nomatch h
theorem j_within {d : D} {lo hi : Int} (h : im d = true) : C (k + 2) 1 [d, .int lo, .int hi] m = .ok (.bl (withB lo hi d)) m := by
  refine call_eq (fn := f1) rfl rfl rfl ?_
  cases d with
  | int i =>
    simp only [f1, b1, exSs, exS, evE, evEs, evKV, evO, evC, evI, startR, O.test, O.then_nx, O.then_rt, R.go_ok, R.bind_ok, R.of_some, tst_ok, bothD_ok, Option.map_some, List.map_cons, List.map_nil, List.length_cons, List.length_nil, List.cons_append, List.nil_append, List.getElem?_cons_zero, List.getElem?_cons_succ, List.replicate_succ, List.replicate_zero, if_true, if_false, Bool.false_eq_true, ite_true, ite_false, reduceIte, Nat.reduceAdd, Nat.reduceSub, Nat.sub_self, sOk_of, decide_true, decide_false, j_integer h, intB, cmpD]
    by_cases hh : lo ≤ i
    · simp only [exSs, exS, evE, evEs, evKV, evO, evC, evI, startR, O.test, O.then_nx, O.then_rt, R.go_ok, R.bind_ok, R.of_some, tst_ok, bothD_ok, Option.map_some, List.map_cons, List.map_nil, List.length_cons, List.length_nil, List.cons_append, List.nil_append, List.getElem?_cons_zero, List.getElem?_cons_succ, List.replicate_succ, List.replicate_zero, if_true, if_false, Bool.false_eq_true, ite_true, ite_false, reduceIte, Nat.reduceAdd, Nat.reduceSub, Nat.sub_self, sOk_of, decide_true, decide_false, hh, decide_true, withB, Bool.true_and]
    · simp only [exSs, exS, evE, evEs, evKV, evO, evC, evI, startR, O.test, O.then_nx, O.then_rt, R.go_ok, R.bind_ok, R.of_some, tst_ok, bothD_ok, Option.map_some, List.map_cons, List.map_nil, List.length_cons, List.length_nil, List.cons_append, List.nil_append, List.getElem?_cons_zero, List.getElem?_cons_succ, List.replicate_succ, List.replicate_zero, if_true, if_false, Bool.false_eq_true, ite_true, ite_false, reduceIte, Nat.reduceAdd, Nat.reduceSub, Nat.sub_self, sOk_of, decide_true, decide_false, hh, decide_false, withB, Bool.false_and]
  | _ => simp only [f1, b1, exSs, exS, evE, evEs, evKV, evO, evC, evI, startR, O.test, O.then_nx, O.then_rt, R.go_ok, R.bind_ok, R.of_some, tst_ok, bothD_ok, Option.map_some, List.map_cons, List.map_nil, List.length_cons, List.length_nil, List.cons_append, List.nil_append, List.getElem?_cons_zero, List.getElem?_cons_succ, List.replicate_succ, List.replicate_zero, if_true, if_false, Bool.false_eq_true, ite_true, ite_false, reduceIte, Nat.reduceAdd, Nat.reduceSub, Nat.sub_self, sOk_of, decide_true, decide_false, j_integer h, intB, withB]
theorem j_place {d : D} (h : im d = true) : C (k + 3) 4 [d] m = .ok (.bl (withB 0 999999999 d)) m := by
  refine call_eq (fn := f4) rfl rfl rfl ?_
  simp only [f4, b4, exSs, exS, evE, evEs, evKV, evO, evC, evI, startR, O.test, O.then_nx, O.then_rt, R.go_ok, R.bind_ok, R.of_some, tst_ok, bothD_ok, Option.map_some, List.map_cons, List.map_nil, List.length_cons, List.length_nil, List.cons_append, List.nil_append, List.getElem?_cons_zero, List.getElem?_cons_succ, List.replicate_succ, List.replicate_zero, if_true, if_false, Bool.false_eq_true, ite_true, ite_false, reduceIte, Nat.reduceAdd, Nat.reduceSub, Nat.sub_self, sOk_of, decide_true, decide_false, litD, binD, Int.reduceSub, j_within h]
theorem j_sized {d : D} {a b : Int} (h : im d = true) : C (k + 1) 5 [d, .int a, .int b] m = .ok (.bl (sizB a b d)) m := by
  refine call_eq (fn := f5) rfl rfl rfl ?_
  cases d with
  | tup xs =>
    simp only [f5, b5, exSs, exS, evE, evEs, evKV, evO, evC, evI, startR, O.test, O.then_nx, O.then_rt, R.go_ok, R.bind_ok, R.of_some, tst_ok, bothD_ok, Option.map_some, List.map_cons, List.map_nil, List.length_cons, List.length_nil, List.cons_append, List.nil_append, List.getElem?_cons_zero, List.getElem?_cons_succ, List.replicate_succ, List.replicate_zero, if_true, if_false, Bool.false_eq_true, ite_true, ite_false, reduceIte, Nat.reduceAdd, Nat.reduceSub, Nat.sub_self, sOk_of, decide_true, decide_false, isiD, tyOf, List.any_cons, List.any_nil, isTy, decide_true, Bool.or_false, biD, lenD, seqOf, cmpD]
    by_cases hh : a ≤ (xs.length : Int)
    · simp only [exSs, exS, evE, evEs, evKV, evO, evC, evI, startR, O.test, O.then_nx, O.then_rt, R.go_ok, R.bind_ok, R.of_some, tst_ok, bothD_ok, Option.map_some, List.map_cons, List.map_nil, List.length_cons, List.length_nil, List.cons_append, List.nil_append, List.getElem?_cons_zero, List.getElem?_cons_succ, List.replicate_succ, List.replicate_zero, if_true, if_false, Bool.false_eq_true, ite_true, ite_false, reduceIte, Nat.reduceAdd, Nat.reduceSub, Nat.sub_self, sOk_of, decide_true, decide_false, hh, decide_true, sizB, Bool.true_and]
    · simp only [exSs, exS, evE, evEs, evKV, evO, evC, evI, startR, O.test, O.then_nx, O.then_rt, R.go_ok, R.bind_ok, R.of_some, tst_ok, bothD_ok, Option.map_some, List.map_cons, List.map_nil, List.length_cons, List.length_nil, List.cons_append, List.nil_append, List.getElem?_cons_zero, List.getElem?_cons_succ, List.replicate_succ, List.replicate_zero, if_true, if_false, Bool.false_eq_true, ite_true, ite_false, reduceIte, Nat.reduceAdd, Nat.reduceSub, Nat.sub_self, sOk_of, decide_true, decide_false, hh, decide_false, sizB, Bool.false_and]
  | ref n => exact absurd h Bool.false_ne_true
  | fn => exact absurd h Bool.false_ne_true
  | scr n => exact absurd h Bool.false_ne_true
  | _ => rfl
theorem in_letters {c : Nat} : inD m (.str ⟨#[c]⟩) (.str letters) = some (letB c) := rfl
theorem j_signs {x : Str} {ρ : Rho} {tg : D → Rho → Option Rho} {el : Rho → Mem → R D} {cd : Rho → Mem → R Bool} (hel : ∀ c, ∃ ρ', tg (.str ⟨#[c]⟩) ρ = some ρ' ∧ cd ρ' m = .ok true m ∧ el ρ' m = .ok (.bl (letB c)) m) :
    (lcpL none tg cd el ρ (x.cps.toList.map fun c => .str ⟨#[c]⟩) [] m) = .ok (.lst (x.cps.toList.map fun c => .bl (letB c))) m := by
  have := lcp_pure (f := fun d => match d with | .str z => .bl (letB (z.cps.getD 0 0)) | _ => .non) (q := none) (tg := tg) (cd := cd) (el := el) (ρ := ρ) (m := m) rfl (x.cps.toList.map fun c => .str ⟨#[c]⟩) [] (fun y hy => by
    obtain ⟨c, _, rfl⟩ := List.mem_map.mp hy
    exact hel c)
  rw [this, List.nil_append, List.map_map]
  rfl
theorem all_let (x : Str) : allD [.lst (x.cps.toList.map fun c => .bl (letB c))] m = .ok (.bl (x.cps.toList.all letB)) m := by
  have := allD_map (m := m) (x.cps.toList.map letB)
  rw [List.map_map] at this
  rw [show (x.cps.toList.map fun c => D.bl (letB c)) = x.cps.toList.map (D.bl ∘ letB) from rfl, this, List.all_map]
  rfl
theorem in_bound {x : Str} : inD m (.str x) (.tup [.str (Str.ofString "nil"), .str (Str.ofString "new"), .str (Str.ofString "free"), .str (Str.ofString "if"), .str (Str.ofString "else"), .str (Str.ofString "while"), .str (Str.ofString "keep"), .str (Str.ofString "emp")]) = some (bndB x) := rfl
theorem j_name {d : D} (h : im d = true) : C (k + 1) 2 [d] m = .ok (.bl (nameB d)) m := by
  refine call_eq (fn := f2) rfl rfl rfl ?_
  cases d with
  | str x =>
    have hx : x.length ≤ lim := of_decide_eq_true h
    simp only [f2, b2, exSs, exS, evE, evEs, evKV, evO, evC, evI, startR, O.test, O.then_nx, O.then_rt, R.go_ok, R.bind_ok, R.of_some, tst_ok, bothD_ok, Option.map_some, List.map_cons, List.map_nil, List.length_cons, List.length_nil, List.cons_append, List.nil_append, List.getElem?_cons_zero, List.getElem?_cons_succ, List.replicate_succ, List.replicate_zero, if_true, if_false, Bool.false_eq_true, ite_true, ite_false, reduceIte, Nat.reduceAdd, Nat.reduceSub, Nat.sub_self, sOk_of, decide_true, decide_false, isiD, tyOf, List.any_cons, List.any_nil, isTy, decide_true, Bool.or_false, Bool.not_true, biD, lenD, hx, cmpD, litD]
    by_cases h1 : (1 : Int) ≤ x.length
    case neg => simp only [exSs, exS, evE, evEs, evKV, evO, evC, evI, startR, O.test, O.then_nx, O.then_rt, R.go_ok, R.bind_ok, R.of_some, tst_ok, bothD_ok, Option.map_some, List.map_cons, List.map_nil, List.length_cons, List.length_nil, List.cons_append, List.nil_append, List.getElem?_cons_zero, List.getElem?_cons_succ, List.replicate_succ, List.replicate_zero, if_true, if_false, Bool.false_eq_true, ite_true, ite_false, reduceIte, Nat.reduceAdd, Nat.reduceSub, Nat.sub_self, sOk_of, decide_true, decide_false, h1, decide_false, Bool.not_false, nameB, Bool.false_and]
    simp only [exSs, exS, evE, evEs, evKV, evO, evC, evI, startR, O.test, O.then_nx, O.then_rt, R.go_ok, R.bind_ok, R.of_some, tst_ok, bothD_ok, Option.map_some, List.map_cons, List.map_nil, List.length_cons, List.length_nil, List.cons_append, List.nil_append, List.getElem?_cons_zero, List.getElem?_cons_succ, List.replicate_succ, List.replicate_zero, if_true, if_false, Bool.false_eq_true, ite_true, ite_false, reduceIte, Nat.reduceAdd, Nat.reduceSub, Nat.sub_self, sOk_of, decide_true, decide_false, h1, decide_true]
    by_cases h8 : (x.length : Int) ≤ 8
    case neg => simp only [exSs, exS, evE, evEs, evKV, evO, evC, evI, startR, O.test, O.then_nx, O.then_rt, R.go_ok, R.bind_ok, R.of_some, tst_ok, bothD_ok, Option.map_some, List.map_cons, List.map_nil, List.length_cons, List.length_nil, List.cons_append, List.nil_append, List.getElem?_cons_zero, List.getElem?_cons_succ, List.replicate_succ, List.replicate_zero, if_true, if_false, Bool.false_eq_true, ite_true, ite_false, reduceIte, Nat.reduceAdd, Nat.reduceSub, Nat.sub_self, sOk_of, decide_true, decide_false, h8, decide_false, Bool.not_false, nameB, Bool.false_and, Bool.and_false]
    simp only [exSs, exS, evE, evEs, evKV, evO, evC, evI, startR, O.test, O.then_nx, O.then_rt, R.go_ok, R.bind_ok, R.of_some, tst_ok, bothD_ok, Option.map_some, List.map_cons, List.map_nil, List.length_cons, List.length_nil, List.cons_append, List.nil_append, List.getElem?_cons_zero, List.getElem?_cons_succ, List.replicate_succ, List.replicate_zero, if_true, if_false, Bool.false_eq_true, ite_true, ite_false, reduceIte, Nat.reduceAdd, Nat.reduceSub, Nat.sub_self, sOk_of, decide_true, decide_false, h8, decide_true, Bool.not_true]
    simp only [in_bound, exSs, exS, evE, evEs, evKV, evO, evC, evI, startR, O.test, O.then_nx, O.then_rt, R.go_ok, R.bind_ok, R.of_some, tst_ok, bothD_ok, Option.map_some, List.map_cons, List.map_nil, List.length_cons, List.length_nil, List.cons_append, List.nil_append, List.getElem?_cons_zero, List.getElem?_cons_succ, List.replicate_succ, List.replicate_zero, if_true, if_false, Bool.false_eq_true, ite_true, ite_false, reduceIte, Nat.reduceAdd, Nat.reduceSub, Nat.sub_self, sOk_of, decide_true, decide_false]
    cases hb : bndB x with
    | true => simp only [exSs, exS, evE, evEs, evKV, evO, evC, evI, startR, O.test, O.then_nx, O.then_rt, R.go_ok, R.bind_ok, R.of_some, tst_ok, bothD_ok, Option.map_some, List.map_cons, List.map_nil, List.length_cons, List.length_nil, List.cons_append, List.nil_append, List.getElem?_cons_zero, List.getElem?_cons_succ, List.replicate_succ, List.replicate_zero, if_true, if_false, Bool.false_eq_true, ite_true, ite_false, reduceIte, Nat.reduceAdd, Nat.reduceSub, Nat.sub_self, sOk_of, decide_true, decide_false, nameB, hb, Bool.not_true, Bool.and_false, Bool.false_and]
    | false =>
      have hl : (x.cps.toList.map fun c => D.str ⟨#[c]⟩).length ≤ lim := by rw [List.length_map]; exact hx
      simp only [exSs, exS, evE, evEs, evKV, evO, evC, evI, startR, O.test, O.then_nx, O.then_rt, R.go_ok, R.bind_ok, R.of_some, tst_ok, bothD_ok, Option.map_some, List.map_cons, List.map_nil, List.length_cons, List.length_nil, List.cons_append, List.nil_append, List.getElem?_cons_zero, List.getElem?_cons_succ, List.replicate_succ, List.replicate_zero, if_true, if_false, Bool.false_eq_true, ite_true, ite_false, reduceIte, Nat.reduceAdd, Nat.reduceSub, Nat.sub_self, sOk_of, decide_true, decide_false, itsD, Nat.not_lt.mpr hl, wipeR, List.set_cons_succ, List.set_cons_zero]
      rw [j_signs (m := m) (x := x) fun c => ⟨[some (.str x), some (.str ⟨#[c]⟩)], rfl, rfl, rfl⟩]
      simp only [exSs, exS, evE, evEs, evKV, evO, evC, evI, startR, O.test, O.then_nx, O.then_rt, R.go_ok, R.bind_ok, R.of_some, tst_ok, bothD_ok, Option.map_some, List.map_cons, List.map_nil, List.length_cons, List.length_nil, List.cons_append, List.nil_append, List.getElem?_cons_zero, List.getElem?_cons_succ, List.replicate_succ, List.replicate_zero, if_true, if_false, Bool.false_eq_true, ite_true, ite_false, reduceIte, Nat.reduceAdd, Nat.reduceSub, Nat.sub_self, sOk_of, decide_true, decide_false, all_let, nameB, hb, h1, h8, decide_true, Bool.not_false, Bool.true_and]
  | ref n => exact absurd h Bool.false_ne_true
  | fn => exact absurd h Bool.false_ne_true
  | scr n => exact absurd h Bool.false_ne_true
  | _ => rfl
theorem eqv_str (a b : Str) : PyData.eqv (.str a) (.str b) = decide (a = b) := by
  by_cases h : a = b
  · simp [PyData.eqv, h]
  · simp [PyData.eqv, h]
def termB : D → Bool
  | .str x => nameB (.str x) || PyData.eqv (.str x) (.str (Str.ofString "nil"))
  | _ => false
theorem j_term {d : D} (h : im d = true) : C (k + 2) 3 [d] m = .ok (.bl (termB d)) m := by
  refine call_eq (fn := f3) rfl rfl rfl ?_
  simp only [f3, b3, exSs, exS, evE, evEs, evKV, evO, evC, evI, startR, O.test, O.then_nx, O.then_rt, R.go_ok, R.bind_ok, R.of_some, tst_ok, bothD_ok, Option.map_some, List.map_cons, List.map_nil, List.length_cons, List.length_nil, List.cons_append, List.nil_append, List.getElem?_cons_zero, List.getElem?_cons_succ, List.replicate_succ, List.replicate_zero, if_true, if_false, Bool.false_eq_true, ite_true, ite_false, reduceIte, Nat.reduceAdd, Nat.reduceSub, Nat.sub_self, sOk_of, decide_true, decide_false, j_name h]
  cases d with
  | str x =>
    cases hn : nameB (.str x) with
    | true => simp only [exSs, exS, evE, evEs, evKV, evO, evC, evI, startR, O.test, O.then_nx, O.then_rt, R.go_ok, R.bind_ok, R.of_some, tst_ok, bothD_ok, Option.map_some, List.map_cons, List.map_nil, List.length_cons, List.length_nil, List.cons_append, List.nil_append, List.getElem?_cons_zero, List.getElem?_cons_succ, List.replicate_succ, List.replicate_zero, if_true, if_false, Bool.false_eq_true, ite_true, ite_false, reduceIte, Nat.reduceAdd, Nat.reduceSub, Nat.sub_self, sOk_of, decide_true, decide_false, termB, hn, Bool.true_or]
    | false => simp only [exSs, exS, evE, evEs, evKV, evO, evC, evI, startR, O.test, O.then_nx, O.then_rt, R.go_ok, R.bind_ok, R.of_some, tst_ok, bothD_ok, Option.map_some, List.map_cons, List.map_nil, List.length_cons, List.length_nil, List.cons_append, List.nil_append, List.getElem?_cons_zero, List.getElem?_cons_succ, List.replicate_succ, List.replicate_zero, if_true, if_false, Bool.false_eq_true, ite_true, ite_false, reduceIte, Nat.reduceAdd, Nat.reduceSub, Nat.sub_self, sOk_of, decide_true, decide_false, termB, hn, Bool.false_or, isiD, tyOf, List.any_cons, List.any_nil, isTy, decide_true, Bool.or_false, cmpD, eqD, res, EV.plain, Bool.and_true, pd]
  | ref n => exact absurd h Bool.false_ne_true
  | fn => exact absurd h Bool.false_ne_true
  | scr n => exact absurd h Bool.false_ne_true
  | _ => rfl
/-! rows of pairs -/
def two : D → Bool := sizB 2 2
def fstD : D → D
  | .tup (a :: _) => a
  | _ => .non
def sndD : D → D
  | .tup (_ :: b :: _) => b
  | _ => .non
def ltB (a b : D) : Bool := match ltD a b with
  | some b => b
  | none => false
def risB (ks : List D) : Bool := (List.range (ks.length - 1)).all fun i => ltB (ks.getD i .non) (ks.getD (i + 1) .non)
def stackP (p : D) : Bool := nameB (fstD p) && withB 0 999999999 (sndD p)
def heapP (p : D) : Bool := withB 1 999999999 (fstD p) && withB 0 999999999 (sndD p)
def rowB (n : Int) (h : D → Bool) : D → Bool
  | .tup xs => decide ((xs.length : Int) ≤ n) && xs.all two && xs.all h && risB (xs.map fstD)
  | _ => false
theorem two_inv {p : D} (h : two p = true) : ∃ a b, p = .tup [a, b] := by
  unfold two sizB at h
  split at h
  · rename_i xs
    rw [Bool.and_eq_true, decide_eq_true_eq, decide_eq_true_eq] at h
    have : xs.length = 2 := by omega
    match xs, this with
    | [a, b], _ => exact ⟨a, b, rfl⟩
  · cases h
theorem lcp_range {n : Nat} {tg : D → Rho → Option Rho} {cd : Rho → Mem → R Bool} {el : Rho → Mem → R D} {ρ : Rho} {p : Nat → Bool} (h : ∀ i, i < n → ∃ ρ', tg (.int (i : Nat)) ρ = some ρ' ∧ cd ρ' m = .ok true m ∧ el ρ' m = .ok (.bl (p i)) m) :
    lcpL none tg cd el ρ ((List.range n).map fun (i : Nat) => D.int (0 + (i : Int))) [] m = .ok (.lst (((List.range n).map p).map .bl)) m := by
  rw [lcp_pure (f := fun d => match d with | .int i => .bl (p i.toNat) | _ => .non) (q := none) rfl _ _ fun y hy => ?_, List.nil_append, List.map_map, List.map_map]
  · congr 2
    refine List.map_congr_left fun i hi => ?_
    show D.bl (p (0 + (i : Int)).toNat) = D.bl (p i)
    rw [Int.zero_add, Int.toNat_natCast]
  · obtain ⟨i, hi, rfl⟩ := List.mem_map.mp hy
    obtain ⟨ρ', h1, h2, h3⟩ := h i (List.mem_range.mp hi)
    refine ⟨ρ', ?_, h2, ?_⟩
    · rw [Int.zero_add]; exact h1
    · dsimp only
      rw [Int.zero_add, Int.toNat_natCast]; exact h3
theorem at_nat {xs : List D} {i : Nat} (h : i < xs.length) : atI xs (i : Int) = some (xs.getD i .non) := by
  rw [List.getD_eq_getElem?_getD, List.getElem?_eq_getElem h]
  exact atI_nat (List.getElem?_eq_getElem h)
theorem j_rising {ks : List D} (hl : ks.length ≤ 1000) (h : ∀ i, i + 1 < ks.length → ltD (ks.getD i .non) (ks.getD (i + 1) .non) = some (ltB (ks.getD i .non) (ks.getD (i + 1) .non))) : C (k + 1) 6 [.lst ks] m = .ok (.bl (risB ks)) m := by
  refine call_eq (fn := f6) rfl rfl rfl ?_
  have hr := rng_nat (i := (ks.length : Int) - 1) (ks.length - 1) (by omega) (by omega) (by show _ ≤ (16777216 : Int); omega)
  have hle : ¬ lim < ((List.range (ks.length - 1)).map fun (j : Nat) => D.int (0 + (j : Int))).length := by
    rw [List.length_map, List.length_range]; show ¬ 16777216 < _; omega
  simp only [f6, b6, exSs, exS, evE, evEs, evKV, evO, evC, evI, startR, O.test, O.then_nx, O.then_rt, R.go_ok, R.bind_ok, R.of_some, tst_ok, bothD_ok, Option.map_some, List.map_cons, List.map_nil, List.length_cons, List.length_nil, List.cons_append, List.nil_append, List.getElem?_cons_zero, List.getElem?_cons_succ, List.replicate_succ, List.replicate_zero, if_true, if_false, Bool.false_eq_true, ite_true, ite_false, reduceIte, Nat.reduceAdd, Nat.reduceSub, Nat.sub_self, sOk_of, decide_true, decide_false, biD, lenD, seqOf, lstOf, litD, binD, hr, hle, wipeR, List.set_cons_succ, List.set_cons_zero]
  rw [lcp_range (p := fun i => ltB (ks.getD i .non) (ks.getD (i + 1) .non)) fun i hi => ⟨[some (.lst ks), some (.int i)], rfl, rfl, ?_⟩]
  · simp only [exSs, exS, evE, evEs, evKV, evO, evC, evI, startR, O.test, O.then_nx, O.then_rt, R.go_ok, R.bind_ok, R.of_some, tst_ok, bothD_ok, Option.map_some, List.map_cons, List.map_nil, List.length_cons, List.length_nil, List.cons_append, List.nil_append, List.getElem?_cons_zero, List.getElem?_cons_succ, List.replicate_succ, List.replicate_zero, if_true, if_false, Bool.false_eq_true, ite_true, ite_false, reduceIte, Nat.reduceAdd, Nat.reduceSub, Nat.sub_self, sOk_of, decide_true, decide_false, allD_map, List.all_map]
    rfl
  · have h1 : i < ks.length := by omega
    have h2 : i + 1 < ks.length := by omega
    have e2 : atI ks ((i : Int) + 1) = some (ks.getD (i + 1) .non) := at_nat (i := i + 1) h2
    simp only [exSs, exS, evE, evEs, evKV, evO, evC, evI, startR, O.test, O.then_nx, O.then_rt, R.go_ok, R.bind_ok, R.of_some, tst_ok, bothD_ok, Option.map_some, List.map_cons, List.map_nil, List.length_cons, List.length_nil, List.cons_append, List.nil_append, List.getElem?_cons_zero, List.getElem?_cons_succ, List.replicate_succ, List.replicate_zero, if_true, if_false, Bool.false_eq_true, ite_true, ite_false, reduceIte, Nat.reduceAdd, Nat.reduceSub, Nat.sub_self, sOk_of, decide_true, decide_false, idxD, seqOf, lstOf, at_nat h1, addD, e2, cmpD, h i h2, calmR]
theorem lcp_bool {xs : List D} {tg : D → Rho → Option Rho} {cd : Rho → Mem → R Bool} {el : Rho → Mem → R D} {ρ : Rho} {p : D → Bool} (h : ∀ x ∈ xs, ∃ ρ', tg x ρ = some ρ' ∧ cd ρ' m = .ok true m ∧ el ρ' m = .ok (.bl (p x)) m) :
    lcpL none tg cd el ρ xs [] m = .ok (.lst ((xs.map p).map .bl)) m := by
  rw [lcp_pure (f := fun d => .bl (p d)) (q := none) rfl _ _ h, List.nil_append, List.map_map]
  rfl
theorem all_id (xs : List D) (p : D → Bool) : (xs.map p).all id = xs.all p := by
  rw [List.all_map]; rfl
theorem siz_inv {d : D} {n : Int} (h : sizB 0 n d = true) : ∃ xs, d = .tup xs ∧ (xs.length : Int) ≤ n := by
  cases d with
  | tup xs =>
    unfold sizB at h
    rw [Bool.and_eq_true, decide_eq_true_eq, decide_eq_true_eq] at h
    exact ⟨xs, rfl, h.2⟩
  | _ => exact absurd h Bool.false_ne_true
theorem row_no {d : D} {n : Int} {p : D → Bool} (h : sizB 0 n d = false) : rowB n p d = false := by
  cases d with
  | tup xs =>
    have h : (decide ((0 : Int) ≤ xs.length) && decide ((xs.length : Int) ≤ n)) = false := h
    have : decide ((0 : Int) ≤ xs.length) = true := decide_eq_true (by omega)
    rw [this, Bool.true_and] at h
    show (decide ((xs.length : Int) ≤ n) && _ && _ && _) = false
    rw [h]; rfl
  | _ => rfl
theorem im_pair {a b : D} (h : im (.tup [a, b]) = true) : im a = true ∧ im b = true := by
  have h : (im a && (im b && true)) = true := h
  rw [Bool.and_true, Bool.and_eq_true] at h
  exact h
theorem idx0 {a b : D} : idxD (.tup [a, b]) (.int 0) m = some a := rfl
theorem idx1 {a b : D} : idxD (.tup [a, b]) (.int 1) m = some b := rfl
theorem lt_names {a b : D} (ha : nameB a = true) (hb : nameB b = true) : ltD a b = some (ltB a b) := by
  cases a with
  | str x =>
    cases b with
    | str y => rfl
    | _ => exact absurd hb Bool.false_ne_true
  | _ => exact absurd ha Bool.false_ne_true
theorem lt_ints {a b : D} {lo hi lo2 hi2 : Int} (ha : withB lo hi a = true) (hb : withB lo2 hi2 b = true) : ltD a b = some (ltB a b) := by
  cases a with
  | int x =>
    cases b with
    | int y => rfl
    | _ => exact absurd hb Bool.false_ne_true
  | _ => exact absurd ha Bool.false_ne_true
theorem getD_mem {xs : List D} {i : Nat} (h : i < xs.length) : xs.getD i .non ∈ xs := by
  rw [List.getD_eq_getElem?_getD, List.getElem?_eq_getElem h]
  exact List.getElem_mem h
theorem get_map {xs : List D} {i : Nat} (h : i < xs.length) : (xs.map fstD).getD i .non = fstD (xs.getD i .non) := by
  rw [List.getD_eq_getElem?_getD, List.getD_eq_getElem?_getD, List.getElem?_map, List.getElem?_eq_getElem h]
  rfl
theorem lt_rows {xs : List D} {p : D → Bool} (hp : ∀ a b, p a = true → p b = true → ltD (fstD a) (fstD b) = some (ltB (fstD a) (fstD b))) (h : xs.all p = true) (i : Nat) (hi : i + 1 < xs.length) :
    ltD ((xs.map fstD).getD i .non) ((xs.map fstD).getD (i + 1) .non) = some (ltB ((xs.map fstD).getD i .non) ((xs.map fstD).getD (i + 1) .non)) := by
  rw [get_map (by omega), get_map hi]
  exact hp _ _ (List.all_eq_true.mp h _ (getD_mem (by omega))) (List.all_eq_true.mp h _ (getD_mem hi))
theorem lt_stack (a b : D) (ha : stackP a = true) (hb : stackP b = true) : ltD (fstD a) (fstD b) = some (ltB (fstD a) (fstD b)) := by
  unfold stackP at ha hb
  rw [Bool.and_eq_true] at ha hb
  exact lt_names ha.1 hb.1
theorem lt_heap (a b : D) (ha : heapP a = true) (hb : heapP b = true) : ltD (fstD a) (fstD b) = some (ltB (fstD a) (fstD b)) := by
  unfold heapP at ha hb
  rw [Bool.and_eq_true] at ha hb
  exact lt_ints ha.1 hb.1
theorem small_len {xs : List D} {n : Int} (h : (xs.length : Int) ≤ n) (hn : n ≤ 60) : ¬ lim < xs.length := by
  show ¬ 16777216 < _; omega
theorem lcp_fst {xs : List D} {tg : D → Rho → Option Rho} {cd : Rho → Mem → R Bool} {el : Rho → Mem → R D} {ρ : Rho} (h : ∀ x ∈ xs, ∃ ρ', tg x ρ = some ρ' ∧ cd ρ' m = .ok true m ∧ el ρ' m = .ok (fstD x) m) :
    lcpL none tg cd el ρ xs [] m = .ok (.lst (xs.map fstD)) m := by
  rw [lcp_pure (f := fstD) (q := none) rfl _ _ h, List.nil_append]
theorem j_stack {d : D} (h : im d = true) : C (k + 4) 7 [d] m = .ok (.bl (rowB 8 stackP d)) m := by
  refine call_eq (fn := f7) rfl rfl rfl ?_
  simp only [f7, b7, exSs, exS, evE, evEs, evKV, evO, evC, evI, startR, O.test, O.then_nx, O.then_rt, R.go_ok, R.bind_ok, R.of_some, tst_ok, bothD_ok, Option.map_some, List.map_cons, List.map_nil, List.length_cons, List.length_nil, List.cons_append, List.nil_append, List.getElem?_cons_zero, List.getElem?_cons_succ, List.replicate_succ, List.replicate_zero, if_true, if_false, Bool.false_eq_true, ite_true, ite_false, reduceIte, Nat.reduceAdd, Nat.reduceSub, Nat.sub_self, sOk_of, decide_true, decide_false, litD, j_sized h]
  cases hs : sizB 0 8 d with
  | false => simp only [exSs, exS, evE, evEs, evKV, evO, evC, evI, startR, O.test, O.then_nx, O.then_rt, R.go_ok, R.bind_ok, R.of_some, tst_ok, bothD_ok, Option.map_some, List.map_cons, List.map_nil, List.length_cons, List.length_nil, List.cons_append, List.nil_append, List.getElem?_cons_zero, List.getElem?_cons_succ, List.replicate_succ, List.replicate_zero, if_true, if_false, Bool.false_eq_true, ite_true, ite_false, reduceIte, Nat.reduceAdd, Nat.reduceSub, Nat.sub_self, sOk_of, decide_true, decide_false, Bool.not_false, row_no hs]
  | true =>
    obtain ⟨xs, rfl, hl⟩ := siz_inv hs
    have hm := ims_mem (show ims xs = true from h)
    simp only [exSs, exS, evE, evEs, evKV, evO, evC, evI, startR, O.test, O.then_nx, O.then_rt, R.go_ok, R.bind_ok, R.of_some, tst_ok, bothD_ok, Option.map_some, List.map_cons, List.map_nil, List.length_cons, List.length_nil, List.cons_append, List.nil_append, List.getElem?_cons_zero, List.getElem?_cons_succ, List.replicate_succ, List.replicate_zero, if_true, if_false, Bool.false_eq_true, ite_true, ite_false, reduceIte, Nat.reduceAdd, Nat.reduceSub, Nat.sub_self, sOk_of, decide_true, decide_false, Bool.not_true, itsD, seqOf, small_len hl (by decide), wipeR, List.set_cons_succ, List.set_cons_zero]
    rw [lcp_bool (p := two) fun x hx => ⟨[some (.tup xs), some x], rfl, rfl, ?_⟩]
    rotate_left
    · simp only [exSs, exS, evE, evEs, evKV, evO, evC, evI, startR, O.test, O.then_nx, O.then_rt, R.go_ok, R.bind_ok, R.of_some, tst_ok, bothD_ok, Option.map_some, List.map_cons, List.map_nil, List.length_cons, List.length_nil, List.cons_append, List.nil_append, List.getElem?_cons_zero, List.getElem?_cons_succ, List.replicate_succ, List.replicate_zero, if_true, if_false, Bool.false_eq_true, ite_true, ite_false, reduceIte, Nat.reduceAdd, Nat.reduceSub, Nat.sub_self, sOk_of, decide_true, decide_false, j_sized (hm x hx), calmR, two]
    simp only [exSs, exS, evE, evEs, evKV, evO, evC, evI, startR, O.test, O.then_nx, O.then_rt, R.go_ok, R.bind_ok, R.of_some, tst_ok, bothD_ok, Option.map_some, List.map_cons, List.map_nil, List.length_cons, List.length_nil, List.cons_append, List.nil_append, List.getElem?_cons_zero, List.getElem?_cons_succ, List.replicate_succ, List.replicate_zero, if_true, if_false, Bool.false_eq_true, ite_true, ite_false, reduceIte, Nat.reduceAdd, Nat.reduceSub, Nat.sub_self, sOk_of, decide_true, decide_false, biD, allD_map, all_id]
    cases h2 : xs.all two with
    | false => simp only [exSs, exS, evE, evEs, evKV, evO, evC, evI, startR, O.test, O.then_nx, O.then_rt, R.go_ok, R.bind_ok, R.of_some, tst_ok, bothD_ok, Option.map_some, List.map_cons, List.map_nil, List.length_cons, List.length_nil, List.cons_append, List.nil_append, List.getElem?_cons_zero, List.getElem?_cons_succ, List.replicate_succ, List.replicate_zero, if_true, if_false, Bool.false_eq_true, ite_true, ite_false, reduceIte, Nat.reduceAdd, Nat.reduceSub, Nat.sub_self, sOk_of, decide_true, decide_false, Bool.not_false, rowB, h2, Bool.and_false, Bool.false_and]
    | true =>
      simp only [exSs, exS, evE, evEs, evKV, evO, evC, evI, startR, O.test, O.then_nx, O.then_rt, R.go_ok, R.bind_ok, R.of_some, tst_ok, bothD_ok, Option.map_some, List.map_cons, List.map_nil, List.length_cons, List.length_nil, List.cons_append, List.nil_append, List.getElem?_cons_zero, List.getElem?_cons_succ, List.replicate_succ, List.replicate_zero, if_true, if_false, Bool.false_eq_true, ite_true, ite_false, reduceIte, Nat.reduceAdd, Nat.reduceSub, Nat.sub_self, sOk_of, decide_true, decide_false, Bool.not_true, itsD, seqOf, small_len hl (by decide), wipeR, List.set_cons_succ, List.set_cons_zero]
      rw [lcp_bool (p := stackP) fun x hx => ⟨[some (.tup xs), some x], rfl, rfl, ?_⟩]
      rotate_left
      · obtain ⟨a, b, rfl⟩ := two_inv (List.all_eq_true.mp h2 x hx)
        obtain ⟨ia, ib⟩ := im_pair (hm _ hx)
        simp only [exSs, exS, evE, evEs, evKV, evO, evC, evI, startR, O.test, O.then_nx, O.then_rt, R.go_ok, R.bind_ok, R.of_some, tst_ok, bothD_ok, Option.map_some, List.map_cons, List.map_nil, List.length_cons, List.length_nil, List.cons_append, List.nil_append, List.getElem?_cons_zero, List.getElem?_cons_succ, List.replicate_succ, List.replicate_zero, if_true, if_false, Bool.false_eq_true, ite_true, ite_false, reduceIte, Nat.reduceAdd, Nat.reduceSub, Nat.sub_self, sOk_of, decide_true, decide_false, litD, idx0, idx1, j_name ia, j_place ib]
        cases hn : nameB a with
        | false => simp only [exSs, exS, evE, evEs, evKV, evO, evC, evI, startR, O.test, O.then_nx, O.then_rt, R.go_ok, R.bind_ok, R.of_some, tst_ok, bothD_ok, Option.map_some, List.map_cons, List.map_nil, List.length_cons, List.length_nil, List.cons_append, List.nil_append, List.getElem?_cons_zero, List.getElem?_cons_succ, List.replicate_succ, List.replicate_zero, if_true, if_false, Bool.false_eq_true, ite_true, ite_false, reduceIte, Nat.reduceAdd, Nat.reduceSub, Nat.sub_self, sOk_of, decide_true, decide_false, calmR, stackP, fstD, hn, Bool.false_and]
        | true => simp only [exSs, exS, evE, evEs, evKV, evO, evC, evI, startR, O.test, O.then_nx, O.then_rt, R.go_ok, R.bind_ok, R.of_some, tst_ok, bothD_ok, Option.map_some, List.map_cons, List.map_nil, List.length_cons, List.length_nil, List.cons_append, List.nil_append, List.getElem?_cons_zero, List.getElem?_cons_succ, List.replicate_succ, List.replicate_zero, if_true, if_false, Bool.false_eq_true, ite_true, ite_false, reduceIte, Nat.reduceAdd, Nat.reduceSub, Nat.sub_self, sOk_of, decide_true, decide_false, calmR, stackP, fstD, sndD, hn, Bool.true_and]
      simp only [exSs, exS, evE, evEs, evKV, evO, evC, evI, startR, O.test, O.then_nx, O.then_rt, R.go_ok, R.bind_ok, R.of_some, tst_ok, bothD_ok, Option.map_some, List.map_cons, List.map_nil, List.length_cons, List.length_nil, List.cons_append, List.nil_append, List.getElem?_cons_zero, List.getElem?_cons_succ, List.replicate_succ, List.replicate_zero, if_true, if_false, Bool.false_eq_true, ite_true, ite_false, reduceIte, Nat.reduceAdd, Nat.reduceSub, Nat.sub_self, sOk_of, decide_true, decide_false, biD, allD_map, all_id]
      cases h3 : xs.all stackP with
      | false => simp only [exSs, exS, evE, evEs, evKV, evO, evC, evI, startR, O.test, O.then_nx, O.then_rt, R.go_ok, R.bind_ok, R.of_some, tst_ok, bothD_ok, Option.map_some, List.map_cons, List.map_nil, List.length_cons, List.length_nil, List.cons_append, List.nil_append, List.getElem?_cons_zero, List.getElem?_cons_succ, List.replicate_succ, List.replicate_zero, if_true, if_false, Bool.false_eq_true, ite_true, ite_false, reduceIte, Nat.reduceAdd, Nat.reduceSub, Nat.sub_self, sOk_of, decide_true, decide_false, Bool.not_false, rowB, h3, Bool.and_false, Bool.false_and]
      | true =>
        simp only [exSs, exS, evE, evEs, evKV, evO, evC, evI, startR, O.test, O.then_nx, O.then_rt, R.go_ok, R.bind_ok, R.of_some, tst_ok, bothD_ok, Option.map_some, List.map_cons, List.map_nil, List.length_cons, List.length_nil, List.cons_append, List.nil_append, List.getElem?_cons_zero, List.getElem?_cons_succ, List.replicate_succ, List.replicate_zero, if_true, if_false, Bool.false_eq_true, ite_true, ite_false, reduceIte, Nat.reduceAdd, Nat.reduceSub, Nat.sub_self, sOk_of, decide_true, decide_false, Bool.not_true, itsD, seqOf, small_len hl (by decide), wipeR, List.set_cons_succ, List.set_cons_zero]
        rw [lcp_fst fun x hx => ⟨[some (.tup xs), some x], rfl, rfl, ?_⟩]
        rotate_left
        · obtain ⟨a, b, rfl⟩ := two_inv (List.all_eq_true.mp h2 x hx)
          simp only [exSs, exS, evE, evEs, evKV, evO, evC, evI, startR, O.test, O.then_nx, O.then_rt, R.go_ok, R.bind_ok, R.of_some, tst_ok, bothD_ok, Option.map_some, List.map_cons, List.map_nil, List.length_cons, List.length_nil, List.cons_append, List.nil_append, List.getElem?_cons_zero, List.getElem?_cons_succ, List.replicate_succ, List.replicate_zero, if_true, if_false, Bool.false_eq_true, ite_true, ite_false, reduceIte, Nat.reduceAdd, Nat.reduceSub, Nat.sub_self, sOk_of, decide_true, decide_false, litD, idx0, calmR, fstD]
        have hr : callAt T wf (k + 3) 6 [.lst (xs.map fstD)] m = .ok (.bl (risB (xs.map fstD))) m := j_rising (k := k + 2) (by rw [List.length_map]; omega) fun i hi => lt_rows lt_stack h3 i (by rwa [List.length_map] at hi)
        simp only [exSs, exS, evE, evEs, evKV, evO, evC, evI, startR, O.test, O.then_nx, O.then_rt, R.go_ok, R.bind_ok, R.of_some, tst_ok, bothD_ok, Option.map_some, List.map_cons, List.map_nil, List.length_cons, List.length_nil, List.cons_append, List.nil_append, List.getElem?_cons_zero, List.getElem?_cons_succ, List.replicate_succ, List.replicate_zero, if_true, if_false, Bool.false_eq_true, ite_true, ite_false, reduceIte, Nat.reduceAdd, Nat.reduceSub, Nat.sub_self, sOk_of, decide_true, decide_false, hr, rowB, h2, h3, hl, decide_true, Bool.true_and]
theorem with_pos (a : D) : (withB 0 999999999 a && (match a with | .int i => decide (0 < i) | _ => false)) = withB 1 999999999 a := by
  cases a with
  | int i =>
    show (decide (0 ≤ i) && decide (i ≤ 999999999) && decide (0 < i)) = (decide (1 ≤ i) && decide (i ≤ 999999999))
    by_cases h : 0 < i
    · have h1 : (0 : Int) ≤ i := by omega
      have h2 : (1 : Int) ≤ i := by omega
      simp [h, h1, h2]
    · have h2 : ¬ (1 : Int) ≤ i := by omega
      simp [h, h2]
  | _ => rfl
theorem with_int {lo hi : Int} {a : D} (h : withB lo hi a = true) : ∃ i, a = .int i := by
  cases a with
  | int i => exact ⟨i, rfl⟩
  | _ => exact absurd h Bool.false_ne_true
theorem j_heap {d : D} (h : im d = true) : C (k + 4) 8 [d] m = .ok (.bl (rowB 60 heapP d)) m := by
  refine call_eq (fn := f8) rfl rfl rfl ?_
  simp only [f8, b8, exSs, exS, evE, evEs, evKV, evO, evC, evI, startR, O.test, O.then_nx, O.then_rt, R.go_ok, R.bind_ok, R.of_some, tst_ok, bothD_ok, Option.map_some, List.map_cons, List.map_nil, List.length_cons, List.length_nil, List.cons_append, List.nil_append, List.getElem?_cons_zero, List.getElem?_cons_succ, List.replicate_succ, List.replicate_zero, if_true, if_false, Bool.false_eq_true, ite_true, ite_false, reduceIte, Nat.reduceAdd, Nat.reduceSub, Nat.sub_self, sOk_of, decide_true, decide_false, litD, j_sized h]
  cases hs : sizB 0 60 d with
  | false => simp only [exSs, exS, evE, evEs, evKV, evO, evC, evI, startR, O.test, O.then_nx, O.then_rt, R.go_ok, R.bind_ok, R.of_some, tst_ok, bothD_ok, Option.map_some, List.map_cons, List.map_nil, List.length_cons, List.length_nil, List.cons_append, List.nil_append, List.getElem?_cons_zero, List.getElem?_cons_succ, List.replicate_succ, List.replicate_zero, if_true, if_false, Bool.false_eq_true, ite_true, ite_false, reduceIte, Nat.reduceAdd, Nat.reduceSub, Nat.sub_self, sOk_of, decide_true, decide_false, Bool.not_false, row_no hs]
  | true =>
    obtain ⟨xs, rfl, hl⟩ := siz_inv hs
    have hm := ims_mem (show ims xs = true from h)
    simp only [exSs, exS, evE, evEs, evKV, evO, evC, evI, startR, O.test, O.then_nx, O.then_rt, R.go_ok, R.bind_ok, R.of_some, tst_ok, bothD_ok, Option.map_some, List.map_cons, List.map_nil, List.length_cons, List.length_nil, List.cons_append, List.nil_append, List.getElem?_cons_zero, List.getElem?_cons_succ, List.replicate_succ, List.replicate_zero, if_true, if_false, Bool.false_eq_true, ite_true, ite_false, reduceIte, Nat.reduceAdd, Nat.reduceSub, Nat.sub_self, sOk_of, decide_true, decide_false, Bool.not_true, itsD, seqOf, small_len hl (by decide), wipeR, List.set_cons_succ, List.set_cons_zero]
    rw [lcp_bool (p := two) fun x hx => ⟨[some (.tup xs), some x], rfl, rfl, ?_⟩]
    rotate_left
    · simp only [exSs, exS, evE, evEs, evKV, evO, evC, evI, startR, O.test, O.then_nx, O.then_rt, R.go_ok, R.bind_ok, R.of_some, tst_ok, bothD_ok, Option.map_some, List.map_cons, List.map_nil, List.length_cons, List.length_nil, List.cons_append, List.nil_append, List.getElem?_cons_zero, List.getElem?_cons_succ, List.replicate_succ, List.replicate_zero, if_true, if_false, Bool.false_eq_true, ite_true, ite_false, reduceIte, Nat.reduceAdd, Nat.reduceSub, Nat.sub_self, sOk_of, decide_true, decide_false, j_sized (hm x hx), calmR, two]
    simp only [exSs, exS, evE, evEs, evKV, evO, evC, evI, startR, O.test, O.then_nx, O.then_rt, R.go_ok, R.bind_ok, R.of_some, tst_ok, bothD_ok, Option.map_some, List.map_cons, List.map_nil, List.length_cons, List.length_nil, List.cons_append, List.nil_append, List.getElem?_cons_zero, List.getElem?_cons_succ, List.replicate_succ, List.replicate_zero, if_true, if_false, Bool.false_eq_true, ite_true, ite_false, reduceIte, Nat.reduceAdd, Nat.reduceSub, Nat.sub_self, sOk_of, decide_true, decide_false, biD, allD_map, all_id]
    cases h2 : xs.all two with
    | false => simp only [exSs, exS, evE, evEs, evKV, evO, evC, evI, startR, O.test, O.then_nx, O.then_rt, R.go_ok, R.bind_ok, R.of_some, tst_ok, bothD_ok, Option.map_some, List.map_cons, List.map_nil, List.length_cons, List.length_nil, List.cons_append, List.nil_append, List.getElem?_cons_zero, List.getElem?_cons_succ, List.replicate_succ, List.replicate_zero, if_true, if_false, Bool.false_eq_true, ite_true, ite_false, reduceIte, Nat.reduceAdd, Nat.reduceSub, Nat.sub_self, sOk_of, decide_true, decide_false, Bool.not_false, rowB, h2, Bool.and_false, Bool.false_and]
    | true =>
      simp only [exSs, exS, evE, evEs, evKV, evO, evC, evI, startR, O.test, O.then_nx, O.then_rt, R.go_ok, R.bind_ok, R.of_some, tst_ok, bothD_ok, Option.map_some, List.map_cons, List.map_nil, List.length_cons, List.length_nil, List.cons_append, List.nil_append, List.getElem?_cons_zero, List.getElem?_cons_succ, List.replicate_succ, List.replicate_zero, if_true, if_false, Bool.false_eq_true, ite_true, ite_false, reduceIte, Nat.reduceAdd, Nat.reduceSub, Nat.sub_self, sOk_of, decide_true, decide_false, Bool.not_true, itsD, seqOf, small_len hl (by decide), wipeR, List.set_cons_succ, List.set_cons_zero]
      rw [lcp_bool (p := heapP) fun x hx => ⟨[some (.tup xs), some x], rfl, rfl, ?_⟩]
      rotate_left
      · obtain ⟨a, b, rfl⟩ := two_inv (List.all_eq_true.mp h2 x hx)
        obtain ⟨ia, ib⟩ := im_pair (hm _ hx)
        simp only [exSs, exS, evE, evEs, evKV, evO, evC, evI, startR, O.test, O.then_nx, O.then_rt, R.go_ok, R.bind_ok, R.of_some, tst_ok, bothD_ok, Option.map_some, List.map_cons, List.map_nil, List.length_cons, List.length_nil, List.cons_append, List.nil_append, List.getElem?_cons_zero, List.getElem?_cons_succ, List.replicate_succ, List.replicate_zero, if_true, if_false, Bool.false_eq_true, ite_true, ite_false, reduceIte, Nat.reduceAdd, Nat.reduceSub, Nat.sub_self, sOk_of, decide_true, decide_false, litD, idx0, idx1, j_place ia, j_place ib]
        cases hn : withB 0 999999999 a with
        | false =>
          have e := with_pos a
          rw [hn, Bool.false_and] at e
          simp only [exSs, exS, evE, evEs, evKV, evO, evC, evI, startR, O.test, O.then_nx, O.then_rt, R.go_ok, R.bind_ok, R.of_some, tst_ok, bothD_ok, Option.map_some, List.map_cons, List.map_nil, List.length_cons, List.length_nil, List.cons_append, List.nil_append, List.getElem?_cons_zero, List.getElem?_cons_succ, List.replicate_succ, List.replicate_zero, if_true, if_false, Bool.false_eq_true, ite_true, ite_false, reduceIte, Nat.reduceAdd, Nat.reduceSub, Nat.sub_self, sOk_of, decide_true, decide_false, calmR, heapP, fstD, ← e, Bool.false_and]
        | true =>
          obtain ⟨i, rfl⟩ := with_int hn
          have e := with_pos (.int i)
          rw [hn, Bool.true_and] at e
          have e : decide (0 < i) = withB 1 999999999 (.int i) := e
          cases hb : withB 0 999999999 b with
          | false => simp only [exSs, exS, evE, evEs, evKV, evO, evC, evI, startR, O.test, O.then_nx, O.then_rt, R.go_ok, R.bind_ok, R.of_some, tst_ok, bothD_ok, Option.map_some, List.map_cons, List.map_nil, List.length_cons, List.length_nil, List.cons_append, List.nil_append, List.getElem?_cons_zero, List.getElem?_cons_succ, List.replicate_succ, List.replicate_zero, if_true, if_false, Bool.false_eq_true, ite_true, ite_false, reduceIte, Nat.reduceAdd, Nat.reduceSub, Nat.sub_self, sOk_of, decide_true, decide_false, calmR, heapP, fstD, sndD, hb, Bool.and_false]
          | true => simp only [exSs, exS, evE, evEs, evKV, evO, evC, evI, startR, O.test, O.then_nx, O.then_rt, R.go_ok, R.bind_ok, R.of_some, tst_ok, bothD_ok, Option.map_some, List.map_cons, List.map_nil, List.length_cons, List.length_nil, List.cons_append, List.nil_append, List.getElem?_cons_zero, List.getElem?_cons_succ, List.replicate_succ, List.replicate_zero, if_true, if_false, Bool.false_eq_true, ite_true, ite_false, reduceIte, Nat.reduceAdd, Nat.reduceSub, Nat.sub_self, sOk_of, decide_true, decide_false, calmR, cmpD, heapP, fstD, sndD, hb, Bool.and_true, e]
      simp only [exSs, exS, evE, evEs, evKV, evO, evC, evI, startR, O.test, O.then_nx, O.then_rt, R.go_ok, R.bind_ok, R.of_some, tst_ok, bothD_ok, Option.map_some, List.map_cons, List.map_nil, List.length_cons, List.length_nil, List.cons_append, List.nil_append, List.getElem?_cons_zero, List.getElem?_cons_succ, List.replicate_succ, List.replicate_zero, if_true, if_false, Bool.false_eq_true, ite_true, ite_false, reduceIte, Nat.reduceAdd, Nat.reduceSub, Nat.sub_self, sOk_of, decide_true, decide_false, biD, allD_map, all_id]
      cases h3 : xs.all heapP with
      | false => simp only [exSs, exS, evE, evEs, evKV, evO, evC, evI, startR, O.test, O.then_nx, O.then_rt, R.go_ok, R.bind_ok, R.of_some, tst_ok, bothD_ok, Option.map_some, List.map_cons, List.map_nil, List.length_cons, List.length_nil, List.cons_append, List.nil_append, List.getElem?_cons_zero, List.getElem?_cons_succ, List.replicate_succ, List.replicate_zero, if_true, if_false, Bool.false_eq_true, ite_true, ite_false, reduceIte, Nat.reduceAdd, Nat.reduceSub, Nat.sub_self, sOk_of, decide_true, decide_false, Bool.not_false, rowB, h3, Bool.and_false, Bool.false_and]
      | true =>
        simp only [exSs, exS, evE, evEs, evKV, evO, evC, evI, startR, O.test, O.then_nx, O.then_rt, R.go_ok, R.bind_ok, R.of_some, tst_ok, bothD_ok, Option.map_some, List.map_cons, List.map_nil, List.length_cons, List.length_nil, List.cons_append, List.nil_append, List.getElem?_cons_zero, List.getElem?_cons_succ, List.replicate_succ, List.replicate_zero, if_true, if_false, Bool.false_eq_true, ite_true, ite_false, reduceIte, Nat.reduceAdd, Nat.reduceSub, Nat.sub_self, sOk_of, decide_true, decide_false, Bool.not_true, itsD, seqOf, small_len hl (by decide), wipeR, List.set_cons_succ, List.set_cons_zero]
        rw [lcp_fst fun x hx => ⟨[some (.tup xs), some x], rfl, rfl, ?_⟩]
        rotate_left
        · obtain ⟨a, b, rfl⟩ := two_inv (List.all_eq_true.mp h2 x hx)
          simp only [exSs, exS, evE, evEs, evKV, evO, evC, evI, startR, O.test, O.then_nx, O.then_rt, R.go_ok, R.bind_ok, R.of_some, tst_ok, bothD_ok, Option.map_some, List.map_cons, List.map_nil, List.length_cons, List.length_nil, List.cons_append, List.nil_append, List.getElem?_cons_zero, List.getElem?_cons_succ, List.replicate_succ, List.replicate_zero, if_true, if_false, Bool.false_eq_true, ite_true, ite_false, reduceIte, Nat.reduceAdd, Nat.reduceSub, Nat.sub_self, sOk_of, decide_true, decide_false, litD, idx0, calmR, fstD]
        have hr : callAt T wf (k + 3) 6 [.lst (xs.map fstD)] m = .ok (.bl (risB (xs.map fstD))) m := j_rising (k := k + 2) (by rw [List.length_map]; omega) fun i hi => lt_rows lt_heap h3 i (by rwa [List.length_map] at hi)
        simp only [exSs, exS, evE, evEs, evKV, evO, evC, evI, startR, O.test, O.then_nx, O.then_rt, R.go_ok, R.bind_ok, R.of_some, tst_ok, bothD_ok, Option.map_some, List.map_cons, List.map_nil, List.length_cons, List.length_nil, List.cons_append, List.nil_append, List.getElem?_cons_zero, List.getElem?_cons_succ, List.replicate_succ, List.replicate_zero, if_true, if_false, Bool.false_eq_true, ite_true, ite_false, reduceIte, Nat.reduceAdd, Nat.reduceSub, Nat.sub_self, sOk_of, decide_true, decide_false, hr, rowB, h2, h3, hl, decide_true, Bool.true_and]
def stateB (d : D) : Bool := two d && (rowB 8 stackP (fstD d) && rowB 60 heapP (sndD d))
theorem j_state {d : D} (h : im d = true) : C (k + 5) 9 [d] m = .ok (.bl (stateB d)) m := by
  refine call_eq (fn := f9) rfl rfl rfl ?_
  simp only [f9, b9, exSs, exS, evE, evEs, evKV, evO, evC, evI, startR, O.test, O.then_nx, O.then_rt, R.go_ok, R.bind_ok, R.of_some, tst_ok, bothD_ok, Option.map_some, List.map_cons, List.map_nil, List.length_cons, List.length_nil, List.cons_append, List.nil_append, List.getElem?_cons_zero, List.getElem?_cons_succ, List.replicate_succ, List.replicate_zero, if_true, if_false, Bool.false_eq_true, ite_true, ite_false, reduceIte, Nat.reduceAdd, Nat.reduceSub, Nat.sub_self, sOk_of, decide_true, decide_false, litD, j_sized h]
  cases h2 : sizB 2 2 d with
  | false => simp only [exSs, exS, evE, evEs, evKV, evO, evC, evI, startR, O.test, O.then_nx, O.then_rt, R.go_ok, R.bind_ok, R.of_some, tst_ok, bothD_ok, Option.map_some, List.map_cons, List.map_nil, List.length_cons, List.length_nil, List.cons_append, List.nil_append, List.getElem?_cons_zero, List.getElem?_cons_succ, List.replicate_succ, List.replicate_zero, if_true, if_false, Bool.false_eq_true, ite_true, ite_false, reduceIte, Nat.reduceAdd, Nat.reduceSub, Nat.sub_self, sOk_of, decide_true, decide_false, stateB, two, h2, Bool.false_and]
  | true =>
    obtain ⟨a, b, rfl⟩ := two_inv (show two d = true from h2)
    obtain ⟨ia, ib⟩ := im_pair h
    simp only [exSs, exS, evE, evEs, evKV, evO, evC, evI, startR, O.test, O.then_nx, O.then_rt, R.go_ok, R.bind_ok, R.of_some, tst_ok, bothD_ok, Option.map_some, List.map_cons, List.map_nil, List.length_cons, List.length_nil, List.cons_append, List.nil_append, List.getElem?_cons_zero, List.getElem?_cons_succ, List.replicate_succ, List.replicate_zero, if_true, if_false, Bool.false_eq_true, ite_true, ite_false, reduceIte, Nat.reduceAdd, Nat.reduceSub, Nat.sub_self, sOk_of, decide_true, decide_false, idx0, idx1, j_stack ia, j_heap ib]
    cases hn : rowB 8 stackP a with
    | false => simp only [exSs, exS, evE, evEs, evKV, evO, evC, evI, startR, O.test, O.then_nx, O.then_rt, R.go_ok, R.bind_ok, R.of_some, tst_ok, bothD_ok, Option.map_some, List.map_cons, List.map_nil, List.length_cons, List.length_nil, List.cons_append, List.nil_append, List.getElem?_cons_zero, List.getElem?_cons_succ, List.replicate_succ, List.replicate_zero, if_true, if_false, Bool.false_eq_true, ite_true, ite_false, reduceIte, Nat.reduceAdd, Nat.reduceSub, Nat.sub_self, sOk_of, decide_true, decide_false, stateB, two, h2, fstD, hn, Bool.false_and, Bool.true_and]
    | true => simp only [exSs, exS, evE, evEs, evKV, evO, evC, evI, startR, O.test, O.then_nx, O.then_rt, R.go_ok, R.bind_ok, R.of_some, tst_ok, bothD_ok, Option.map_some, List.map_cons, List.map_nil, List.length_cons, List.length_nil, List.cons_append, List.nil_append, List.getElem?_cons_zero, List.getElem?_cons_succ, List.replicate_succ, List.replicate_zero, if_true, if_false, Bool.false_eq_true, ite_true, ite_false, reduceIte, Nat.reduceAdd, Nat.reduceSub, Nat.sub_self, sOk_of, decide_true, decide_false, stateB, two, h2, fstD, sndD, hn, Bool.true_and]
/-! the law's own judge -/
theorem o_place {d : D} {lo : Int} (h : im d = true) : C (k + 1) 14 [d, .int lo] m = .ok (.bl (withB lo 999999999 d)) m := by
  refine call_eq (fn := f14) rfl rfl rfl ?_
  cases d with
  | int i =>
    have e : binD .Pow (.int 10) (.int 9) m = .ok (.int 1000000000) m := rfl
    simp only [f14, b14, exSs, exS, evE, evEs, evKV, evO, evC, evI, startR, O.test, O.then_nx, O.then_rt, R.go_ok, R.bind_ok, R.of_some, tst_ok, bothD_ok, Option.map_some, List.map_cons, List.map_nil, List.length_cons, List.length_nil, List.cons_append, List.nil_append, List.getElem?_cons_zero, List.getElem?_cons_succ, List.replicate_succ, List.replicate_zero, if_true, if_false, Bool.false_eq_true, ite_true, ite_false, reduceIte, Nat.reduceAdd, Nat.reduceSub, Nat.sub_self, sOk_of, decide_true, decide_false, isiD, tyOf, List.any_cons, List.any_nil, isTy, Bool.or_false, litD, e, cmpD, ltD]
    have e2 : decide (i < 1000000000) = decide (i ≤ 999999999) := decide_eq_decide.mpr (by omega)
    by_cases hh : lo ≤ i
    · simp only [exSs, exS, evE, evEs, evKV, evO, evC, evI, startR, O.test, O.then_nx, O.then_rt, R.go_ok, R.bind_ok, R.of_some, tst_ok, bothD_ok, Option.map_some, List.map_cons, List.map_nil, List.length_cons, List.length_nil, List.cons_append, List.nil_append, List.getElem?_cons_zero, List.getElem?_cons_succ, List.replicate_succ, List.replicate_zero, if_true, if_false, Bool.false_eq_true, ite_true, ite_false, reduceIte, Nat.reduceAdd, Nat.reduceSub, Nat.sub_self, sOk_of, decide_true, decide_false, hh, decide_true, withB, Bool.true_and, Bool.not_false, decide_false, e2, reduceCtorEq]
    · simp only [exSs, exS, evE, evEs, evKV, evO, evC, evI, startR, O.test, O.then_nx, O.then_rt, R.go_ok, R.bind_ok, R.of_some, tst_ok, bothD_ok, Option.map_some, List.map_cons, List.map_nil, List.length_cons, List.length_nil, List.cons_append, List.nil_append, List.getElem?_cons_zero, List.getElem?_cons_succ, List.replicate_succ, List.replicate_zero, if_true, if_false, Bool.false_eq_true, ite_true, ite_false, reduceIte, Nat.reduceAdd, Nat.reduceSub, Nat.sub_self, sOk_of, decide_true, decide_false, hh, decide_false, withB, Bool.false_and, Bool.not_false, reduceCtorEq]
  | ref n => exact absurd h Bool.false_ne_true
  | fn => exact absurd h Bool.false_ne_true
  | scr n => exact absurd h Bool.false_ne_true
  | _ => rfl
theorem in_boundL {x : Str} : inD m (.str x) (.lst [.str (Str.ofString "nil"), .str (Str.ofString "new"), .str (Str.ofString "free"), .str (Str.ofString "if"), .str (Str.ofString "else"), .str (Str.ofString "while"), .str (Str.ofString "keep"), .str (Str.ofString "emp")]) = some (bndB x) := rfl
theorem o_name {d : D} (h : im d = true) : C (k + 1) 15 [d] m = .ok (.bl (nameB d)) m := by
  refine call_eq (fn := f15) rfl rfl rfl ?_
  cases d with
  | str x =>
    have hx : x.length ≤ lim := of_decide_eq_true h
    simp only [f15, b15, exSs, exS, evE, evEs, evKV, evO, evC, evI, startR, O.test, O.then_nx, O.then_rt, R.go_ok, R.bind_ok, R.of_some, tst_ok, bothD_ok, Option.map_some, List.map_cons, List.map_nil, List.length_cons, List.length_nil, List.cons_append, List.nil_append, List.getElem?_cons_zero, List.getElem?_cons_succ, List.replicate_succ, List.replicate_zero, if_true, if_false, Bool.false_eq_true, ite_true, ite_false, reduceIte, Nat.reduceAdd, Nat.reduceSub, Nat.sub_self, sOk_of, decide_true, decide_false, isiD, tyOf, List.any_cons, List.any_nil, isTy, decide_true, Bool.or_false, Bool.not_true, biD, lenD, hx, cmpD, litD]
    by_cases h1 : (1 : Int) ≤ x.length
    case neg => simp only [exSs, exS, evE, evEs, evKV, evO, evC, evI, startR, O.test, O.then_nx, O.then_rt, R.go_ok, R.bind_ok, R.of_some, tst_ok, bothD_ok, Option.map_some, List.map_cons, List.map_nil, List.length_cons, List.length_nil, List.cons_append, List.nil_append, List.getElem?_cons_zero, List.getElem?_cons_succ, List.replicate_succ, List.replicate_zero, if_true, if_false, Bool.false_eq_true, ite_true, ite_false, reduceIte, Nat.reduceAdd, Nat.reduceSub, Nat.sub_self, sOk_of, decide_true, decide_false, h1, decide_false, Bool.not_false, nameB, Bool.false_and]
    simp only [exSs, exS, evE, evEs, evKV, evO, evC, evI, startR, O.test, O.then_nx, O.then_rt, R.go_ok, R.bind_ok, R.of_some, tst_ok, bothD_ok, Option.map_some, List.map_cons, List.map_nil, List.length_cons, List.length_nil, List.cons_append, List.nil_append, List.getElem?_cons_zero, List.getElem?_cons_succ, List.replicate_succ, List.replicate_zero, if_true, if_false, Bool.false_eq_true, ite_true, ite_false, reduceIte, Nat.reduceAdd, Nat.reduceSub, Nat.sub_self, sOk_of, decide_true, decide_false, h1, decide_true]
    by_cases h8 : (x.length : Int) ≤ 8
    case neg => simp only [exSs, exS, evE, evEs, evKV, evO, evC, evI, startR, O.test, O.then_nx, O.then_rt, R.go_ok, R.bind_ok, R.of_some, tst_ok, bothD_ok, Option.map_some, List.map_cons, List.map_nil, List.length_cons, List.length_nil, List.cons_append, List.nil_append, List.getElem?_cons_zero, List.getElem?_cons_succ, List.replicate_succ, List.replicate_zero, if_true, if_false, Bool.false_eq_true, ite_true, ite_false, reduceIte, Nat.reduceAdd, Nat.reduceSub, Nat.sub_self, sOk_of, decide_true, decide_false, h8, decide_false, Bool.not_false, nameB, Bool.false_and, Bool.and_false]
    simp only [exSs, exS, evE, evEs, evKV, evO, evC, evI, startR, O.test, O.then_nx, O.then_rt, R.go_ok, R.bind_ok, R.of_some, tst_ok, bothD_ok, Option.map_some, List.map_cons, List.map_nil, List.length_cons, List.length_nil, List.cons_append, List.nil_append, List.getElem?_cons_zero, List.getElem?_cons_succ, List.replicate_succ, List.replicate_zero, if_true, if_false, Bool.false_eq_true, ite_true, ite_false, reduceIte, Nat.reduceAdd, Nat.reduceSub, Nat.sub_self, sOk_of, decide_true, decide_false, h8, decide_true, Bool.not_true, in_boundL]
    cases hb : bndB x with
    | true => simp only [exSs, exS, evE, evEs, evKV, evO, evC, evI, startR, O.test, O.then_nx, O.then_rt, R.go_ok, R.bind_ok, R.of_some, tst_ok, bothD_ok, Option.map_some, List.map_cons, List.map_nil, List.length_cons, List.length_nil, List.cons_append, List.nil_append, List.getElem?_cons_zero, List.getElem?_cons_succ, List.replicate_succ, List.replicate_zero, if_true, if_false, Bool.false_eq_true, ite_true, ite_false, reduceIte, Nat.reduceAdd, Nat.reduceSub, Nat.sub_self, sOk_of, decide_true, decide_false, nameB, hb, Bool.not_true, Bool.and_false, Bool.false_and]
    | false =>
      have hl : (x.cps.toList.map fun c => D.str ⟨#[c]⟩).length ≤ lim := by rw [List.length_map]; exact hx
      simp only [exSs, exS, evE, evEs, evKV, evO, evC, evI, startR, O.test, O.then_nx, O.then_rt, R.go_ok, R.bind_ok, R.of_some, tst_ok, bothD_ok, Option.map_some, List.map_cons, List.map_nil, List.length_cons, List.length_nil, List.cons_append, List.nil_append, List.getElem?_cons_zero, List.getElem?_cons_succ, List.replicate_succ, List.replicate_zero, if_true, if_false, Bool.false_eq_true, ite_true, ite_false, reduceIte, Nat.reduceAdd, Nat.reduceSub, Nat.sub_self, sOk_of, decide_true, decide_false, itsD, Nat.not_lt.mpr hl, wipeR, List.set_cons_succ, List.set_cons_zero]
      rw [j_signs (m := m) (x := x) fun c => ⟨[some (.str x), some (.str ⟨#[c]⟩)], rfl, rfl, rfl⟩]
      simp only [exSs, exS, evE, evEs, evKV, evO, evC, evI, startR, O.test, O.then_nx, O.then_rt, R.go_ok, R.bind_ok, R.of_some, tst_ok, bothD_ok, Option.map_some, List.map_cons, List.map_nil, List.length_cons, List.length_nil, List.cons_append, List.nil_append, List.getElem?_cons_zero, List.getElem?_cons_succ, List.replicate_succ, List.replicate_zero, if_true, if_false, Bool.false_eq_true, ite_true, ite_false, reduceIte, Nat.reduceAdd, Nat.reduceSub, Nat.sub_self, sOk_of, decide_true, decide_false, all_let, nameB, hb, h1, h8, decide_true, Bool.not_false, Bool.true_and]
  | ref n => exact absurd h Bool.false_ne_true
  | fn => exact absurd h Bool.false_ne_true
  | scr n => exact absurd h Bool.false_ne_true
  | _ => rfl
def pairsB (n : Int) : D → Bool
  | .tup xs => decide ((xs.length : Int) ≤ n) && xs.all two
  | _ => false
theorem two_eq (d : D) : (isTy (tyOf m d) .tuple && (match d with | .tup xs => decide (xs.length = 2) | _ => false)) = two d := by
  cases d <;> first | rfl | skip
  · rename_i xs
    show (true && decide (xs.length = 2)) = (decide ((2 : Int) ≤ xs.length) && decide ((xs.length : Int) ≤ 2))
    by_cases h : xs.length = 2
    · simp [h]
    · have : ¬ ((2 : Int) ≤ xs.length ∧ (xs.length : Int) ≤ 2) := by omega
      rw [← Bool.decide_and]
      simp only [h, this, decide_false, Bool.and_false]
  · rename_i n
    show (_ && false) = false
    rw [Bool.and_false]
theorem eqv_int (a b : Int) : PyData.eqv (.int a) (.int b) = decide (a = b) := by
  by_cases h : a = b
  · simp [PyData.eqv, h]
  · simp [PyData.eqv, h]
theorem o_pairs {d : D} {n : Int} (hn : n ≤ 60) (h : im d = true) : C (k + 1) 16 [d, .int n] m = .ok (.bl (pairsB n d)) m := by
  refine call_eq (fn := f16) rfl rfl rfl ?_
  cases d with
  | tup xs =>
    have hm := ims_mem (show ims xs = true from h)
    simp only [f16, b16, exSs, exS, evE, evEs, evKV, evO, evC, evI, startR, O.test, O.then_nx, O.then_rt, R.go_ok, R.bind_ok, R.of_some, tst_ok, bothD_ok, Option.map_some, List.map_cons, List.map_nil, List.length_cons, List.length_nil, List.cons_append, List.nil_append, List.getElem?_cons_zero, List.getElem?_cons_succ, List.replicate_succ, List.replicate_zero, if_true, if_false, Bool.false_eq_true, ite_true, ite_false, reduceIte, Nat.reduceAdd, Nat.reduceSub, Nat.sub_self, sOk_of, decide_true, decide_false, isiD, tyOf, List.any_cons, List.any_nil, isTy, Bool.or_false, Bool.not_true, biD, lenD, seqOf, cmpD]
    by_cases hl : (xs.length : Int) ≤ n
    · have hg : ¬ n < (xs.length : Int) := by omega
      simp only [exSs, exS, evE, evEs, evKV, evO, evC, evI, startR, O.test, O.then_nx, O.then_rt, R.go_ok, R.bind_ok, R.of_some, tst_ok, bothD_ok, Option.map_some, List.map_cons, List.map_nil, List.length_cons, List.length_nil, List.cons_append, List.nil_append, List.getElem?_cons_zero, List.getElem?_cons_succ, List.replicate_succ, List.replicate_zero, if_true, if_false, Bool.false_eq_true, ite_true, ite_false, reduceIte, Nat.reduceAdd, Nat.reduceSub, Nat.sub_self, sOk_of, decide_true, decide_false, hg, itsD, seqOf, small_len hl hn, wipeR, List.set_cons_succ, List.set_cons_zero]
      rw [lcp_bool (p := two) fun x hx => ⟨[some (.tup xs), some (.int n), some x], rfl, rfl, ?_⟩]
      rotate_left
      · have hi := hm x hx
        cases x with
        | tup ys =>
          simp only [exSs, exS, evE, evEs, evKV, evO, evC, evI, startR, O.test, O.then_nx, O.then_rt, R.go_ok, R.bind_ok, R.of_some, tst_ok, bothD_ok, Option.map_some, List.map_cons, List.map_nil, List.length_cons, List.length_nil, List.cons_append, List.nil_append, List.getElem?_cons_zero, List.getElem?_cons_succ, List.replicate_succ, List.replicate_zero, if_true, if_false, Bool.false_eq_true, ite_true, ite_false, reduceIte, Nat.reduceAdd, Nat.reduceSub, Nat.sub_self, sOk_of, decide_true, decide_false, isiD, tyOf, List.any_cons, List.any_nil, isTy, Bool.or_false, biD, lenD, seqOf, litD, cmpD, eqD, res, EV.plain, Bool.and_true, pd, eqv_int, calmR]
          have := two_eq (m := m) (.tup ys)
          rw [← this]
          show R.ok (D.bl (decide ((ys.length : Int) = 2))) m = R.ok (D.bl (true && decide (ys.length = 2))) m
          rw [Bool.true_and]
          congr 2
          exact decide_eq_decide.mpr (by omega)
        | ref n => exact absurd hi Bool.false_ne_true
        | fn => exact absurd hi Bool.false_ne_true
        | scr n => exact absurd hi Bool.false_ne_true
        | _ => rfl
      simp only [exSs, exS, evE, evEs, evKV, evO, evC, evI, startR, O.test, O.then_nx, O.then_rt, R.go_ok, R.bind_ok, R.of_some, tst_ok, bothD_ok, Option.map_some, List.map_cons, List.map_nil, List.length_cons, List.length_nil, List.cons_append, List.nil_append, List.getElem?_cons_zero, List.getElem?_cons_succ, List.replicate_succ, List.replicate_zero, if_true, if_false, Bool.false_eq_true, ite_true, ite_false, reduceIte, Nat.reduceAdd, Nat.reduceSub, Nat.sub_self, sOk_of, decide_true, decide_false, allD_map, all_id, pairsB, hl, Bool.true_and]
    · have hg : n < (xs.length : Int) := by omega
      simp only [exSs, exS, evE, evEs, evKV, evO, evC, evI, startR, O.test, O.then_nx, O.then_rt, R.go_ok, R.bind_ok, R.of_some, tst_ok, bothD_ok, Option.map_some, List.map_cons, List.map_nil, List.length_cons, List.length_nil, List.cons_append, List.nil_append, List.getElem?_cons_zero, List.getElem?_cons_succ, List.replicate_succ, List.replicate_zero, if_true, if_false, Bool.false_eq_true, ite_true, ite_false, reduceIte, Nat.reduceAdd, Nat.reduceSub, Nat.sub_self, sOk_of, decide_true, decide_false, litD, hg, pairsB, hl, Bool.false_and]
  | ref n => exact absurd h Bool.false_ne_true
  | fn => exact absurd h Bool.false_ne_true
  | scr n => exact absurd h Bool.false_ne_true
  | _ => rfl
theorem pairs_inv {d : D} {n : Int} (h : pairsB n d = true) : ∃ xs, d = .tup xs ∧ (xs.length : Int) ≤ n ∧ xs.all two = true := by
  cases d with
  | tup xs =>
    have h : (decide ((xs.length : Int) ≤ n) && xs.all two) = true := h
    rw [Bool.and_eq_true, decide_eq_true_eq] at h
    exact ⟨xs, rfl, h.1, h.2⟩
  | _ => exact absurd h Bool.false_ne_true
theorem pairs_no {d : D} {n : Int} {p : D → Bool} (h : pairsB n d = false) : rowB n p d = false := by
  cases d with
  | tup xs =>
    have h : (decide ((xs.length : Int) ≤ n) && xs.all two) = false := h
    show (decide ((xs.length : Int) ≤ n) && xs.all two && _ && _) = false
    rw [h]; rfl
  | _ => rfl
theorem fst_eq {d : D} (h : two d = true) : idxD d (.int 0) m = some (fstD d) := by
  obtain ⟨a, b, rfl⟩ := two_inv h
  rfl
theorem rising_in {xs : List D} {p : D → Bool} {n : Int} (hn : n ≤ 60) (hp : ∀ a b, p a = true → p b = true → ltD (fstD a) (fstD b) = some (ltB (fstD a) (fstD b))) (hl : (xs.length : Int) ≤ n) (h2 : xs.all two = true) (h3 : xs.all p = true) {i : Nat} (hi : i < xs.length - 1) :
    idxD (.tup xs) (.int (i : Nat)) m = some (xs.getD i .non) ∧ idxD (.tup xs) (.int ((i : Int) + 1)) m = some (xs.getD (i + 1) .non) ∧ idxD (xs.getD i .non) (.int 0) m = some (fstD (xs.getD i .non)) ∧ idxD (xs.getD (i + 1) .non) (.int 0) m = some (fstD (xs.getD (i + 1) .non)) ∧
      ltD (fstD (xs.getD i .non)) (fstD (xs.getD (i + 1) .non)) = some (ltB ((xs.map fstD).getD i .non) ((xs.map fstD).getD (i + 1) .non)) := by
  have e := lt_rows hp h3 i (by omega)
  refine ⟨at_nat (by omega), at_nat (i := i + 1) (by omega), fst_eq (List.all_eq_true.mp h2 _ (getD_mem (by omega))), fst_eq (List.all_eq_true.mp h2 _ (getD_mem (by omega))), ?_⟩
  rw [get_map (by omega), get_map (by omega)] at e ⊢
  exact e
theorem o_stack {d : D} (h : im d = true) : C (k + 2) 17 [d] m = .ok (.bl (rowB 8 stackP d)) m := by
  refine call_eq (fn := f17) rfl rfl rfl ?_
  simp only [f17, b17, exSs, exS, evE, evEs, evKV, evO, evC, evI, startR, O.test, O.then_nx, O.then_rt, R.go_ok, R.bind_ok, R.of_some, tst_ok, bothD_ok, Option.map_some, List.map_cons, List.map_nil, List.length_cons, List.length_nil, List.cons_append, List.nil_append, List.getElem?_cons_zero, List.getElem?_cons_succ, List.replicate_succ, List.replicate_zero, if_true, if_false, Bool.false_eq_true, ite_true, ite_false, reduceIte, Nat.reduceAdd, Nat.reduceSub, Nat.sub_self, sOk_of, decide_true, decide_false, litD, o_pairs (n := 8) (by decide) h]
  cases hs : pairsB 8 d with
  | false => simp only [exSs, exS, evE, evEs, evKV, evO, evC, evI, startR, O.test, O.then_nx, O.then_rt, R.go_ok, R.bind_ok, R.of_some, tst_ok, bothD_ok, Option.map_some, List.map_cons, List.map_nil, List.length_cons, List.length_nil, List.cons_append, List.nil_append, List.getElem?_cons_zero, List.getElem?_cons_succ, List.replicate_succ, List.replicate_zero, if_true, if_false, Bool.false_eq_true, ite_true, ite_false, reduceIte, Nat.reduceAdd, Nat.reduceSub, Nat.sub_self, sOk_of, decide_true, decide_false, Bool.not_false, pairs_no hs]
  | true =>
    obtain ⟨xs, rfl, hl, h2⟩ := pairs_inv hs
    have hm := ims_mem (show ims xs = true from h)
    simp only [exSs, exS, evE, evEs, evKV, evO, evC, evI, startR, O.test, O.then_nx, O.then_rt, R.go_ok, R.bind_ok, R.of_some, tst_ok, bothD_ok, Option.map_some, List.map_cons, List.map_nil, List.length_cons, List.length_nil, List.cons_append, List.nil_append, List.getElem?_cons_zero, List.getElem?_cons_succ, List.replicate_succ, List.replicate_zero, if_true, if_false, Bool.false_eq_true, ite_true, ite_false, reduceIte, Nat.reduceAdd, Nat.reduceSub, Nat.sub_self, sOk_of, decide_true, decide_false, Bool.not_true, itsD, seqOf, small_len hl (by decide), wipeR, List.set_cons_succ, List.set_cons_zero]
    rw [lcp_bool (p := stackP) fun x hx => ⟨[some (.tup xs), none, some x], rfl, rfl, ?_⟩]
    rotate_left
    · obtain ⟨a, b, rfl⟩ := two_inv (List.all_eq_true.mp h2 x hx)
      obtain ⟨ia, ib⟩ := im_pair (hm _ hx)
      simp only [exSs, exS, evE, evEs, evKV, evO, evC, evI, startR, O.test, O.then_nx, O.then_rt, R.go_ok, R.bind_ok, R.of_some, tst_ok, bothD_ok, Option.map_some, List.map_cons, List.map_nil, List.length_cons, List.length_nil, List.cons_append, List.nil_append, List.getElem?_cons_zero, List.getElem?_cons_succ, List.replicate_succ, List.replicate_zero, if_true, if_false, Bool.false_eq_true, ite_true, ite_false, reduceIte, Nat.reduceAdd, Nat.reduceSub, Nat.sub_self, sOk_of, decide_true, decide_false, litD, idx0, idx1, o_name ia, o_place ib]
      cases hn : nameB a with
      | false => simp only [exSs, exS, evE, evEs, evKV, evO, evC, evI, startR, O.test, O.then_nx, O.then_rt, R.go_ok, R.bind_ok, R.of_some, tst_ok, bothD_ok, Option.map_some, List.map_cons, List.map_nil, List.length_cons, List.length_nil, List.cons_append, List.nil_append, List.getElem?_cons_zero, List.getElem?_cons_succ, List.replicate_succ, List.replicate_zero, if_true, if_false, Bool.false_eq_true, ite_true, ite_false, reduceIte, Nat.reduceAdd, Nat.reduceSub, Nat.sub_self, sOk_of, decide_true, decide_false, calmR, stackP, fstD, hn, Bool.false_and]
      | true => simp only [exSs, exS, evE, evEs, evKV, evO, evC, evI, startR, O.test, O.then_nx, O.then_rt, R.go_ok, R.bind_ok, R.of_some, tst_ok, bothD_ok, Option.map_some, List.map_cons, List.map_nil, List.length_cons, List.length_nil, List.cons_append, List.nil_append, List.getElem?_cons_zero, List.getElem?_cons_succ, List.replicate_succ, List.replicate_zero, if_true, if_false, Bool.false_eq_true, ite_true, ite_false, reduceIte, Nat.reduceAdd, Nat.reduceSub, Nat.sub_self, sOk_of, decide_true, decide_false, calmR, stackP, fstD, sndD, hn, Bool.true_and]
    simp only [exSs, exS, evE, evEs, evKV, evO, evC, evI, startR, O.test, O.then_nx, O.then_rt, R.go_ok, R.bind_ok, R.of_some, tst_ok, bothD_ok, Option.map_some, List.map_cons, List.map_nil, List.length_cons, List.length_nil, List.cons_append, List.nil_append, List.getElem?_cons_zero, List.getElem?_cons_succ, List.replicate_succ, List.replicate_zero, if_true, if_false, Bool.false_eq_true, ite_true, ite_false, reduceIte, Nat.reduceAdd, Nat.reduceSub, Nat.sub_self, sOk_of, decide_true, decide_false, biD, allD_map, all_id]
    cases h3 : xs.all stackP with
    | false => simp only [exSs, exS, evE, evEs, evKV, evO, evC, evI, startR, O.test, O.then_nx, O.then_rt, R.go_ok, R.bind_ok, R.of_some, tst_ok, bothD_ok, Option.map_some, List.map_cons, List.map_nil, List.length_cons, List.length_nil, List.cons_append, List.nil_append, List.getElem?_cons_zero, List.getElem?_cons_succ, List.replicate_succ, List.replicate_zero, if_true, if_false, Bool.false_eq_true, ite_true, ite_false, reduceIte, Nat.reduceAdd, Nat.reduceSub, Nat.sub_self, sOk_of, decide_true, decide_false, Bool.not_false, rowB, h3, Bool.and_false, Bool.false_and]
    | true =>
      have hr := rng_nat (i := (xs.length : Int) - 1) (xs.length - 1) (by omega) (by omega) (by show _ ≤ (16777216 : Int); omega)
      have hle : ¬ lim < ((List.range (xs.length - 1)).map fun (j : Nat) => D.int (0 + (j : Int))).length := by
        rw [List.length_map, List.length_range]; show ¬ 16777216 < _; omega
      simp only [exSs, exS, evE, evEs, evKV, evO, evC, evI, startR, O.test, O.then_nx, O.then_rt, R.go_ok, R.bind_ok, R.of_some, tst_ok, bothD_ok, Option.map_some, List.map_cons, List.map_nil, List.length_cons, List.length_nil, List.cons_append, List.nil_append, List.getElem?_cons_zero, List.getElem?_cons_succ, List.replicate_succ, List.replicate_zero, if_true, if_false, Bool.false_eq_true, ite_true, ite_false, reduceIte, Nat.reduceAdd, Nat.reduceSub, Nat.sub_self, sOk_of, decide_true, decide_false, Bool.not_true, lenD, seqOf, litD, binD, hr, hle, wipeR, List.set_cons_succ, List.set_cons_zero]
      rw [lcp_range (p := fun i => ltB ((xs.map fstD).getD i .non) ((xs.map fstD).getD (i + 1) .non)) fun i hi => ⟨[some (.tup xs), some (.int i), none], rfl, rfl, ?_⟩]
      · simp only [exSs, exS, evE, evEs, evKV, evO, evC, evI, startR, O.test, O.then_nx, O.then_rt, R.go_ok, R.bind_ok, R.of_some, tst_ok, bothD_ok, Option.map_some, List.map_cons, List.map_nil, List.length_cons, List.length_nil, List.cons_append, List.nil_append, List.getElem?_cons_zero, List.getElem?_cons_succ, List.replicate_succ, List.replicate_zero, if_true, if_false, Bool.false_eq_true, ite_true, ite_false, reduceIte, Nat.reduceAdd, Nat.reduceSub, Nat.sub_self, sOk_of, decide_true, decide_false, allD_map, List.all_map, rowB, h2, h3, hl, Bool.true_and, risB, List.length_map]
        rfl
      · obtain ⟨e1, e2, e3, e4, e5⟩ := rising_in (m := m) (n := 8) (by decide) lt_stack hl h2 h3 hi
        simp only [exSs, exS, evE, evEs, evKV, evO, evC, evI, startR, O.test, O.then_nx, O.then_rt, R.go_ok, R.bind_ok, R.of_some, tst_ok, bothD_ok, Option.map_some, List.map_cons, List.map_nil, List.length_cons, List.length_nil, List.cons_append, List.nil_append, List.getElem?_cons_zero, List.getElem?_cons_succ, List.replicate_succ, List.replicate_zero, if_true, if_false, Bool.false_eq_true, ite_true, ite_false, reduceIte, Nat.reduceAdd, Nat.reduceSub, Nat.sub_self, sOk_of, decide_true, decide_false, e1, e2, e3, e4, addD, cmpD, e5, calmR]
theorem o_heap {d : D} (h : im d = true) : C (k + 2) 18 [d] m = .ok (.bl (rowB 60 heapP d)) m := by
  refine call_eq (fn := f18) rfl rfl rfl ?_
  simp only [f18, b18, exSs, exS, evE, evEs, evKV, evO, evC, evI, startR, O.test, O.then_nx, O.then_rt, R.go_ok, R.bind_ok, R.of_some, tst_ok, bothD_ok, Option.map_some, List.map_cons, List.map_nil, List.length_cons, List.length_nil, List.cons_append, List.nil_append, List.getElem?_cons_zero, List.getElem?_cons_succ, List.replicate_succ, List.replicate_zero, if_true, if_false, Bool.false_eq_true, ite_true, ite_false, reduceIte, Nat.reduceAdd, Nat.reduceSub, Nat.sub_self, sOk_of, decide_true, decide_false, litD, o_pairs (n := 60) (by decide) h]
  cases hs : pairsB 60 d with
  | false => simp only [exSs, exS, evE, evEs, evKV, evO, evC, evI, startR, O.test, O.then_nx, O.then_rt, R.go_ok, R.bind_ok, R.of_some, tst_ok, bothD_ok, Option.map_some, List.map_cons, List.map_nil, List.length_cons, List.length_nil, List.cons_append, List.nil_append, List.getElem?_cons_zero, List.getElem?_cons_succ, List.replicate_succ, List.replicate_zero, if_true, if_false, Bool.false_eq_true, ite_true, ite_false, reduceIte, Nat.reduceAdd, Nat.reduceSub, Nat.sub_self, sOk_of, decide_true, decide_false, Bool.not_false, pairs_no hs]
  | true =>
    obtain ⟨xs, rfl, hl, h2⟩ := pairs_inv hs
    have hm := ims_mem (show ims xs = true from h)
    simp only [exSs, exS, evE, evEs, evKV, evO, evC, evI, startR, O.test, O.then_nx, O.then_rt, R.go_ok, R.bind_ok, R.of_some, tst_ok, bothD_ok, Option.map_some, List.map_cons, List.map_nil, List.length_cons, List.length_nil, List.cons_append, List.nil_append, List.getElem?_cons_zero, List.getElem?_cons_succ, List.replicate_succ, List.replicate_zero, if_true, if_false, Bool.false_eq_true, ite_true, ite_false, reduceIte, Nat.reduceAdd, Nat.reduceSub, Nat.sub_self, sOk_of, decide_true, decide_false, Bool.not_true, itsD, seqOf, small_len hl (by decide), wipeR, List.set_cons_succ, List.set_cons_zero]
    rw [lcp_bool (p := heapP) fun x hx => ⟨[some (.tup xs), none, some x], rfl, rfl, ?_⟩]
    rotate_left
    · obtain ⟨a, b, rfl⟩ := two_inv (List.all_eq_true.mp h2 x hx)
      obtain ⟨ia, ib⟩ := im_pair (hm _ hx)
      simp only [exSs, exS, evE, evEs, evKV, evO, evC, evI, startR, O.test, O.then_nx, O.then_rt, R.go_ok, R.bind_ok, R.of_some, tst_ok, bothD_ok, Option.map_some, List.map_cons, List.map_nil, List.length_cons, List.length_nil, List.cons_append, List.nil_append, List.getElem?_cons_zero, List.getElem?_cons_succ, List.replicate_succ, List.replicate_zero, if_true, if_false, Bool.false_eq_true, ite_true, ite_false, reduceIte, Nat.reduceAdd, Nat.reduceSub, Nat.sub_self, sOk_of, decide_true, decide_false, litD, idx0, idx1, o_place ia, o_place ib]
      cases hn : withB 1 999999999 a with
      | false => simp only [exSs, exS, evE, evEs, evKV, evO, evC, evI, startR, O.test, O.then_nx, O.then_rt, R.go_ok, R.bind_ok, R.of_some, tst_ok, bothD_ok, Option.map_some, List.map_cons, List.map_nil, List.length_cons, List.length_nil, List.cons_append, List.nil_append, List.getElem?_cons_zero, List.getElem?_cons_succ, List.replicate_succ, List.replicate_zero, if_true, if_false, Bool.false_eq_true, ite_true, ite_false, reduceIte, Nat.reduceAdd, Nat.reduceSub, Nat.sub_self, sOk_of, decide_true, decide_false, calmR, heapP, fstD, hn, Bool.false_and]
      | true => simp only [exSs, exS, evE, evEs, evKV, evO, evC, evI, startR, O.test, O.then_nx, O.then_rt, R.go_ok, R.bind_ok, R.of_some, tst_ok, bothD_ok, Option.map_some, List.map_cons, List.map_nil, List.length_cons, List.length_nil, List.cons_append, List.nil_append, List.getElem?_cons_zero, List.getElem?_cons_succ, List.replicate_succ, List.replicate_zero, if_true, if_false, Bool.false_eq_true, ite_true, ite_false, reduceIte, Nat.reduceAdd, Nat.reduceSub, Nat.sub_self, sOk_of, decide_true, decide_false, calmR, heapP, fstD, sndD, hn, Bool.true_and]
    simp only [exSs, exS, evE, evEs, evKV, evO, evC, evI, startR, O.test, O.then_nx, O.then_rt, R.go_ok, R.bind_ok, R.of_some, tst_ok, bothD_ok, Option.map_some, List.map_cons, List.map_nil, List.length_cons, List.length_nil, List.cons_append, List.nil_append, List.getElem?_cons_zero, List.getElem?_cons_succ, List.replicate_succ, List.replicate_zero, if_true, if_false, Bool.false_eq_true, ite_true, ite_false, reduceIte, Nat.reduceAdd, Nat.reduceSub, Nat.sub_self, sOk_of, decide_true, decide_false, biD, allD_map, all_id]
    cases h3 : xs.all heapP with
    | false => simp only [exSs, exS, evE, evEs, evKV, evO, evC, evI, startR, O.test, O.then_nx, O.then_rt, R.go_ok, R.bind_ok, R.of_some, tst_ok, bothD_ok, Option.map_some, List.map_cons, List.map_nil, List.length_cons, List.length_nil, List.cons_append, List.nil_append, List.getElem?_cons_zero, List.getElem?_cons_succ, List.replicate_succ, List.replicate_zero, if_true, if_false, Bool.false_eq_true, ite_true, ite_false, reduceIte, Nat.reduceAdd, Nat.reduceSub, Nat.sub_self, sOk_of, decide_true, decide_false, Bool.not_false, rowB, h3, Bool.and_false, Bool.false_and]
    | true =>
      have hr := rng_nat (i := (xs.length : Int) - 1) (xs.length - 1) (by omega) (by omega) (by show _ ≤ (16777216 : Int); omega)
      have hle : ¬ lim < ((List.range (xs.length - 1)).map fun (j : Nat) => D.int (0 + (j : Int))).length := by
        rw [List.length_map, List.length_range]; show ¬ 16777216 < _; omega
      simp only [exSs, exS, evE, evEs, evKV, evO, evC, evI, startR, O.test, O.then_nx, O.then_rt, R.go_ok, R.bind_ok, R.of_some, tst_ok, bothD_ok, Option.map_some, List.map_cons, List.map_nil, List.length_cons, List.length_nil, List.cons_append, List.nil_append, List.getElem?_cons_zero, List.getElem?_cons_succ, List.replicate_succ, List.replicate_zero, if_true, if_false, Bool.false_eq_true, ite_true, ite_false, reduceIte, Nat.reduceAdd, Nat.reduceSub, Nat.sub_self, sOk_of, decide_true, decide_false, Bool.not_true, lenD, seqOf, litD, binD, hr, hle, wipeR, List.set_cons_succ, List.set_cons_zero]
      rw [lcp_range (p := fun i => ltB ((xs.map fstD).getD i .non) ((xs.map fstD).getD (i + 1) .non)) fun i hi => ⟨[some (.tup xs), some (.int i), none], rfl, rfl, ?_⟩]
      · simp only [exSs, exS, evE, evEs, evKV, evO, evC, evI, startR, O.test, O.then_nx, O.then_rt, R.go_ok, R.bind_ok, R.of_some, tst_ok, bothD_ok, Option.map_some, List.map_cons, List.map_nil, List.length_cons, List.length_nil, List.cons_append, List.nil_append, List.getElem?_cons_zero, List.getElem?_cons_succ, List.replicate_succ, List.replicate_zero, if_true, if_false, Bool.false_eq_true, ite_true, ite_false, reduceIte, Nat.reduceAdd, Nat.reduceSub, Nat.sub_self, sOk_of, decide_true, decide_false, allD_map, List.all_map, rowB, h2, h3, hl, Bool.true_and, risB, List.length_map]
        rfl
      · obtain ⟨e1, e2, e3, e4, e5⟩ := rising_in (m := m) (n := 60) (by decide) lt_heap hl h2 h3 hi
        simp only [exSs, exS, evE, evEs, evKV, evO, evC, evI, startR, O.test, O.then_nx, O.then_rt, R.go_ok, R.bind_ok, R.of_some, tst_ok, bothD_ok, Option.map_some, List.map_cons, List.map_nil, List.length_cons, List.length_nil, List.cons_append, List.nil_append, List.getElem?_cons_zero, List.getElem?_cons_succ, List.replicate_succ, List.replicate_zero, if_true, if_false, Bool.false_eq_true, ite_true, ite_false, reduceIte, Nat.reduceAdd, Nat.reduceSub, Nat.sub_self, sOk_of, decide_true, decide_false, e1, e2, e3, e4, addD, cmpD, e5, calmR]
theorem o_state {d : D} (h : im d = true) : C (k + 3) 19 [d] m = .ok (.bl (stateB d)) m := by
  refine call_eq (fn := f19) rfl rfl rfl ?_
  cases d with
  | tup xs =>
    simp only [f19, b19, exSs, exS, evE, evEs, evKV, evO, evC, evI, startR, O.test, O.then_nx, O.then_rt, R.go_ok, R.bind_ok, R.of_some, tst_ok, bothD_ok, Option.map_some, List.map_cons, List.map_nil, List.length_cons, List.length_nil, List.cons_append, List.nil_append, List.getElem?_cons_zero, List.getElem?_cons_succ, List.replicate_succ, List.replicate_zero, if_true, if_false, Bool.false_eq_true, ite_true, ite_false, reduceIte, Nat.reduceAdd, Nat.reduceSub, Nat.sub_self, sOk_of, decide_true, decide_false, isiD, tyOf, List.any_cons, List.any_nil, isTy, Bool.or_false, Bool.not_true, biD, lenD, seqOf, litD, cmpD, eqD, res, EV.plain, Bool.and_true, pd, eqv_int]
    by_cases hl : (xs.length : Int) = 2
    · have h2 : two (.tup xs) = true := by
        show (decide ((2 : Int) ≤ xs.length) && decide ((xs.length : Int) ≤ 2)) = true
        rw [hl]; rfl
      have hd : decide ((xs.length : Int) = 2) = true := decide_eq_true hl
      simp only [hd, exSs, exS, evE, evEs, evKV, evO, evC, evI, startR, O.test, O.then_nx, O.then_rt, R.go_ok, R.bind_ok, R.of_some, tst_ok, bothD_ok, Option.map_some, List.map_cons, List.map_nil, List.length_cons, List.length_nil, List.cons_append, List.nil_append, List.getElem?_cons_zero, List.getElem?_cons_succ, List.replicate_succ, List.replicate_zero, if_true, if_false, Bool.false_eq_true, ite_true, ite_false, reduceIte, Nat.reduceAdd, Nat.reduceSub, Nat.sub_self, sOk_of, decide_true, decide_false, Bool.not_true]
      obtain ⟨a, b, e⟩ := two_inv h2
      cases e
      obtain ⟨ia, ib⟩ := im_pair h
      simp only [exSs, exS, evE, evEs, evKV, evO, evC, evI, startR, O.test, O.then_nx, O.then_rt, R.go_ok, R.bind_ok, R.of_some, tst_ok, bothD_ok, Option.map_some, List.map_cons, List.map_nil, List.length_cons, List.length_nil, List.cons_append, List.nil_append, List.getElem?_cons_zero, List.getElem?_cons_succ, List.replicate_succ, List.replicate_zero, if_true, if_false, Bool.false_eq_true, ite_true, ite_false, reduceIte, Nat.reduceAdd, Nat.reduceSub, Nat.sub_self, sOk_of, decide_true, decide_false, idx0, idx1, o_stack ia, o_heap ib]
      cases hn : rowB 8 stackP a with
      | false => simp only [exSs, exS, evE, evEs, evKV, evO, evC, evI, startR, O.test, O.then_nx, O.then_rt, R.go_ok, R.bind_ok, R.of_some, tst_ok, bothD_ok, Option.map_some, List.map_cons, List.map_nil, List.length_cons, List.length_nil, List.cons_append, List.nil_append, List.getElem?_cons_zero, List.getElem?_cons_succ, List.replicate_succ, List.replicate_zero, if_true, if_false, Bool.false_eq_true, ite_true, ite_false, reduceIte, Nat.reduceAdd, Nat.reduceSub, Nat.sub_self, sOk_of, decide_true, decide_false, stateB, h2, fstD, hn, Bool.false_and, Bool.true_and]
      | true => simp only [exSs, exS, evE, evEs, evKV, evO, evC, evI, startR, O.test, O.then_nx, O.then_rt, R.go_ok, R.bind_ok, R.of_some, tst_ok, bothD_ok, Option.map_some, List.map_cons, List.map_nil, List.length_cons, List.length_nil, List.cons_append, List.nil_append, List.getElem?_cons_zero, List.getElem?_cons_succ, List.replicate_succ, List.replicate_zero, if_true, if_false, Bool.false_eq_true, ite_true, ite_false, reduceIte, Nat.reduceAdd, Nat.reduceSub, Nat.sub_self, sOk_of, decide_true, decide_false, stateB, h2, fstD, sndD, hn, Bool.true_and]
    · have h2 : two (.tup xs) = false := by
        show (decide ((2 : Int) ≤ xs.length) && decide ((xs.length : Int) ≤ 2)) = false
        rw [← Bool.decide_and]
        exact decide_eq_false (by omega)
      simp only [exSs, exS, evE, evEs, evKV, evO, evC, evI, startR, O.test, O.then_nx, O.then_rt, R.go_ok, R.bind_ok, R.of_some, tst_ok, bothD_ok, Option.map_some, List.map_cons, List.map_nil, List.length_cons, List.length_nil, List.cons_append, List.nil_append, List.getElem?_cons_zero, List.getElem?_cons_succ, List.replicate_succ, List.replicate_zero, if_true, if_false, Bool.false_eq_true, ite_true, ite_false, reduceIte, Nat.reduceAdd, Nat.reduceSub, Nat.sub_self, sOk_of, decide_true, decide_false, hl, Bool.not_false, stateB, h2, Bool.false_and]
  | ref n => exact absurd h Bool.false_ne_true
  | fn => exact absurd h Bool.false_ne_true
  | scr n => exact absurd h Bool.false_ne_true
  | _ => rfl
theorem is_bl {a b : Bool} : C (k + 1) 13 [.bl a, .bl b] m = .ok (.bl (a == b)) m := by
  refine call_eq (fn := f13) rfl rfl rfl ?_
  cases a <;> cases b <;> rfl
end
end K01

/-! k01: the hand and what is drawn. -/
namespace K01
open PySem PySem.Spec PyProof.Rows L2 EV
/-- the hand's cell -/
def HC (c : Cell) : Prop := ∃ (cs : List Int) (i a b n : Int), c = .lst [.lst (cs.map .int), .int i, .int a, .int b, .int n] ∧ cs.length ≤ 63 ∧ (∀ x ∈ cs, 0 ≤ x) ∧ 0 ≤ i ∧ 0 ≤ a
section
variable {k : Nat} {c : Cell} {ms : Mem}
theorem bels_ints (n : Nat) : ∀ cs : List Int, bels n (cs.map .int) = true
  | [] => rfl
  | c :: cs => by
    show (true && bels n (cs.map .int)) = true
    rw [bels_ints n cs]; rfl
theorem HC.bel {n : Nat} (h : HC c) : belC n c = true := by
  obtain ⟨cs, i, a, b, m, rfl, _⟩ := h
  show (bels n (cs.map .int) && (true && (true && (true && (true && true))))) = true
  rw [bels_ints]; rfl
theorem gc_hand {c' : Cell} {more : Mem} {d : D} (h : HC c') (hb : ∀ n, EV.bel n d = true) : gcR (c :: ms) (.ok d (c' :: (ms ++ more))) = .ok d (c' :: ms) := by
  unfold gcR
  have h1 : keepC (c :: ms).length (c :: ms) (c' :: (ms ++ more)) = true := by
    show ((decide (c = c') || belC (c :: ms).length c') && keepC (c :: ms).length ms (ms ++ more)) = true
    rw [h.bel, Bool.or_true, keepC_same]; rfl
  dsimp only
  rw [if_pos h1, if_pos (hb _)]
  show R.ok d (c' :: (ms ++ more).take ms.length) = _
  rw [List.take_left']
  rfl
/-- a call on the hand: what is drawn is P, the hand stays a hand -/
def Dr (ms : Mem) (r : R D) (P : D → Prop) : Prop := ∃ d c', r = .ok d (c' :: ms) ∧ HC c' ∧ P d
theorem Dr.imp {r : R D} {P P' : D → Prop} (h : Dr ms r P) (q : ∀ d, P d → P' d) : Dr ms r P' := by
  obtain ⟨d, c', e, hc, p⟩ := h
  exact ⟨d, c', e, hc, q d p⟩
theorem Dr.of {i : Nat} {fn : Fn} {ds : List D} {P : D → Prop} (hT : T[i]? = some fn) (hl : ds.length = fn.np) (h : ∃ d c' more, exSs (C k) (fun _ => .bad) wf fn.body (startR fn.ns ds) (c :: ms) = .rt d (c' :: (ms ++ more)) ∧ HC c' ∧ (∀ n, EV.bel n d = true) ∧ P d) : Dr ms (C (k + 1) i ds (c :: ms)) P := by
  obtain ⟨d, c', more, e, hc, hb, p⟩ := h
  refine ⟨d, c', ?_, hc, p⟩
  show (match T[i]? with | some fn => runFn (C k) wf fn ds (c :: ms) | none => .bad) = _
  rw [hT]
  show runFn (C k) wf fn ds (c :: ms) = _
  unfold runFn
  rw [if_pos hl, e]
  exact gc_hand hc hb
variable {x0 x1 x2 x3 x4 v : D}
abbrev H5 (x0 x1 x2 x3 x4 : D) : Cell := .lst [x0, x1, x2, x3, x4]
theorem g0 : idxD (.ref 0) (.int 0) (H5 x0 x1 x2 x3 x4 :: ms) = some x0 := rfl
theorem g1 : idxD (.ref 0) (.int 1) (H5 x0 x1 x2 x3 x4 :: ms) = some x1 := rfl
theorem g2 : idxD (.ref 0) (.int 2) (H5 x0 x1 x2 x3 x4 :: ms) = some x2 := rfl
theorem g3 : idxD (.ref 0) (.int 3) (H5 x0 x1 x2 x3 x4 :: ms) = some x3 := rfl
theorem g4 : idxD (.ref 0) (.int 4) (H5 x0 x1 x2 x3 x4 :: ms) = some x4 := rfl
theorem s1 : setD (.ref 0) (.int 1) v (H5 x0 x1 x2 x3 x4 :: ms) = some (H5 x0 v x2 x3 x4 :: ms) := rfl
theorem s2 : setD (.ref 0) (.int 2) v (H5 x0 x1 x2 x3 x4 :: ms) = some (H5 x0 x1 v x3 x4 :: ms) := rfl
theorem s3 : setD (.ref 0) (.int 3) v (H5 x0 x1 x2 x3 x4 :: ms) = some (H5 x0 x1 x2 v x4 :: ms) := rfl
theorem s4 : setD (.ref 0) (.int 4) v (H5 x0 x1 x2 x3 x4 :: ms) = some (H5 x0 x1 x2 x3 v :: ms) := rfl
theorem mulL {i j : Int} (m : Mem) (h : -(2 ^ 64) < i ∧ i < 2 ^ 64) : binD .Mult (.int i) (.int j) m = .ok (.int (i * j)) m := by
  exact if_pos (decide_eq_true (.inl h) : mulOk i j = true)
theorem mulR {i j : Int} (m : Mem) (h : -(2 ^ 64) < j ∧ j < 2 ^ 64) : binD .Mult (.int i) (.int j) m = .ok (.int (i * j)) m := by
  exact if_pos (decide_eq_true (.inr h) : mulOk i j = true)
theorem mod_ok {i j : Int} (m : Mem) (h : j ≠ 0) : binD .Mod (.int i) (.int j) m = .ok (.int (i.fmod j)) m := if_pos h
theorem div_ok {i j : Int} (m : Mem) (h : j ≠ 0 ∧ j.natAbs < 1073741824) : binD .FloorDiv (.int i) (.int j) m = .ok (.int (i.fdiv j)) m := if_pos h
theorem add_ok {i j : Int} (m : Mem) : binD .Add (.int i) (.int j) m = .ok (.int (i + j)) m := rfl
theorem pow18 (m : Mem) : binD .Pow (.int 10) (.int 18) m = .ok (.int (10 ^ 18)) m := rfl
theorem int_ok (i : Int) (m : Mem) : biD .int [.int i] m = .ok (.int i) m := rfl
theorem lt_ok (x y : Int) (m : Mem) : cmpD .Lt (.int x) (.int y) m = some (decide (x < y)) := rfl
theorem gt_ok (x y : Int) (m : Mem) : cmpD .Gt (.int x) (.int y) m = some (decide (y < x)) := rfl
theorem ge_ok (x y : Int) (m : Mem) : cmpD .GtE (.int x) (.int y) m = some (decide (y ≤ x)) := rfl
theorem eq_ok (x y : Int) (m : Mem) : cmpD .Eq (.int x) (.int y) m = some (decide (x = y)) := by
  show some (PyData.eqv (.int x) (.int y)) = _
  rw [eqv_int]
theorem draw_ok {many : Int} (hc : HC c) (h1 : 1 ≤ many) (h2 : many < 1073741824) : Dr ms (C (k + 1) 11 [.ref 0, .int many] (c :: ms)) fun d => ∃ r, d = .int r ∧ 0 ≤ r ∧ r < many := by
  refine Dr.of (fn := f11) rfl rfl ?_
  obtain ⟨cs, i, a, b, n, rfl, hl, hcs, hi, ha⟩ := hc
  have part2 : ∀ (i a b n : Int) (y : Option D), 0 ≤ i → 0 ≤ a → ∃ d c' more, exSs (C k) (fun _ => .bad) wf (match b11 with | .cons _ r => r | _ => .nil) [some (.ref 0), some (.int many), none, y, none] (H5 (.lst (cs.map .int)) (.int i) (.int a) (.int b) (.int n) :: ms) = .rt d (c' :: (ms ++ more)) ∧ HC c' ∧ (∀ n, EV.bel n d = true) ∧ ∃ r, d = .int r ∧ 0 ≤ r ∧ r < many := by
    intro i a b n y hi ha
    have hm0 : many ≠ 0 := by omega
    have hmn : many.natAbs < 1073741824 := by omega
    by_cases ha0 : 0 < a
    · refine ⟨.int (a.fmod many), H5 (.lst (cs.map .int)) (.int i) (.int (a.fdiv many)) (.int b) (.int n), [], ?_, ⟨cs, i, a.fdiv many, b, n, rfl, hl, hcs, hi, Int.fdiv_nonneg ha (by omega)⟩, fun _ => rfl, _, rfl, Int.fmod_nonneg_of_pos a (by omega), Int.fmod_lt_of_pos a (by omega)⟩
      simp only [b11, exSs, exS, evE, evEs, evKV, evO, evC, evI, startR, O.test, O.then_nx, O.then_rt, R.go_ok, R.bind_ok, R.of_some, tst_ok, bothD_ok, Option.map_some, List.map_cons, List.map_nil, List.length_cons, List.length_nil, List.cons_append, List.nil_append, List.getElem?_cons_zero, List.getElem?_cons_succ, List.replicate_succ, List.replicate_zero, if_true, if_false, Bool.false_eq_true, ite_true, ite_false, reduceIte, Nat.reduceAdd, Nat.reduceSub, Nat.sub_self, sOk_of, decide_true, decide_false, g2, litD, gt_ok, ha0, int_ok, mod_ok _ hm0, div_ok _ ⟨hm0, hmn⟩, s2, tgD, List.set_cons_zero, List.set_cons_succ, O.ofR_some, O.ofM_some, Nat.reduceLT, List.append_nil]
    · have m1 : ∀ x : Int, binD .Mult (.int 7919) (.int x) = fun m => .ok (.int (7919 * x)) m := fun x => funext fun m => mulL m (by omega)
      have m2 : ∀ x : Int, binD .Mult (.int x) (.int 40692) = fun m => .ok (.int (x * 40692)) m := fun x => funext fun m => mulR m (by omega)
      have z1 : (2147483647 : Int) ≠ 0 := by omega
      have z2 : (2147483563 : Int) ≠ 0 := by omega
      have z3 : (1009 : Int) ≠ 0 ∧ (1009 : Int).natAbs < 1073741824 := by decide
      have z4 : (2003 : Int) ≠ 0 ∧ (2003 : Int).natAbs < 1073741824 := by decide
      have z5 : (16 : Int) ≠ 0 ∧ (16 : Int).natAbs < 1073741824 := by decide
      generalize hA : ((b + 7919 * (n + 1)) * 40692).fmod 2147483647 = A
      have hA1 : 0 ≤ A := by rw [← hA]; exact Int.fmod_nonneg_of_pos _ (by omega)
      have hA2 : A < 2147483647 := by rw [← hA]; exact Int.fmod_lt_of_pos _ (by omega)
      generalize hB : (A * (A.fdiv 1009 + 69621)).fmod 2147483647 = B
      have hB1 : 0 ≤ B := by rw [← hB]; exact Int.fmod_nonneg_of_pos _ (by omega)
      have hB2 : B < 2147483647 := by rw [← hB]; exact Int.fmod_lt_of_pos _ (by omega)
      have m3 : ∀ x : Int, binD .Mult (.int A) (.int x) = fun m => .ok (.int (A * x)) m := fun x => funext fun m => mulL m (by omega)
      have m4 : ∀ x : Int, binD .Mult (.int B) (.int x) = fun m => .ok (.int (B * x)) m := fun x => funext fun m => mulL m (by omega)
      refine ⟨.int ((((B * (B.fdiv 2003 + 40014)).fmod 2147483563).fdiv 16).fmod many), H5 (.lst (cs.map .int)) (.int i) (.int a) (.int b) (.int (n + 1)), [], ?_, ⟨cs, i, a, b, n + 1, rfl, hl, hcs, hi, ha⟩, fun _ => rfl, _, rfl, Int.fmod_nonneg_of_pos _ (by omega), Int.fmod_lt_of_pos _ (by omega)⟩
      simp only [b11, exSs, exS, evE, evEs, evKV, evO, evC, evI, startR, O.test, O.then_nx, O.then_rt, R.go_ok, R.bind_ok, R.of_some, tst_ok, bothD_ok, Option.map_some, List.map_cons, List.map_nil, List.length_cons, List.length_nil, List.cons_append, List.nil_append, List.getElem?_cons_zero, List.getElem?_cons_succ, List.replicate_succ, List.replicate_zero, if_true, if_false, Bool.false_eq_true, ite_true, ite_false, reduceIte, Nat.reduceAdd, Nat.reduceSub, Nat.sub_self, sOk_of, decide_true, decide_false, g2, g3, g4, litD, gt_ok, ha0, int_ok, add_ok, m1, m2, mod_ok _ hm0, mod_ok _ z1, mod_ok _ z2, div_ok _ z3, div_ok _ z4, div_ok _ z5, hA, m3, hB, m4, s4, tgD, List.set_cons_zero, List.set_cons_succ, O.ofR_some, O.ofM_some, Nat.reduceLT, List.append_nil]
  have part1 : ∃ (i2 a2 b2 : Int) (y : Option D), exS (C k) (fun _ => .bad) wf (match b11 with | .cons s _ => s | _ => .pas) [some (.ref 0), some (.int many), none, none, none] (H5 (.lst (cs.map .int)) (.int i) (.int a) (.int b) (.int n) :: ms) = .nx [some (.ref 0), some (.int many), none, y, none] (H5 (.lst (cs.map .int)) (.int i2) (.int a2) (.int b2) (.int n) :: ms) ∧ 0 ≤ i2 ∧ 0 ≤ a2 := by
    have hlen : ∀ m : Mem, biD .len [.lst (cs.map .int)] m = .ok (.int cs.length) m := fun m => by
      show R.ok (D.int ((cs.map D.int).length : Nat)) _ = _
      rw [List.length_map]
    cases hd : decide (a = 0) with
    | false => exact ⟨i, a, b, none, by simp only [b11, exSs, exS, evE, evEs, evKV, evO, evC, evI, startR, O.test, O.then_nx, O.then_rt, R.go_ok, R.bind_ok, R.of_some, tst_ok, bothD_ok, Option.map_some, List.map_cons, List.map_nil, List.length_cons, List.length_nil, List.cons_append, List.nil_append, List.getElem?_cons_zero, List.getElem?_cons_succ, List.replicate_succ, List.replicate_zero, if_true, if_false, Bool.false_eq_true, ite_true, ite_false, reduceIte, Nat.reduceAdd, Nat.reduceSub, Nat.sub_self, sOk_of, decide_true, decide_false, g2, litD, eq_ok, hd], hi, ha⟩
    | true =>
    by_cases hil : i < (cs.length : Int)
    case neg => exact ⟨i, a, b, none, by simp only [b11, exSs, exS, evE, evEs, evKV, evO, evC, evI, startR, O.test, O.then_nx, O.then_rt, R.go_ok, R.bind_ok, R.of_some, tst_ok, bothD_ok, Option.map_some, List.map_cons, List.map_nil, List.length_cons, List.length_nil, List.cons_append, List.nil_append, List.getElem?_cons_zero, List.getElem?_cons_succ, List.replicate_succ, List.replicate_zero, if_true, if_false, Bool.false_eq_true, ite_true, ite_false, reduceIte, Nat.reduceAdd, Nat.reduceSub, Nat.sub_self, sOk_of, decide_true, decide_false, g0, g1, g2, litD, eq_ok, hd, lt_ok, hlen, hil], hi, ha⟩
    obtain ⟨j, rfl⟩ := Int.eq_ofNat_of_zero_le hi
    have hj : j < cs.length := by omega
    have hx : ∀ m : Mem, idxD (.lst (cs.map .int)) (.int (j : Nat)) m = some (.int cs[j]) := fun m => by
      show atI (cs.map D.int) (j : Int) = _
      exact atI_nat (by rw [List.getElem?_map, List.getElem?_eq_getElem hj]; rfl)
    have hx0 : 0 ≤ cs[j] := hcs _ (List.getElem_mem hj)
    have m1 : ∀ x : Int, binD .Mult (.int x) (.int 69621) = fun m => .ok (.int (x * 69621)) m := fun x => funext fun m => mulR m (by omega)
    have m2 : ∀ x : Int, binD .Mult (.int x) (.int 48271) = fun m => .ok (.int (x * 48271)) m := fun x => funext fun m => mulR m (by omega)
    have z1 : (2147483629 : Int) ≠ 0 := by omega
    by_cases hbig : (10 ^ 18 : Int) ≤ cs[j]
    · refine ⟨(j : Int) + 1, cs[j], (b * 69621 + cs[j] * 48271 + 47).fmod 2147483629, some (.int cs[j]), ?_, by omega, hx0⟩
      simp only [b11, exSs, exS, evE, evEs, evKV, evO, evC, evI, startR, O.test, O.then_nx, O.then_rt, R.go_ok, R.bind_ok, R.of_some, tst_ok, bothD_ok, Option.map_some, List.map_cons, List.map_nil, List.length_cons, List.length_nil, List.cons_append, List.nil_append, List.getElem?_cons_zero, List.getElem?_cons_succ, List.replicate_succ, List.replicate_zero, if_true, if_false, Bool.false_eq_true, ite_true, ite_false, reduceIte, Nat.reduceAdd, Nat.reduceSub, Nat.sub_self, sOk_of, decide_true, decide_false, g0, g1, g2, g3, litD, eq_ok, hd, lt_ok, ge_ok, hlen, hil, hx, tgD, List.set_cons_zero, List.set_cons_succ, O.ofR_some, O.ofM_some, Nat.reduceLT, add_ok, s1, s2, s3, m1, m2, int_ok, mod_ok _ z1, pow18, hbig]
    · refine ⟨(j : Int) + 1, a, (b * 69621 + cs[j] * 48271 + 47).fmod 2147483629, some (.int cs[j]), ?_, by omega, ha⟩
      simp only [b11, exSs, exS, evE, evEs, evKV, evO, evC, evI, startR, O.test, O.then_nx, O.then_rt, R.go_ok, R.bind_ok, R.of_some, tst_ok, bothD_ok, Option.map_some, List.map_cons, List.map_nil, List.length_cons, List.length_nil, List.cons_append, List.nil_append, List.getElem?_cons_zero, List.getElem?_cons_succ, List.replicate_succ, List.replicate_zero, if_true, if_false, Bool.false_eq_true, ite_true, ite_false, reduceIte, Nat.reduceAdd, Nat.reduceSub, Nat.sub_self, sOk_of, decide_true, decide_false, g0, g1, g2, g3, litD, eq_ok, hd, lt_ok, ge_ok, hlen, hil, hx, tgD, List.set_cons_zero, List.set_cons_succ, O.ofR_some, O.ofM_some, Nat.reduceLT, add_ok, s1, s2, s3, m1, m2, int_ok, mod_ok _ z1, pow18, hbig]
  obtain ⟨i2, a2, b2, y, e1, h3, h4⟩ := part1
  obtain ⟨d, c', more, e2, h5, h6, h7⟩ := part2 i2 a2 b2 n y h3 h4
  refine ⟨d, c', more, ?_, h5, h6, h7⟩
  have e : exSs (C k) (fun _ => .bad) wf f11.body (startR f11.ns [.ref 0, .int many]) (H5 (.lst (cs.map .int)) (.int i) (.int a) (.int b) (.int n) :: ms) = (exS (C k) (fun _ => .bad) wf (match b11 with | .cons s _ => s | _ => .pas) [some (.ref 0), some (.int many), none, none, none] (H5 (.lst (cs.map .int)) (.int i) (.int a) (.int b) (.int n) :: ms)).then fun ρ m => exSs (C k) (fun _ => .bad) wf (match b11 with | .cons _ r => r | _ => .nil) ρ m := rfl
  rw [e, e1]
  exact e2
end
end K01

/-! k01: what is drawn. -/
namespace K01
open PySem PySem.Spec PyProof.Rows L2 EV
section
variable {k : Nat} {c : Cell} {ms : Mem}
/-- behind a body -/
def Ed (ms : Mem) (P : D → Prop) (d : D) (m : Mem) : Prop := ∃ c' more, m = c' :: (ms ++ more) ∧ HC c' ∧ (∀ n, bel n d = true) ∧ P d
theorem Ed.here {P : D → Prop} {d : D} (hc : HC c) (hb : ∀ n, bel n d = true) (p : P d) : Ed ms P d (c :: ms) := ⟨c, [], by rw [List.append_nil], hc, hb, p⟩
theorem Dr.by {i : Nat} {fn : Fn} {ds : List D} {P : D → Prop} (hT : T[i]? = some fn) (hl : ds.length = fn.np) (h : Wo (exSs (C k) (fun _ => .bad) wf fn.body (startR fn.ns ds) (c :: ms)) (fun _ _ => False) (Ed ms P)) : Dr ms (C (k + 1) i ds (c :: ms)) P := by
  refine Dr.of hT hl ?_
  revert h
  cases exSs (C k) (fun _ => .bad) wf fn.body (startR fn.ns ds) (c :: ms) with
  | rt d m =>
    intro h
    obtain ⟨c', more, rfl, h1, h2, h3⟩ := h
    exact ⟨d, c', more, rfl, h1, h2, h3⟩
  | nx _ _ => exact fun h => False.elim h
  | bk _ _ => exact fun h => False.elim h
  | ct _ _ => exact fun h => False.elim h
  | ex _ _ _ _ => exact fun h => False.elim h
  | bad => exact fun h => False.elim h
theorem Dr.wr {r : R D} {P : D → Prop} {Q : D → Mem → Prop} (h : Dr ms r P) (q : ∀ d c', HC c' → P d → Q d (c' :: ms)) : Wr r Q := by
  obtain ⟨d, c', rfl, h1, h2⟩ := h
  exact q d c' h1 h2
theorem some_ok {xs : List D} (hc : HC c) (h1 : 1 ≤ xs.length) (h2 : xs.length < 1000000) (hb : ∀ x ∈ xs, ∀ n, bel n x = true) : Dr ms (C (k + 2) 12 [.ref 0, .lst xs] (c :: ms)) fun d => d ∈ xs := by
  refine Dr.by (fn := f12) rfl rfl ?_
  simp only [f12, b12, exSs, exS, evE, evEs, evKV, evO, evC, evI, startR, O.test, O.then_nx, O.then_rt, R.go_ok, R.bind_ok, R.of_some, tst_ok, bothD_ok, Option.map_some, List.map_cons, List.map_nil, List.length_cons, List.length_nil, List.cons_append, List.nil_append, List.getElem?_cons_zero, List.getElem?_cons_succ, List.replicate_succ, List.replicate_zero, if_true, if_false, Bool.false_eq_true, ite_true, ite_false, reduceIte, Nat.reduceAdd, Nat.reduceSub, Nat.sub_self, sOk_of, decide_true, decide_false, Wr_ok, Wr_bind, Wr_of, Wr_calm, Wo_nx, Wo_rt, Wo_go, Wo_then, Wo_test, Wo_ofR, Wo_ofM, Wr_tst, Wr_both, Wr_if, Option.some.injEq, exists_eq_left, D.bl.injEq, Bool.true_and, List.set_cons_zero, List.set_cons_succ, tgD, Nat.reduceLT, Nat.not_lt_zero, biD, lenD, seqOf, lstOf]
  refine Dr.wr (draw_ok hc (by omega) (by omega)) ?_
  rintro _ c1 hc1 ⟨r, rfl, hr1, hr2⟩
  obtain ⟨j, rfl⟩ := Int.eq_ofNat_of_zero_le hr1
  have hj : j < xs.length := by omega
  refine ⟨_, at_nat hj, Ed.here hc1 (hb _ (getD_mem hj)) (getD_mem hj)⟩
theorem wr_len {xs : List D} {m : Mem} {Q : D → Mem → Prop} (h : Q (.int xs.length) m) : Wr (lenD [.lst xs] m) Q := h
/-- behind one turn -/
def Ex1 (ms : Mem) (P : D → Prop) (d : D) (m : Mem) : Prop := ∃ c', m = c' :: ms ∧ HC c' ∧ P d
theorem lcp_dr {tg : D → Rho → Option Rho} {cd : Rho → Mem → R Bool} {el : Rho → Mem → R D} {ρ : Rho} {P : D → D → Prop} : ∀ (xs acc : List D) (c : Cell), HC c → (∀ x ∈ xs, ∃ ρ', tg x ρ = some ρ' ∧ (∀ m, cd ρ' m = .ok true m) ∧ ∀ c, HC c → Wr (el ρ' (c :: ms)) (Ex1 ms (P x))) →
    ∃ ys c', lcpL none tg cd el ρ xs acc (c :: ms) = .ok (.lst (acc ++ ys)) (c' :: ms) ∧ HC c' ∧ ys.length = xs.length ∧ ∀ (i : Nat) (x : D), xs[i]? = some x → ∃ y, ys[i]? = some y ∧ P x y
  | [], acc, c, hc, _ => ⟨[], c, by unfold lcpL; rw [List.append_nil]; rfl, hc, rfl, fun i x e => by simp at e⟩
  | x :: xs, acc, c, hc, h => by
    obtain ⟨ρ', h1, h2, h3⟩ := h x List.mem_cons_self
    have h3 := h3 c hc
    cases he : el ρ' (c :: ms) with
    | bad => rw [he] at h3; exact False.elim h3
    | ex _ _ _ => rw [he] at h3; exact False.elim h3
    | ok d m1 =>
      rw [he] at h3
      obtain ⟨c1, rfl, hc1, p⟩ := h3
      obtain ⟨ys, c2, e, hc2, hl, hp⟩ := lcp_dr (tg := tg) (cd := cd) (el := el) (ρ := ρ) (P := P) xs (acc ++ [d]) c1 hc1 fun y hy => h y (List.mem_cons_of_mem _ hy)
      refine ⟨d :: ys, c2, ?_, hc2, by simp [hl], fun i z ez => ?_⟩
      · unfold lcpL
        rw [if_pos (show ckD none (c :: ms) = true from rfl), h1]
        dsimp only
        rw [h2]
        dsimp only [R.bind]
        rw [if_pos rfl, he]
        dsimp only [R.bind]
        rw [e, List.append_assoc]
        rfl
      · cases i with
        | zero => simp at ez; subst ez; exact ⟨d, rfl, p⟩
        | succ i => exact hp i z (by simpa using ez)
theorem lcp_wr {tg : D → Rho → Option Rho} {cd : Rho → Mem → R Bool} {el : Rho → Mem → R D} {ρ : Rho} {P : D → D → Prop} {xs : List D} {Q : D → Mem → Prop} (hc : HC c) (h : ∀ x ∈ xs, ∃ ρ', tg x ρ = some ρ' ∧ (∀ m, cd ρ' m = .ok true m) ∧ ∀ c, HC c → Wr (el ρ' (c :: ms)) (Ex1 ms (P x)))
    (q : ∀ ys c', HC c' → ys.length = xs.length → (∀ (i : Nat) (x : D), xs[i]? = some x → ∃ y, ys[i]? = some y ∧ P x y) → Q (.lst ys) (c' :: ms)) : Wr (lcpL none tg cd el ρ xs [] (c :: ms)) Q := by
  obtain ⟨ys, c', e, h1, h2, h3⟩ := lcp_dr (ms := ms) xs [] c hc h
  rw [e, List.nil_append]
  exact q ys c' h1 h2 h3
theorem all_of {xs ys : List D} {P : D → D → Prop} {R : D → Prop} (hl : ys.length = xs.length) (h : ∀ (i : Nat) (x : D), xs[i]? = some x → ∃ y, ys[i]? = some y ∧ P x y) (hr : ∀ x y, P x y → R y) : ∀ y ∈ ys, R y := by
  intro y hy
  obtain ⟨i, hi, e⟩ := List.getElem_of_mem hy
  obtain ⟨z, h1, h2⟩ := h i xs[i] (by simp [hl ▸ hi])
  rw [List.getElem?_eq_getElem hi] at h1
  cases h1
  rw [← e]
  exact hr _ _ h2
theorem max_ok {a b : Int} {m : Mem} : biD .max [.int a, .int b] m = .ok (.int (if b > a then b else a)) m := rfl
/-- a place -/
def PL (lo : Int) (d : D) : Prop := ∃ r, d = .int r ∧ lo ≤ r ∧ r ≤ 999999999
theorem place_ok {lo : Int} (hc : HC c) (h0 : 0 ≤ lo) (h1 : lo ≤ 1) : Dr ms (C (k + 3) 22 [.ref 0, .int lo] (c :: ms)) (PL lo) := by
  refine Dr.by (fn := f22) rfl rfl ?_
  have e9 : ∀ m : Mem, binD .Pow (.int 10) (.int 9) m = .ok (.int 1000000000) m := fun m => rfl
  have s9 : ∀ m : Mem, binD .Sub (.int 1000000000) (.int 1) m = .ok (.int 999999999) m := fun m => rfl
  simp only [f22, b22, exSs, exS, evE, evEs, evKV, evO, evC, evI, startR, O.test, O.then_nx, O.then_rt, R.go_ok, R.bind_ok, R.of_some, tst_ok, bothD_ok, Option.map_some, List.map_cons, List.map_nil, List.length_cons, List.length_nil, List.cons_append, List.nil_append, List.getElem?_cons_zero, List.getElem?_cons_succ, List.replicate_succ, List.replicate_zero, if_true, if_false, Bool.false_eq_true, ite_true, ite_false, reduceIte, Nat.reduceAdd, Nat.reduceSub, Nat.sub_self, sOk_of, decide_true, decide_false, Wr_ok, Wr_bind, Wr_of, Wr_calm, Wo_nx, Wo_rt, Wo_go, Wo_then, Wo_test, Wo_ofR, Wo_ofM, Wr_tst, Wr_both, Wr_if, Option.some.injEq, exists_eq_left, D.bl.injEq, Bool.true_and, List.set_cons_zero, List.set_cons_succ, tgD, Nat.reduceLT, Nat.not_lt_zero, litD, e9, s9]
  refine Dr.wr (draw_ok hc (by omega) (by omega)) ?_
  rintro _ c1 hc1 ⟨r, rfl, hr1, hr2⟩
  refine Dr.wr (draw_ok hc1 (by omega) (by omega)) ?_
  rintro _ c2 hc2 ⟨r2, rfl, hr3, hr4⟩
  refine Dr.wr (some_ok hc2 (by simp) (by simp) fun x hx n => ?_) ?_
  · simp only [List.mem_cons, List.not_mem_nil, or_false] at hx
    rcases hx with rfl | rfl | rfl | rfl | rfl <;> rfl
  · intro d c3 hc3 hd
    have : ∃ r, d = .int r ∧ 0 ≤ r ∧ r ≤ 999999999 := by
      simp only [List.mem_cons, List.not_mem_nil, or_false] at hd
      rcases hd with rfl | rfl | rfl | rfl | rfl
      · exact ⟨_, rfl, by omega, by omega⟩
      · exact ⟨_, rfl, by omega, by omega⟩
      · exact ⟨_, rfl, by omega, by omega⟩
      · exact ⟨_, rfl, by omega, by omega⟩
      · exact ⟨_, rfl, by omega, by omega⟩
    obtain ⟨r, rfl, z1, z2⟩ := this
    simp only [max_ok, Wr_ok]
    refine Ed.here hc3 (fun _ => rfl) ⟨_, rfl, ?_, ?_⟩ <;> split <;> omega
/-- a word of n letters -/
def WD (n : Nat) (d : D) : Prop := ∃ cs : List Nat, d = .str ⟨cs.toArray⟩ ∧ cs.length = n ∧ ∀ x ∈ cs, letB x = true
theorem glue1 (cs : List Nat) : Txt.join (Str.ofString "") (cs.map fun c => ⟨#[c]⟩) = ⟨cs.toArray⟩ := by
  have e0 : (Str.ofString "").cps = #[] := rfl
  have go : ∀ (cs : List Nat) (acc : Array Nat), (cs.map fun c => (⟨#[c]⟩ : Str)).foldl (fun acc p => acc ++ (Str.ofString "").cps ++ p.cps) acc = acc ++ cs.toArray := by
    intro cs
    induction cs with
    | nil => intro acc; simp
    | cons c cs ih =>
      intro acc
      rw [List.map_cons, List.foldl_cons, ih, e0]
      apply Array.ext'
      simp
  show Builtin.Str.glued _ _ = _
  unfold Builtin.Str.glued
  cases cs with
  | nil => rfl
  | cons c cs =>
    rw [List.map_cons, List.drop_one, List.tail_cons, go]
    show Str.mk (#[c] ++ cs.toArray) = _
    congr 1
    apply Array.ext'
    simp
theorem one_let {ys : List D} (h : ∀ y ∈ ys, ∃ c, y = .str ⟨#[c]⟩ ∧ letB c = true) : ∃ cs : List Nat, ys = cs.map (fun c => D.str ⟨#[c]⟩) ∧ ∀ x ∈ cs, letB x = true := by
  induction ys with
  | nil => exact ⟨[], rfl, by simp⟩
  | cons y ys ih =>
    obtain ⟨c, rfl, hc⟩ := h y List.mem_cons_self
    obtain ⟨cs, rfl, hcs⟩ := ih fun z hz => h z (List.mem_cons_of_mem _ hz)
    exact ⟨c :: cs, rfl, fun x hx => by
      rcases List.mem_cons.mp hx with rfl | hx
      · exact hc
      · exact hcs x hx⟩
theorem let_at {r : Nat} (h : r < 26) : letters.cps.size = 26 ∧ ∃ c, atI letters.cps.toList (r : Int) = some c ∧ letB c = true := by
  refine ⟨rfl, ?_⟩
  have hl : letters.cps.toList.length = 26 := rfl
  refine ⟨letters.cps.toList[r], atI_nat (List.getElem?_eq_getElem (by omega)), decide_eq_true (List.getElem_mem _)⟩
end
end K01

namespace K01
open PySem PySem.Spec PyProof.Rows L2 EV
section
variable {k : Nat} {c : Cell} {ms : Mem}
theorem let_len : letters.length ≤ lim := by decide +kernel
theorem letters_ok {n : Nat} (hc : HC c) (h1 : n ≤ 9) : Dr ms (C (k + 2) 20 [.ref 0, .int n] (c :: ms)) (WD n) := by
  refine Dr.by (fn := f20) rfl rfl ?_
  simp only [f20, b20, exSs, exS, ev_join, evEs]
  rw [ev_lcpR n (i := (n : Int)) rfl (by omega) (by omega) (by show _ ≤ (16777216 : Int); omega)]
  simp only [Wr_ok, Wr_bind, Wr_of, Wr_calm, Wo_nx, Wo_rt, Wo_go, Wo_then, Wo_test, Wo_ofR, Wo_ofM, Wr_tst, Wr_both, Wr_if, Option.some.injEq, exists_eq_left, D.bl.injEq, Bool.true_and, List.set_cons_zero, List.set_cons_succ, tgD, Nat.reduceLT, Nat.not_lt_zero, R.bind_ok]
  refine lcp_wr (P := fun _ y => ∃ c, y = .str ⟨#[c]⟩ ∧ letB c = true) hc (fun x hx => ⟨[some (.ref 0), some (.int n), some x], rfl, fun _ => rfl, fun c hc => ?_⟩) ?_
  · simp only [exSs, exS, evE, evEs, evKV, evO, evC, evI, startR, O.test, O.then_nx, O.then_rt, R.go_ok, R.bind_ok, R.of_some, tst_ok, bothD_ok, Option.map_some, List.map_cons, List.map_nil, List.length_cons, List.length_nil, List.cons_append, List.nil_append, List.getElem?_cons_zero, List.getElem?_cons_succ, List.replicate_succ, List.replicate_zero, if_true, if_false, Bool.false_eq_true, ite_true, ite_false, reduceIte, Nat.reduceAdd, Nat.reduceSub, Nat.sub_self, sOk_of, decide_true, decide_false, Wr_ok, Wr_bind, Wr_of, Wr_calm, Wo_nx, Wo_rt, Wo_go, Wo_then, Wo_test, Wo_ofR, Wo_ofM, Wr_tst, Wr_both, Wr_if, Option.some.injEq, exists_eq_left, D.bl.injEq, Bool.true_and, List.set_cons_zero, List.set_cons_succ, tgD, Nat.reduceLT, Nat.not_lt_zero, litD]
    refine Dr.wr (draw_ok hc (by omega) (by omega)) ?_
    rintro _ c1 hc1 ⟨r, rfl, hr1, hr2⟩
    obtain ⟨j, rfl⟩ := Int.eq_ofNat_of_zero_le hr1
    obtain ⟨z1, ch, z2, z3⟩ := let_at (r := j) (by omega)
    have e : idxD (.str letters) (.int (j : Nat)) (c1 :: ms) = some (.str ⟨#[ch]⟩) := by
      show (if letters.length ≤ lim then (atI letters.cps.toList (j : Int)).map fun c => D.str ⟨#[c]⟩ else none) = _
      rw [if_pos let_len, z2]; rfl
    exact ⟨_, e, c1, rfl, hc1, ch, rfl, z3⟩
  · intro ys c1 hc1 hl hp
    obtain ⟨cs, rfl, hcs⟩ := one_let (all_of hl hp fun _ _ z => z)
    have hn : cs.length = n := by simpa using hl
    have hj : joinD (.str (Str.ofString "")) [.lst (cs.map fun c => .str ⟨#[c]⟩)] (c1 :: ms) = .ok (.str ⟨cs.toArray⟩) (c1 :: ms) := by
      unfold joinD
      have e := allOf_map (f := isS) (g := .str) (fun _ => rfl) (cs.map fun c => (⟨#[c]⟩ : Str))
      rw [List.map_map] at e
      have e2 : (lstOf (c1 :: ms) (.lst (cs.map fun c => D.str ⟨#[c]⟩))).bind (allOf isS) = some (cs.map fun c => (⟨#[c]⟩ : Str)) := e
      dsimp only
      rw [e2]
      dsimp only
      rw [if_pos, glue1]
      have : ((cs.map fun c => (⟨#[c]⟩ : Str)).map (·.length)).sum = cs.length := by
        rw [List.map_map]
        clear e e2 hcs hn hl hp
        induction cs with
        | nil => rfl
        | cons a cs ih => rw [List.map_cons, List.sum_cons, ih, List.length_cons]; show 1 + _ = _; omega
      rw [this]
      show _ + 0 * _ ≤ 16777216
      omega
    show Wr (joinD (.str (Str.ofString "")) [.lst (cs.map fun c => .str ⟨#[c]⟩)] (c1 :: ms)) _
    rw [hj, Wr_ok]
    exact Ed.here hc1 (fun _ => rfl) ⟨cs, rfl, hn, hcs⟩
theorem name_ok (hc : HC c) : Dr ms (C (k + 3) 21 [.ref 0] (c :: ms)) fun d => ∃ n : Nat, 1 ≤ n ∧ n ≤ 8 ∧ WD n d := by
  refine Dr.by (fn := f21) rfl rfl ?_
  simp only [f21, b21, exSs, exS, evE, evEs, evKV, evO, evC, evI, startR, O.test, O.then_nx, O.then_rt, R.go_ok, R.bind_ok, R.of_some, tst_ok, bothD_ok, Option.map_some, List.map_cons, List.map_nil, List.length_cons, List.length_nil, List.cons_append, List.nil_append, List.getElem?_cons_zero, List.getElem?_cons_succ, List.replicate_succ, List.replicate_zero, if_true, if_false, Bool.false_eq_true, ite_true, ite_false, reduceIte, Nat.reduceAdd, Nat.reduceSub, Nat.sub_self, sOk_of, decide_true, decide_false, Wr_ok, Wr_bind, Wr_of, Wr_calm, Wo_nx, Wo_rt, Wo_go, Wo_then, Wo_test, Wo_ofR, Wo_ofM, Wr_tst, Wr_both, Wr_if, Option.some.injEq, exists_eq_left, D.bl.injEq, Bool.true_and, List.set_cons_zero, List.set_cons_succ, tgD, Nat.reduceLT, Nat.not_lt_zero, litD]
  refine Dr.wr (draw_ok hc (by omega) (by omega)) ?_
  rintro _ c1 hc1 ⟨r, rfl, hr1, hr2⟩
  obtain ⟨j, rfl⟩ := Int.eq_ofNat_of_zero_le hr1
  have e : (1 : Int) + (j : Int) = ((1 + j : Nat) : Int) := by omega
  rw [add_ok, Wr_ok, e]
  refine Dr.wr (letters_ok (n := 1 + j) hc1 (by omega)) ?_
  intro d c2 hc2 hd
  refine Ed.here hc2 ?_ ⟨1 + j, by omega, by omega, hd⟩
  obtain ⟨cs, rfl, _⟩ := hd
  exact fun _ => rfl
end
end K01

namespace K01
open PySem PySem.Spec PyProof.Rows L2 EV
mutual
theorem im_bel : ∀ {d : D}, im d = true → ∀ n, bel n d = true
  | .non, _, _ => rfl
  | .bl _, _, _ => rfl
  | .int _, _, _ => rfl
  | .str _, _, _ => rfl
  | .tup ds, h, n => ims_bel (ds := ds) h n
  | .lst ds, h, n => ims_bel (ds := ds) h n
  | .dic _ ds, h, n => ims_bel (ds := ds) h n
  | .ref _, h, _ => absurd h Bool.false_ne_true
  | .fn, h, _ => absurd h Bool.false_ne_true
  | .scr _, h, _ => absurd h Bool.false_ne_true
theorem ims_bel : ∀ {ds : List D}, ims ds = true → ∀ n, bels n ds = true
  | [], _, _ => rfl
  | d :: ds, h, n => by
    have h : (im d && ims ds) = true := h
    rw [Bool.and_eq_true] at h
    show (bel n d && bels n ds) = true
    rw [im_bel h.1, ims_bel h.2]; rfl
end
section
variable {k : Nat} {c : Cell} {ms : Mem}
/-- a row of pairs -/
def PR (p : D) : Prop := ∃ a b, p = .tup [a, b] ∧ im a = true ∧ im b = true
def RW (n : Nat) (d : D) : Prop := ∃ rows, d = .tup rows ∧ rows.length ≤ n ∧ ∀ p ∈ rows, PR p
theorem pr_im {p : D} (h : PR p) : im p = true := by
  obtain ⟨a, b, rfl, ha, hb⟩ := h
  show (im a && (im b && true)) = true
  rw [ha, hb]; rfl
theorem rw_im {n : Nat} {d : D} (h : RW n d) : im d = true := by
  obtain ⟨rows, rfl, _, hp⟩ := h
  exact ims_of fun p hp' => pr_im (hp p hp')
/-- keys of one kind -/
def KS (q : Key) : Prop := ∃ s : Str, q = .inr s ∧ s.length ≤ lim ∧ sOk s = true
def KI (q : Key) : Prop := ∃ i : Int, q = .inl i
theorem pairs_mem {ks : List Key} {xs : List D} {p : D} (h : p ∈ EV.pairsOf ks xs) : ∃ q x, q ∈ ks ∧ x ∈ xs ∧ p = .tup [keyOf q, x] := by
  unfold EV.pairsOf at h
  obtain ⟨z, hz, rfl⟩ := List.mem_map.mp h
  exact ⟨z.1, z.2, (List.of_mem_zip hz).1, (List.of_mem_zip hz).2, rfl⟩
theorem can_pairs {ks : List Key} {xs : List D} (hk : (∀ q ∈ ks, KS q) ∨ ∀ q ∈ ks, KI q) (hx : ∀ x ∈ xs, ∃ i, x = .int i) : canSort (EV.pairsOf ks xs) = true := by
  unfold canSort alikes
  rw [Bool.and_eq_true, Bool.and_eq_true, Bool.or_eq_true]
  refine ⟨⟨List.all_eq_true.mpr fun p hp => ?_, List.all_eq_true.mpr fun p hp => List.all_eq_true.mpr fun p2 hp2 => ?_⟩, .inl (List.all_eq_true.mpr fun p hp => ?_)⟩
  · obtain ⟨q, x, h1, h2, rfl⟩ := pairs_mem hp
    obtain ⟨i, rfl⟩ := hx x h2
    cases q <;> rfl
  · obtain ⟨q, x, h1, h2, rfl⟩ := pairs_mem hp
    obtain ⟨q2, x2, h3, h4, rfl⟩ := pairs_mem hp2
    obtain ⟨i, rfl⟩ := hx x h2
    obtain ⟨i2, rfl⟩ := hx x2 h4
    rcases hk with hk | hk
    · obtain ⟨s, rfl, _⟩ := hk q h1
      obtain ⟨s2, rfl, _⟩ := hk q2 h3
      simp [pd, pds, keyOf, PySem.W.alike, PySem.W.alikeAll]
    · obtain ⟨s, rfl⟩ := hk q h1
      obtain ⟨s2, rfl⟩ := hk q2 h3
      simp [pd, pds, keyOf, PySem.W.alike, PySem.W.alikeAll]
  · obtain ⟨q, x, h1, h2, rfl⟩ := pairs_mem hp
    rfl
theorem dput_mem {q k : Key} {ks : List Key} (h : k ∈ dputK ks q) : k = q ∨ k ∈ ks := by
  unfold dputK at h
  split at h
  · exact .inr h
  · rcases List.mem_append.mp h with h | h
    · exact .inr h
    · exact .inl (List.mem_singleton.mp h)
theorem dset_mem {q : Key} {y z : D} : ∀ {ks : List Key} {xs : List D}, z ∈ dsetX ks xs q y → z = y ∨ z ∈ xs
  | [], xs, h => .inr (by unfold dsetX at h; exact h)
  | k :: ks, [], h => .inr (by unfold dsetX at h; exact h)
  | k :: ks, x :: xs, h => by
    have h : z ∈ (if k = q then y else x) :: dsetX ks xs q y := h
    rcases List.mem_cons.mp h with h | h
    · split at h
      · exact .inl h
      · exact .inr (by rw [h]; exact List.mem_cons_self)
    · rcases dset_mem h with h | h
      · exact .inl h
      · exact .inr (List.mem_cons_of_mem _ h)
theorem dputX_mem {q : Key} {y z : D} {ks : List Key} {xs : List D} (h : z ∈ dputX ks xs q y) : z = y ∨ z ∈ xs := by
  unfold dputX at h
  split at h
  · exact dset_mem h
  · rcases List.mem_append.mp h with h | h
    · exact .inr h
    · exact .inl (List.mem_singleton.mp h)
theorem dputK_len {q : Key} {ks : List Key} : (dputK ks q).length ≤ ks.length + 1 := by
  unfold dputK
  split
  · omega
  · rw [List.length_append]; exact Nat.le_refl _
theorem srt_mem {p : D} {l : List D} (h : p ∈ srt l) : p ∈ l := (List.mergeSort_perm _ _).mem_iff.mp h
theorem srt_len (l : List D) : (srt l).length = l.length := by unfold srt; exact List.length_mergeSort _
/-- what is put under the keys -/
structure KInv (lo : Int) (K : Key → Prop) (n : Nat) (ks : List Key) (xs : List D) : Prop where
  len : ks.length ≤ n
  ks : ∀ q ∈ ks, K q
  xs : ∀ x ∈ xs, PL lo x
theorem by_keys {keys : List D} {lo : Int} {K : Key → Prop} (hc : HC c) (h0 : 0 ≤ lo) (h1 : lo ≤ 1) (hn : keys.length ≤ 1000) (hk : ∀ d ∈ keys, ∃ q, keyD d = some q ∧ K q) (hK : (∀ q, K q → KS q) ∨ ∀ q, K q → KI q) :
    Dr [] (C (k + 4) 23 [.ref 0, .lst keys, .int lo] [c]) (RW keys.length) := by
  refine Dr.by (fn := f23) rfl rfl ?_
  have eb : exSs (C (k + 3)) (fun _ => .bad) wf f23.body (startR f23.ns [.ref 0, .lst keys, .int lo]) [c] = ((exS (C (k + 3)) (fun _ => .bad) wf (.fors (.nm 4) (.ex (.var 1)) (.cons (.seti (.var 3) (.var 4) (.call 22 (.cons (.var 0) (.cons (.var 2) .nil)))) .nil)) [some (.ref 0), some (.lst keys), some (.int lo), some (.ref 1), none] [c, .dic [] []]).then fun ρ1 m1 => exSs (C (k + 3)) (fun _ => .bad) wf (.cons (.ret (.bi .tuple (.cons (.itm (.var 3)) .nil))) .nil) ρ1 m1) := rfl
  rw [eb, Wo_then]
  refine wo_forS ?_
  refine ⟨keys, rfl, nofun, ?_⟩
  refine for_wo keys (fun i ρ m => ∃ y c' ks xs, ρ = [some (.ref 0), some (.lst keys), some (.int lo), some (.ref 1), y] ∧ m = [c', .dic ks xs] ∧ HC c' ∧ KInv lo K i ks xs) _ _ ⟨none, c, [], [], rfl, rfl, hc, Nat.le_refl _, by simp, by simp⟩ ?_ ?_
  · rintro i x ρ m hx ⟨y, c1, ks, xs, rfl, rfl, hc1, inv⟩
    have hi := (List.getElem?_eq_some_iff.mp hx).1
    obtain ⟨q, hq, Kq⟩ := hk x (List.mem_of_getElem? hx)
    refine ⟨[some (.ref 0), some (.lst keys), some (.int lo), some (.ref 1), some x], rfl, ?_⟩
    simp only [exSs, exS, evE, evEs, evKV, evO, evC, evI, startR, O.test, O.then_nx, O.then_rt, R.go_ok, R.bind_ok, R.of_some, tst_ok, bothD_ok, Option.map_some, List.map_cons, List.map_nil, List.length_cons, List.length_nil, List.cons_append, List.nil_append, List.getElem?_cons_zero, List.getElem?_cons_succ, List.replicate_succ, List.replicate_zero, if_true, if_false, Bool.false_eq_true, ite_true, ite_false, reduceIte, Nat.reduceAdd, Nat.reduceSub, Nat.sub_self, sOk_of, decide_true, decide_false, Wr_ok, Wr_bind, Wr_of, Wr_calm, Wo_nx, Wo_rt, Wo_go, Wo_then, Wo_test, Wo_ofR, Wo_ofM, Wr_tst, Wr_both, Wr_if, Option.some.injEq, exists_eq_left, D.bl.injEq, Bool.true_and, List.set_cons_zero, List.set_cons_succ, tgD, Nat.reduceLT, Nat.not_lt_zero]
    refine Dr.wr (place_ok (ms := [.dic ks xs]) hc1 h0 h1) ?_
    rintro d c2 hc2 hd
    have hs : setD (.ref 1) x d [c2, .dic ks xs] = some [c2, .dic (dputK ks q) (dputX ks xs q d)] := by
      show (match keyD x with | some q => if ks.length < lim then some ([c2, Cell.dic ks xs].set 1 (.dic (dputK ks q) (dputX ks xs q d))) else none | none => none) = _
      rw [hq]
      have := inv.len
      exact if_pos (by show _ < 16777216; omega)
    refine ⟨_, hs, some x, c2, _, _, rfl, rfl, hc2, ?_, ?_, ?_⟩
    · have := inv.len
      have := dputK_len (q := q) (ks := ks)
      omega
    · intro z hz
      rcases dput_mem hz with rfl | hz
      · exact Kq
      · exact inv.ks z hz
    · intro z hz
      rcases dputX_mem hz with rfl | hz
      · exact hd
      · exact inv.xs z hz
  · rintro ρ m ⟨y, c1, ks, xs, rfl, rfl, hc1, inv⟩
    have hx : ∀ x ∈ xs, ∃ i, x = .int i := fun x h => let ⟨r, e, _⟩ := inv.xs x h; ⟨r, e⟩
    have hks : (∀ q ∈ ks, KS q) ∨ ∀ q ∈ ks, KI q := hK.imp (fun h q z => h q (inv.ks q z)) fun h q z => h q (inv.ks q z)
    have hcan := can_pairs hks hx
    have es : sortedItemsD [.ref 1] [c1, .dic ks xs] = .ok (.lst (srt (EV.pairsOf ks xs))) [c1, .dic ks xs] := by
      show (if itmOk ks xs = true then R.of (if canSort (EV.pairsOf ks xs) = true then some (D.lst (srt (EV.pairsOf ks xs))) else none) [c1, .dic ks xs] else .bad) = _
      rw [if_pos hcan, if_pos]
      · rfl
      · unfold itmOk
        rw [Bool.and_eq_true]
        refine ⟨List.all_eq_true.mpr fun q hq => ?_, List.all_eq_true.mpr fun x hxx => ?_⟩
        · rcases hks with hks | hks
          · obtain ⟨s, rfl, _, h⟩ := hks q hq
            exact h
          · obtain ⟨i, rfl⟩ := hks q hq
            rfl
        · obtain ⟨i, rfl⟩ := hx x hxx
          rfl
    have et : ∀ (ds : List D) (m : Mem), biD .tuple [D.lst ds] m = .ok (.tup ds) m := fun _ _ => rfl
    simp only [exSs, exS, evE, evEs, evKV, evO, evC, evI, startR, O.test, O.then_nx, O.then_rt, R.go_ok, R.bind_ok, R.of_some, tst_ok, bothD_ok, Option.map_some, List.map_cons, List.map_nil, List.length_cons, List.length_nil, List.cons_append, List.nil_append, List.getElem?_cons_zero, List.getElem?_cons_succ, List.replicate_succ, List.replicate_zero, if_true, if_false, Bool.false_eq_true, ite_true, ite_false, reduceIte, Nat.reduceAdd, Nat.reduceSub, Nat.sub_self, sOk_of, decide_true, decide_false, Wr_ok, Wr_bind, Wr_of, Wr_calm, Wo_nx, Wo_rt, Wo_go, Wo_then, Wo_test, Wo_ofR, Wo_ofM, Wr_tst, Wr_both, Wr_if, Option.some.injEq, exists_eq_left, D.bl.injEq, Bool.true_and, List.set_cons_zero, List.set_cons_succ, tgD, Nat.reduceLT, Nat.not_lt_zero, es, et]
    have hp : ∀ p ∈ srt (EV.pairsOf ks xs), PR p := fun p hp => by
      obtain ⟨q, x, h1, h2, rfl⟩ := pairs_mem (srt_mem hp)
      obtain ⟨i, rfl⟩ := hx x h2
      refine ⟨_, _, rfl, ?_, rfl⟩
      rcases hks with hks | hks
      · obtain ⟨s, rfl, hs, _⟩ := hks q h1
        exact decide_eq_true hs
      · obtain ⟨s, rfl⟩ := hks q h1
        rfl
    have hr : RW keys.length (.tup (srt (EV.pairsOf ks xs))) := by
      refine ⟨_, rfl, ?_, hp⟩
      rw [srt_len]
      unfold EV.pairsOf
      rw [List.length_map, List.length_zip]
      have := inv.len
      omega
    exact ⟨c1, [.dic ks xs], rfl, hc1, im_bel (rw_im hr), hr⟩
theorem word_key {n : Nat} {d : D} (hn : n ≤ 9) (h : WD n d) : ∃ q, keyD d = some q ∧ KS q := by
  obtain ⟨cs, rfl, hl, hc⟩ := h
  refine ⟨_, rfl, _, rfl, ?_, ?_⟩
  · show (cs.toArray).size ≤ 16777216
    rw [List.size_toArray]; omega
  · unfold sOk
    rw [Array.all_eq_true_iff_forall_mem]
    intro x hx
    have h1 := hc x (by simpa using hx)
    have h2 : ∀ y ∈ letters.cps.toList, y < 0x110000 := by decide +kernel
    exact decide_eq_true (h2 x (of_decide_eq_true h1))
theorem stack_ok (hc : HC c) : Dr [] (C (k + 5) 24 [.ref 0] [c]) (RW 8) := by
  refine Dr.by (fn := f24) rfl rfl ?_
  simp only [f24, b24, startR, List.map_cons, List.map_nil, List.length_cons, List.length_nil, List.cons_append, List.nil_append, List.replicate_succ, List.replicate_zero, Nat.reduceAdd, Nat.reduceSub, EV.w_var, EV.w_int, EV.w_bool, EV.w_none, EV.w_str, EV.w_glo, EV.w_bin, EV.w_not, EV.w_cmp, EV.w_and, EV.w_or, EV.w_ife, EV.w_tup, EV.w_lst, EV.w_idx, EV.w_slc, EV.w_no, EV.w_yes, EV.w_rev, EV.w_call, EV.w_bi, EV.w_itm, EV.w_isi, EV.w_alc, EV.w_nil, EV.w_cons, EV.w_asg, EV.w_par, EV.w_seti, EV.w_expr, EV.w_ret, EV.w_ifs, EV.w_snil, EV.w_scons, List.getElem?_cons_zero, List.getElem?_cons_succ, Wr_ok]
  refine w_lcpR ?_
  simp only [EV.w_var, EV.w_int, EV.w_bool, EV.w_none, EV.w_str, EV.w_glo, EV.w_bin, EV.w_not, EV.w_cmp, EV.w_and, EV.w_or, EV.w_ife, EV.w_tup, EV.w_lst, EV.w_idx, EV.w_slc, EV.w_no, EV.w_yes, EV.w_rev, EV.w_call, EV.w_bi, EV.w_itm, EV.w_isi, EV.w_alc, EV.w_nil, EV.w_cons, EV.w_asg, EV.w_par, EV.w_seti, EV.w_expr, EV.w_ret, EV.w_ifs, EV.w_snil, EV.w_scons, List.getElem?_cons_zero, List.getElem?_cons_succ, Wr_ok]
  refine Dr.wr (draw_ok hc (by omega) (by omega)) ?_
  rintro _ c1 hc1 ⟨r, rfl, hr1, hr2⟩
  refine ⟨r, rfl, by omega, by show r ≤ 16777216; omega, ?_⟩
  refine lcp_wr (P := fun _ y => ∃ n : Nat, 1 ≤ n ∧ n ≤ 8 ∧ WD n y) hc1 (fun x hx => ⟨[some (.ref 0), some x], rfl, fun _ => rfl, fun c hc => ?_⟩) ?_
  · rw [Wr_calm]
    simp only [EV.w_var, EV.w_int, EV.w_bool, EV.w_none, EV.w_str, EV.w_glo, EV.w_bin, EV.w_not, EV.w_cmp, EV.w_and, EV.w_or, EV.w_ife, EV.w_tup, EV.w_lst, EV.w_idx, EV.w_slc, EV.w_no, EV.w_yes, EV.w_rev, EV.w_call, EV.w_bi, EV.w_itm, EV.w_isi, EV.w_alc, EV.w_nil, EV.w_cons, EV.w_asg, EV.w_par, EV.w_seti, EV.w_expr, EV.w_ret, EV.w_ifs, EV.w_snil, EV.w_scons, List.getElem?_cons_zero, List.getElem?_cons_succ, Wr_ok]
    refine Dr.wr (name_ok hc) ?_
    exact fun d c' hc' hd => ⟨c', rfl, hc', hd⟩
  · intro ys c2 hc2 hl hp
    have hl' : ys.length ≤ 8 := by
      rw [hl, List.length_map, List.length_range]; omega
    refine Dr.wr (by_keys (K := KS) hc2 (by omega) (by omega) (by omega) (fun d hd => ?_) (.inl fun q h => h)) ?_
    · obtain ⟨n, h1, h2, h3⟩ := all_of hl hp (fun _ _ z => z) d hd
      exact word_key (by omega) h3
    · rintro d c3 hc3 ⟨rows, rfl, h1, h2⟩
      have : RW 8 (.tup rows) := ⟨rows, rfl, by omega, h2⟩
      exact Ed.here hc3 (im_bel (rw_im this)) this
theorem int_key {lo : Int} {d : D} (h : PL lo d) : ∃ q, keyD d = some q ∧ KI q := by
  obtain ⟨r, rfl, _⟩ := h
  exact ⟨_, rfl, r, rfl⟩
theorem heap_ok (hc : HC c) : Dr [] (C (k + 5) 25 [.ref 0] [c]) (RW 60) := by
  refine Dr.by (fn := f25) rfl rfl ?_
  simp only [f25, b25, startR, List.map_cons, List.map_nil, List.length_cons, List.length_nil, List.cons_append, List.nil_append, List.replicate_succ, List.replicate_zero, Nat.reduceAdd, Nat.reduceSub, EV.w_var, EV.w_int, EV.w_bool, EV.w_none, EV.w_str, EV.w_glo, EV.w_bin, EV.w_not, EV.w_cmp, EV.w_and, EV.w_or, EV.w_ife, EV.w_tup, EV.w_lst, EV.w_idx, EV.w_slc, EV.w_no, EV.w_yes, EV.w_rev, EV.w_call, EV.w_bi, EV.w_itm, EV.w_isi, EV.w_alc, EV.w_nil, EV.w_cons, EV.w_asg, EV.w_par, EV.w_seti, EV.w_expr, EV.w_ret, EV.w_ifs, EV.w_snil, EV.w_scons, List.getElem?_cons_zero, List.getElem?_cons_succ, Wr_ok]
  refine Dr.wr (some_ok hc (by simp) (by simp) fun x hx n => ?_) ?_
  · simp only [List.mem_cons, List.not_mem_nil, or_false] at hx
    rcases hx with rfl | rfl | rfl | rfl | rfl <;> rfl
  intro d c1 hc1 hd
  have hd : ∃ n : Int, d = .int n ∧ 0 ≤ n ∧ n ≤ 58 := by
    simp only [List.mem_cons, List.not_mem_nil, or_false] at hd
    rcases hd with rfl | rfl | rfl | rfl | rfl
    · exact ⟨0, rfl, by omega, by omega⟩
    · exact ⟨1, rfl, by omega, by omega⟩
    · exact ⟨3, rfl, by omega, by omega⟩
    · exact ⟨8, rfl, by omega, by omega⟩
    · exact ⟨58, rfl, by omega, by omega⟩
  obtain ⟨n, rfl, hn0, hn⟩ := hd
  refine ⟨[some (.ref 0), some (.int n), none, none], rfl, ?_⟩
  refine w_lcpR ?_
  simp only [EV.w_var, EV.w_int, EV.w_bool, EV.w_none, EV.w_str, EV.w_glo, EV.w_bin, EV.w_not, EV.w_cmp, EV.w_and, EV.w_or, EV.w_ife, EV.w_tup, EV.w_lst, EV.w_idx, EV.w_slc, EV.w_no, EV.w_yes, EV.w_rev, EV.w_call, EV.w_bi, EV.w_itm, EV.w_isi, EV.w_alc, EV.w_nil, EV.w_cons, EV.w_asg, EV.w_par, EV.w_seti, EV.w_expr, EV.w_ret, EV.w_ifs, EV.w_snil, EV.w_scons, List.getElem?_cons_zero, List.getElem?_cons_succ, Wr_ok]
  refine ⟨n, rfl, by omega, by show n ≤ 16777216; omega, ?_⟩
  refine lcp_wr (P := fun _ y => PL 1 y) hc1 (fun x hx => ⟨[some (.ref 0), some (.int n), none, some x], rfl, fun _ => rfl, fun c hc => ?_⟩) ?_
  · rw [Wr_calm]
    simp only [EV.w_var, EV.w_int, EV.w_bool, EV.w_none, EV.w_str, EV.w_glo, EV.w_bin, EV.w_not, EV.w_cmp, EV.w_and, EV.w_or, EV.w_ife, EV.w_tup, EV.w_lst, EV.w_idx, EV.w_slc, EV.w_no, EV.w_yes, EV.w_rev, EV.w_call, EV.w_bi, EV.w_itm, EV.w_isi, EV.w_alc, EV.w_nil, EV.w_cons, EV.w_asg, EV.w_par, EV.w_seti, EV.w_expr, EV.w_ret, EV.w_ifs, EV.w_snil, EV.w_scons, List.getElem?_cons_zero, List.getElem?_cons_succ, Wr_ok]
    refine Dr.wr (place_ok hc (by omega) (by omega)) ?_
    exact fun d c' hc' hd => ⟨c', rfl, hc', hd⟩
  intro ys c2 hc2 hl hp
  refine w_lcpR ?_
  simp only [EV.w_var, EV.w_int, EV.w_bool, EV.w_none, EV.w_str, EV.w_glo, EV.w_bin, EV.w_not, EV.w_cmp, EV.w_and, EV.w_or, EV.w_ife, EV.w_tup, EV.w_lst, EV.w_idx, EV.w_slc, EV.w_no, EV.w_yes, EV.w_rev, EV.w_call, EV.w_bi, EV.w_itm, EV.w_isi, EV.w_alc, EV.w_nil, EV.w_cons, EV.w_asg, EV.w_par, EV.w_seti, EV.w_expr, EV.w_ret, EV.w_ifs, EV.w_snil, EV.w_scons, List.getElem?_cons_zero, List.getElem?_cons_succ, Wr_ok]
  refine Dr.wr (some_ok hc2 (by simp) (by simp) fun x hx n => ?_) ?_
  · simp only [List.mem_cons, List.not_mem_nil, or_false] at hx
    rcases hx with rfl | rfl | rfl <;> rfl
  intro d c3 hc3 hd
  have hd : ∃ n : Int, d = .int n ∧ 0 ≤ n ∧ n ≤ 2 := by
    simp only [List.mem_cons, List.not_mem_nil, or_false] at hd
    rcases hd with rfl | rfl | rfl
    · exact ⟨0, rfl, by omega, by omega⟩
    · exact ⟨0, rfl, by omega, by omega⟩
    · exact ⟨2, rfl, by omega, by omega⟩
  obtain ⟨n2, rfl, hn20, hn2⟩ := hd
  refine ⟨n2, rfl, by omega, by show n2 ≤ 16777216; omega, ?_⟩
  refine lcp_wr (P := fun _ y => ∃ i, y = .int i) hc3 (fun x hx => ⟨[some (.ref 0), some (.int n), none, some x], rfl, fun _ => rfl, fun c hc => ?_⟩) ?_
  · obtain ⟨j, _, rfl⟩ := List.mem_map.mp hx
    rw [Wr_calm]
    simp only [EV.w_var, EV.w_int, EV.w_bool, EV.w_none, EV.w_str, EV.w_glo, EV.w_bin, EV.w_not, EV.w_cmp, EV.w_and, EV.w_or, EV.w_ife, EV.w_tup, EV.w_lst, EV.w_idx, EV.w_slc, EV.w_no, EV.w_yes, EV.w_rev, EV.w_call, EV.w_bi, EV.w_itm, EV.w_isi, EV.w_alc, EV.w_nil, EV.w_cons, EV.w_asg, EV.w_par, EV.w_seti, EV.w_expr, EV.w_ret, EV.w_ifs, EV.w_snil, EV.w_scons, List.getElem?_cons_zero, List.getElem?_cons_succ, Wr_ok]
    rw [mulL _ (by omega), Wr_ok]
    exact ⟨c, rfl, hc, _, rfl⟩
  intro zs c4 hc4 hl2 hp2
  have l1 : ys.length = n.toNat := by rw [hl, List.length_map, List.length_range]
  have l2 : zs.length = n2.toNat := by rw [hl2, List.length_map, List.length_range]
  have ha : binD .Add (.lst ys) (.lst zs) [c4] = .ok (.lst (ys ++ zs)) [c4] := by
    show (if ys.length + zs.length ≤ lim then R.ok (D.lst (ys ++ zs)) [c4] else .bad) = _
    rw [if_pos (by show _ ≤ 16777216; omega)]
  rw [ha, Wr_ok]
  refine ⟨[some (.ref 0), some (.int n), some (.lst (ys ++ zs)), none], rfl, ?_⟩
  simp only [EV.w_var, EV.w_int, EV.w_bool, EV.w_none, EV.w_str, EV.w_glo, EV.w_bin, EV.w_not, EV.w_cmp, EV.w_and, EV.w_or, EV.w_ife, EV.w_tup, EV.w_lst, EV.w_idx, EV.w_slc, EV.w_no, EV.w_yes, EV.w_rev, EV.w_call, EV.w_bi, EV.w_itm, EV.w_isi, EV.w_alc, EV.w_nil, EV.w_cons, EV.w_asg, EV.w_par, EV.w_seti, EV.w_expr, EV.w_ret, EV.w_ifs, EV.w_snil, EV.w_scons, List.getElem?_cons_zero, List.getElem?_cons_succ, Wr_ok]
  refine Dr.wr (by_keys (K := KI) hc4 (by omega) (by omega) (by rw [List.length_append]; omega) (fun d hd => ?_) (.inr fun q h => h)) ?_
  · rcases List.mem_append.mp hd with hd | hd
    · exact int_key (all_of hl hp (fun _ _ z => z) d hd)
    · obtain ⟨i, rfl⟩ := all_of hl2 hp2 (fun _ _ z => z) d hd
      exact ⟨_, rfl, i, rfl⟩
  · rintro d c5 hc5 ⟨rows, rfl, h1, h2⟩
    rw [List.length_append] at h1
    have : RW 60 (.tup rows) := ⟨rows, rfl, by omega, h2⟩
    exact Ed.here hc5 (im_bel (rw_im this)) this
end
end K01

namespace K01
open PySem PySem.Spec PyProof.Rows L2 EV
section
variable {k : Nat} {c : Cell} {ms : Mem}
def oddL : List D := [.non, .bl true, .bl false, .int (-1), .int 1000000000, .int (10 ^ 50), .str (Str.ofString ""), .str (Str.ofString "nil"), .str (Str.ofString "Ab"), .str (Str.ofString "a1"), .str (Str.ofString "a b"), .str (Str.ofString "abcdefghi"), .str (Str.ofString "3"), .lst [], .dic [] [], .tup []]
theorem oddL_im : ims oddL = true := by decide +kernel
theorem cat_ok {xs ys : List D} {m : Mem} (h : xs.length + ys.length ≤ 1000) : binD .Add (.lst xs) (.lst ys) m = .ok (.lst (xs ++ ys)) m := by
  show (if xs.length + ys.length ≤ lim then R.ok (D.lst (xs ++ ys)) m else .bad) = _
  rw [if_pos (by show _ ≤ 16777216; omega)]
theorem dic_a {C : Nat → List D → Mem → R D} {o : Mem → R D} {ρ : Rho} {m : Mem} : evE C o (.dsp (.cons (.lit (.str (Str.ofString "a"))) (.lit (.int 1)) .nil)) ρ m = .ok (.dic [.inr (Str.ofString "a")] [.int 1]) m := by kernel_rfl
def IM (d : D) : Prop := im d = true
theorem wd_im {n : Nat} {d : D} (hn : n ≤ 9) (h : WD n d) : im d = true := by
  obtain ⟨cs, rfl, hl, _⟩ := h
  refine decide_eq_true ?_
  show (cs.toArray).size ≤ 16777216
  rw [List.size_toArray]; omega
theorem pl_im {lo : Int} {d : D} (h : PL lo d) : im d = true := by
  obtain ⟨r, rfl, _⟩ := h; rfl
theorem odd_ok (hc : HC c) : Dr ms (C (k + 4) 26 [.ref 0] (c :: ms)) IM := by
  refine Dr.by (fn := f26) rfl rfl ?_
  have e : ∀ (ρ : Rho) (m : Mem), evE (C (k + 3)) (fun _ => .bad) (match b26 with | .cons (.asg _ e) _ => e | _ => .var 0) ρ m = .ok (.lst oddL) m := by
    intro ρ m; kernel_rfl
  have hb : f26.body = .cons (.asg (.nm 1) (match b26 with | .cons (.asg _ e) _ => e | _ => .var 0)) (match b26 with | .cons _ r => r | _ => .nil) := rfl
  rw [hb, w_scons, w_asg, e, Wr_ok]
  refine ⟨[some (.ref 0), some (.lst oddL)], rfl, ?_⟩
  simp only [b26, EV.w_var, EV.w_int, EV.w_bool, EV.w_none, EV.w_str, EV.w_glo, EV.w_bin, EV.w_not, EV.w_cmp, EV.w_and, EV.w_or, EV.w_ife, EV.w_tup, EV.w_lst, EV.w_idx, EV.w_slc, EV.w_no, EV.w_yes, EV.w_rev, EV.w_call, EV.w_bi, EV.w_itm, EV.w_isi, EV.w_alc, EV.w_nil, EV.w_cons, EV.w_asg, EV.w_par, EV.w_seti, EV.w_expr, EV.w_ret, EV.w_ifs, EV.w_snil, EV.w_scons, List.getElem?_cons_zero, List.getElem?_cons_succ, Wr_ok, dic_a]
  refine Dr.wr (name_ok hc) ?_
  rintro nm c1 hc1 ⟨n, hn1, hn2, hw⟩
  refine Dr.wr (place_ok hc1 (by omega) (by omega)) ?_
  intro pl c2 hc2 hpl
  rw [cat_ok (by show 16 + 6 ≤ 1000; omega), Wr_ok]
  have him : ∀ x ∈ oddL ++ [nm, pl, D.tup [.str (Str.ofString "a"), .int 1], .lst [.int 1, .int 2], .dic [.inr (Str.ofString "a")] [.int 1], .tup [.tup [.int 1, .int 2]]], im x = true := by
    intro x hx
    rcases List.mem_append.mp hx with hx | hx
    · exact ims_mem oddL_im x hx
    · simp only [List.mem_cons, List.not_mem_nil, or_false] at hx
      rcases hx with rfl | rfl | rfl | rfl | rfl | rfl
      · exact wd_im (by omega) hw
      · exact pl_im hpl
      · decide +kernel
      · rfl
      · rfl
      · rfl
  refine Dr.wr (some_ok hc2 (by simp) (by simp [oddL]) fun x hx n => im_bel (him x hx) n) ?_
  intro d c3 hc3 hd
  exact Ed.here hc3 (im_bel (him d hd)) (him d hd)
theorem slc_ok {xs : List D} {lo hi : Option Int} {m : Mem} : slcD (.lst xs) lo hi m = some (.lst (cutD xs lo hi)) := rfl
theorem cut_mem {xs : List D} {lo hi : Option Int} {x : D} (h : x ∈ cutD xs lo hi) : x ∈ xs := List.mem_of_mem_drop (List.mem_of_mem_take h)
theorem cut_len {xs : List D} {lo hi : Option Int} : (cutD xs lo hi).length ≤ xs.length := by
  unfold EV.cutD
  rw [List.length_take, List.length_drop]; omega
theorem tup_ok {xs : List D} {m : Mem} : biD .tuple [.lst xs] m = .ok (.tup xs) m := rfl
theorem lst_ok {xs : List D} {m : Mem} : biD .list [.tup xs] m = .ok (.lst xs) m := rfl
theorem lenT {xs : List D} {m : Mem} : biD .len [.tup xs] m = .ok (.int xs.length) m := rfl
theorem rev_ok {xs : List D} {m : Mem} : revD (.lst xs) m = some (.lst xs.reverse) := rfl
theorem im_cat {xs ys : List D} (h1 : ∀ x ∈ xs, im x = true) (h2 : ∀ x ∈ ys, im x = true) : ∀ x ∈ xs ++ ys, im x = true := fun x hx => (List.mem_append.mp hx).elim (h1 x) (h2 x)
theorem im_tup {xs : List D} (h : ∀ x ∈ xs, im x = true) : IM (.tup xs) := ims_of h
theorem ret_im {d : D} (hc : HC c) (h : IM d) : Ed ms IM d (c :: ms) := Ed.here hc (im_bel h) h
theorem at_row {xs : List D} {i : Nat} {m : Mem} (h : i < xs.length) : idxD (.lst xs) (.int (i : Int)) m = some (xs.getD i .non) := at_nat h
theorem turned_ok {rows : List D} (hc : HC c) (hl : rows.length ≤ 60) (hr : ∀ p ∈ rows, PR p) : Dr ms (C (k + 5) 27 [.ref 0, .tup rows] (c :: ms)) IM := by
  refine Dr.by (fn := f27) rfl rfl ?_
  have hb : f27.body = .cons (match b27 with | .cons s _ => s | _ => .pas) (.cons (match b27 with | .cons _ (.cons s _) => s | _ => .pas) (match b27 with | .cons _ (.cons _ r) => r | _ => .nil)) := rfl
  rw [hb, w_scons]
  simp only [b27, f27, startR, List.map_cons, List.map_nil, List.length_cons, List.length_nil, List.cons_append, List.nil_append, List.replicate_succ, List.replicate_zero, Nat.reduceAdd, Nat.reduceSub, EV.w_par, EV.w_cons, EV.w_nil, EV.w_call, EV.w_var, EV.w_int, EV.w_bin, EV.w_bi, List.getElem?_cons_zero, List.getElem?_cons_succ, Wr_ok, lenT, lst_ok, add_ok]
  refine Dr.wr (draw_ok hc (by omega) (by omega)) ?_
  rintro _ c1 hc1 ⟨way, rfl, hw1, hw2⟩
  refine Dr.wr (draw_ok hc1 (by omega) (by omega)) ?_
  rintro _ c2 hc2 ⟨at', rfl, ha1, ha2⟩
  refine ⟨[some (.ref 0), some (.tup rows), none, some (.int way), some (.int at'), some (.lst rows)], rfl, ?_⟩
  rw [w_scons, w_asg, w_call]
  simp only [EV.w_cons, EV.w_nil, EV.w_var, List.getElem?_cons_zero]
  refine Dr.wr (odd_ok hc2) ?_
  intro odd c3 hc3 ho
  refine ⟨[some (.ref 0), some (.tup rows), some odd, some (.int way), some (.int at'), some (.lst rows)], rfl, ?_⟩
  have him : ∀ x ∈ rows, im x = true := fun x hx => pr_im (hr x hx)
  have c0 : ∀ lo hi, ∀ x ∈ cutD rows lo hi, im x = true := fun lo hi x hx => him x (cut_mem hx)
  have cl : ∀ lo hi, (cutD rows lo hi).length ≤ 60 := fun lo hi => Nat.le_trans cut_len hl
  have h1 : ∀ x, im x = true → ∀ y ∈ [x], im y = true := fun x hx y hy => by rw [List.mem_singleton.mp hy]; exact hx
  rw [w_scons, w_ifs]
  simp only [EV.w_cmp, EV.w_var, EV.w_int, EV.w_bi, EV.w_cons, EV.w_nil, EV.w_or, lenT, List.getElem?_cons_zero, List.getElem?_cons_succ, Wr_ok, eq_ok, Option.some.injEq, exists_eq_left', D.bl.injEq]
  by_cases hcond : way = 0 ∨ at' = (rows.length : Int)
  · have hcase : Wo (exSs (C (k + 4)) (fun _ => .bad) wf (match b27 with | .cons _ (.cons _ (.cons (.ifs _ p _) _)) => p | _ => .nil) [some (.ref 0), some (.tup rows), some odd, some (.int way), some (.int at'), some (.lst rows)] (c3 :: ms)) (fun _ _ => False) (Ed ms IM) := by
      simp only [b27, EV.w_scons, EV.w_ret, EV.w_bi, EV.w_cons, EV.w_nil, EV.w_bin, EV.w_slc, EV.w_no, EV.w_yes, EV.w_var, EV.w_int, EV.w_lst, EV.w_tup, EV.w_call, EV.w_idx, EV.w_rev, List.getElem?_cons_zero, List.getElem?_cons_succ, Wr_ok, slc_ok, rev_ok, Option.some.injEq, exists_eq_left', D.int.injEq, add_ok, tup_ok, lst_ok]
      refine Dr.wr (odd_ok hc3) ?_
      intro odd2 c4 hc4 ho2
      have l1 := cl none (some at')
      have l2 := cl (some at') none
      rw [cat_ok (by simp; omega), Wr_ok, cat_ok (by simp; omega), Wr_ok, tup_ok, Wr_ok]
      refine ret_im hc4 (im_tup (im_cat (im_cat (c0 _ _) (h1 _ ?_)) (c0 _ _)))
      show (im odd && (im odd2 && true)) = true
      rw [show im odd = true from ho, show im odd2 = true from ho2]; rfl
    have hcase := hcase.imp (N' := fun ρ1 m1 => Wo (exSs (C (k + 4)) (fun _ => .bad) wf (match b27 with | .cons _ (.cons _ (.cons _ r)) => r | _ => .nil) ρ1 m1) (fun _ _ => False) (Ed ms IM)) (fun _ _ z => False.elim z) (fun _ _ z => z)
    by_cases h0 : way = 0
    · rw [decide_eq_true h0, if_pos rfl, if_pos True.intro]
      exact hcase
    · rw [decide_eq_false h0, if_neg Bool.false_ne_true, decide_eq_true (hcond.resolve_left h0), if_pos rfl]
      exact hcase
  have hw0 : way ≠ 0 := fun z => hcond (.inl z)
  have hat : at' ≠ (rows.length : Int) := fun z => hcond (.inr z)
  rw [decide_eq_false hw0, if_neg Bool.false_ne_true, decide_eq_false hat, if_neg Bool.false_ne_true, w_snil]
  obtain ⟨j, rfl⟩ := Int.eq_ofNat_of_zero_le ha1
  have hj : j < rows.length := by omega
  obtain ⟨pa, pb, hp, hpa, hpb⟩ := hr _ (getD_mem hj)
  have hrow : ∀ m : Mem, idxD (.lst rows) (.int (j : Int)) m = some (.tup [pa, pb]) := fun m => by rw [at_row hj, hp]
  have ipair : im (.tup [pa, pb]) = true := pr_im ⟨pa, pb, rfl, hpa, hpb⟩
  have l1 := cl none (some (j : Int))
  have l2 := cl (some (j : Int)) none
  have l3 := cl (some ((j : Int) + 1)) none
  rw [w_scons, w_ifs]
  simp only [EV.w_cmp, EV.w_var, EV.w_int, EV.w_bi, EV.w_cons, EV.w_nil, EV.w_or, lenT, List.getElem?_cons_zero, List.getElem?_cons_succ, Wr_ok, eq_ok, Option.some.injEq, exists_eq_left', D.bl.injEq]
  by_cases hK : way = 1
  · rw [decide_eq_true hK, if_pos rfl]
    simp only [EV.w_scons, EV.w_ret, EV.w_bi, EV.w_cons, EV.w_nil, EV.w_bin, EV.w_slc, EV.w_no, EV.w_yes, EV.w_var, EV.w_int, EV.w_lst, EV.w_tup, EV.w_call, EV.w_idx, EV.w_rev, List.getElem?_cons_zero, List.getElem?_cons_succ, Wr_ok, slc_ok, rev_ok, Option.some.injEq, exists_eq_left', D.int.injEq, add_ok, tup_ok, lst_ok, hrow]
    rw [cat_ok (by simp; omega), Wr_ok, cat_ok (by simp; omega), Wr_ok, tup_ok, Wr_ok]
    exact ret_im hc3 (im_tup (im_cat (im_cat (c0 _ _) (h1 _ ipair)) (c0 _ _)))
  rw [decide_eq_false hK, if_neg Bool.false_ne_true, w_snil]
  clear hK
  rw [w_scons, w_ifs]
  simp only [EV.w_cmp, EV.w_var, EV.w_int, EV.w_bi, EV.w_cons, EV.w_nil, EV.w_or, lenT, List.getElem?_cons_zero, List.getElem?_cons_succ, Wr_ok, eq_ok, Option.some.injEq, exists_eq_left', D.bl.injEq]
  by_cases hK : way = 2
  · rw [decide_eq_true hK, if_pos rfl]
    simp only [EV.w_scons, EV.w_ret, EV.w_bi, EV.w_cons, EV.w_nil, EV.w_bin, EV.w_slc, EV.w_no, EV.w_yes, EV.w_var, EV.w_int, EV.w_lst, EV.w_tup, EV.w_call, EV.w_idx, EV.w_rev, List.getElem?_cons_zero, List.getElem?_cons_succ, Wr_ok, slc_ok, rev_ok, Option.some.injEq, exists_eq_left', D.int.injEq, add_ok, tup_ok, lst_ok, hrow]
    rw [cat_ok (by simp; omega), Wr_ok, tup_ok, Wr_ok]
    exact ret_im hc3 (im_tup (im_cat (fun x hx => c0 _ _ x (List.mem_reverse.mp hx)) (c0 _ _)))
  rw [decide_eq_false hK, if_neg Bool.false_ne_true, w_snil]
  clear hK
  rw [w_scons, w_ifs]
  simp only [EV.w_cmp, EV.w_var, EV.w_int, EV.w_bi, EV.w_cons, EV.w_nil, EV.w_or, lenT, List.getElem?_cons_zero, List.getElem?_cons_succ, Wr_ok, eq_ok, Option.some.injEq, exists_eq_left', D.bl.injEq]
  by_cases hK : way = 3
  · rw [decide_eq_true hK, if_pos rfl]
    simp only [EV.w_scons, EV.w_ret, EV.w_bi, EV.w_cons, EV.w_nil, EV.w_bin, EV.w_slc, EV.w_no, EV.w_yes, EV.w_var, EV.w_int, EV.w_lst, EV.w_tup, EV.w_call, EV.w_idx, EV.w_rev, List.getElem?_cons_zero, List.getElem?_cons_succ, Wr_ok, slc_ok, rev_ok, Option.some.injEq, exists_eq_left', D.int.injEq, add_ok, tup_ok, lst_ok, hrow]
    rw [cat_ok (by simp; omega), Wr_ok, cat_ok (by simp; omega), Wr_ok, tup_ok, Wr_ok]
    exact ret_im hc3 (im_tup (im_cat (im_cat (c0 _ _) (h1 _ ipair)) (c0 _ _)))
  rw [decide_eq_false hK, if_neg Bool.false_ne_true, w_snil]
  clear hK
  rw [w_scons, w_ifs]
  simp only [EV.w_cmp, EV.w_var, EV.w_int, EV.w_bi, EV.w_cons, EV.w_nil, EV.w_or, lenT, List.getElem?_cons_zero, List.getElem?_cons_succ, Wr_ok, eq_ok, Option.some.injEq, exists_eq_left', D.bl.injEq]
  by_cases hK : way = 4
  · rw [decide_eq_true hK, if_pos rfl]
    simp only [EV.w_scons, EV.w_ret, EV.w_bi, EV.w_cons, EV.w_nil, EV.w_bin, EV.w_slc, EV.w_no, EV.w_yes, EV.w_var, EV.w_int, EV.w_lst, EV.w_tup, EV.w_call, EV.w_idx, EV.w_rev, List.getElem?_cons_zero, List.getElem?_cons_succ, Wr_ok, slc_ok, rev_ok, Option.some.injEq, exists_eq_left', D.int.injEq, add_ok, tup_ok, lst_ok, hrow]
    have et : ∀ m : Mem, binD .Add (.tup [pa, pb]) (.tup [odd]) m = .ok (.tup [pa, pb, odd]) m := fun m => rfl
    rw [et, Wr_ok]
    rw [cat_ok (by simp; omega), Wr_ok, cat_ok (by simp; omega), Wr_ok, tup_ok, Wr_ok]
    refine ret_im hc3 (im_tup (im_cat (im_cat (c0 _ _) (h1 _ ?_)) (c0 _ _)))
    show (im pa && (im pb && (im odd && true))) = true
    rw [hpa, hpb, show im odd = true from ho]; rfl
  rw [decide_eq_false hK, if_neg Bool.false_ne_true, w_snil]
  clear hK
  rw [w_scons, w_ifs]
  simp only [EV.w_cmp, EV.w_var, EV.w_int, EV.w_bi, EV.w_cons, EV.w_nil, EV.w_or, lenT, List.getElem?_cons_zero, List.getElem?_cons_succ, Wr_ok, eq_ok, Option.some.injEq, exists_eq_left', D.bl.injEq]
  by_cases hK : way = 5
  · rw [decide_eq_true hK, if_pos rfl]
    simp only [EV.w_scons, EV.w_ret, EV.w_bi, EV.w_cons, EV.w_nil, EV.w_bin, EV.w_slc, EV.w_no, EV.w_yes, EV.w_var, EV.w_int, EV.w_lst, EV.w_tup, EV.w_call, EV.w_idx, EV.w_rev, List.getElem?_cons_zero, List.getElem?_cons_succ, Wr_ok, slc_ok, rev_ok, Option.some.injEq, exists_eq_left', D.int.injEq, add_ok, tup_ok, lst_ok, hrow]
    exact ret_im hc3 (ims_of him)
  rw [decide_eq_false hK, if_neg Bool.false_ne_true, w_snil]
  clear hK
  rw [w_scons, w_ifs]
  simp only [EV.w_cmp, EV.w_var, EV.w_int, EV.w_bi, EV.w_cons, EV.w_nil, EV.w_or, lenT, List.getElem?_cons_zero, List.getElem?_cons_succ, Wr_ok, eq_ok, Option.some.injEq, exists_eq_left', D.bl.injEq]
  by_cases hK : way = 6
  · rw [decide_eq_true hK, if_pos rfl]
    simp only [EV.w_scons, EV.w_ret, EV.w_bi, EV.w_cons, EV.w_nil, EV.w_bin, EV.w_slc, EV.w_no, EV.w_yes, EV.w_var, EV.w_int, EV.w_lst, EV.w_tup, EV.w_call, EV.w_idx, EV.w_rev, List.getElem?_cons_zero, List.getElem?_cons_succ, Wr_ok, slc_ok, rev_ok, Option.some.injEq, exists_eq_left', D.int.injEq, add_ok, tup_ok, lst_ok, hrow]
    rw [cat_ok (by simp; omega), Wr_ok, cat_ok (by simp; omega), Wr_ok, tup_ok, Wr_ok]
    exact ret_im hc3 (im_tup (im_cat (im_cat (c0 _ _) (h1 _ ho)) (c0 _ _)))
  rw [decide_eq_false hK, if_neg Bool.false_ne_true, w_snil]
  clear hK
  rw [w_scons, w_ifs]
  simp only [EV.w_cmp, EV.w_var, EV.w_int, EV.w_bi, EV.w_cons, EV.w_nil, EV.w_or, lenT, List.getElem?_cons_zero, List.getElem?_cons_succ, Wr_ok, eq_ok, Option.some.injEq, exists_eq_left', D.bl.injEq]
  by_cases hK : way = 7
  · rw [decide_eq_true hK, if_pos rfl]
    simp only [EV.w_scons, EV.w_ret, EV.w_bi, EV.w_cons, EV.w_nil, EV.w_bin, EV.w_slc, EV.w_no, EV.w_yes, EV.w_var, EV.w_int, EV.w_lst, EV.w_tup, EV.w_call, EV.w_idx, EV.w_rev, List.getElem?_cons_zero, List.getElem?_cons_succ, Wr_ok, slc_ok, rev_ok, Option.some.injEq, exists_eq_left', D.int.injEq, add_ok, tup_ok, lst_ok, hrow]
    refine ⟨pb, rfl, ?_⟩
    rw [cat_ok (by simp; omega), Wr_ok, cat_ok (by simp; omega), Wr_ok, tup_ok, Wr_ok]
    refine ret_im hc3 (im_tup (im_cat (im_cat (c0 _ _) (h1 _ ?_)) (c0 _ _)))
    show (im odd && (im pb && true)) = true
    rw [show im odd = true from ho, hpb]; rfl
  rw [decide_eq_false hK, if_neg Bool.false_ne_true, w_snil]
  clear hK
  simp only [EV.w_scons, EV.w_ret, EV.w_bi, EV.w_cons, EV.w_nil, EV.w_bin, EV.w_slc, EV.w_no, EV.w_yes, EV.w_var, EV.w_int, EV.w_lst, EV.w_tup, EV.w_call, EV.w_idx, EV.w_rev, List.getElem?_cons_zero, List.getElem?_cons_succ, Wr_ok, slc_ok, rev_ok, Option.some.injEq, exists_eq_left', D.int.injEq, add_ok, tup_ok, lst_ok, hrow]
  refine ⟨pa, rfl, ?_⟩
  rw [cat_ok (by simp; omega), Wr_ok, cat_ok (by simp; omega), Wr_ok, tup_ok, Wr_ok]
  refine ret_im hc3 (im_tup (im_cat (im_cat (c0 _ _) (h1 _ ?_)) (c0 _ _)))
  show (im pa && (im odd && true)) = true
  rw [show im odd = true from ho, hpa]; rfl
end
end K01

namespace K01
open PySem PySem.Spec PyProof.Rows L2 EV
section
variable {k : Nat} {c : Cell} {ms : Mem}
theorem im2 {a b : D} (ha : im a = true) (hb : im b = true) : im (.tup [a, b]) = true := by
  show (im a && (im b && true)) = true
  rw [ha, hb]; rfl
def stB (s h : D) : List D := [.lst [s, h], .tup [h, s], .tup [s, h, .tup []], .tup [s]]
def stA (s h : D) : List D := [.tup [s, h], .tup [s, h]]
def stC (s h d1 d2 : D) : List D := [.tup [d1, h], .tup [s, d2]]
theorem state_ok (hc : HC c) : Dr [] (C (k + 6) 28 [.ref 0] [c]) IM := by
  refine Dr.by (fn := f28) rfl rfl ?_
  simp only [f28, b28, startR, List.map_cons, List.map_nil, List.length_cons, List.length_nil, List.cons_append, List.nil_append, List.replicate_succ, List.replicate_zero, Nat.reduceAdd, Nat.reduceSub, EV.w_scons, EV.w_par, EV.w_cons, EV.w_nil, EV.w_call, EV.w_var, EV.w_int, List.getElem?_cons_zero, Wr_ok]
  refine Dr.wr (stack_ok hc) ?_
  rintro _ c1 hc1 ⟨st, rfl, hs1, hs2⟩
  refine Dr.wr (heap_ok hc1) ?_
  rintro _ c2 hc2 ⟨hp, rfl, hh1, hh2⟩
  refine Dr.wr (draw_ok hc2 (by omega) (by omega)) ?_
  rintro _ c3 hc3 ⟨way, rfl, hw1, hw2⟩
  refine ⟨[some (.ref 0), none, some (.tup st), some (.tup hp), some (.int way)], rfl, ?_⟩
  have his : im (.tup st) = true := rw_im ⟨st, rfl, hs1, hs2⟩
  have hih : im (.tup hp) = true := rw_im ⟨hp, rfl, hh1, hh2⟩
  have em : ∀ (x : D) (m : Mem), binD .Mult (.lst [x]) (.int 2) m = .ok (.lst [x, x]) m := fun x m => rfl
  simp only [EV.w_var, EV.w_int, EV.w_bool, EV.w_none, EV.w_str, EV.w_glo, EV.w_bin, EV.w_not, EV.w_cmp, EV.w_and, EV.w_or, EV.w_ife, EV.w_tup, EV.w_lst, EV.w_idx, EV.w_slc, EV.w_no, EV.w_yes, EV.w_rev, EV.w_call, EV.w_bi, EV.w_itm, EV.w_isi, EV.w_alc, EV.w_nil, EV.w_cons, EV.w_asg, EV.w_par, EV.w_seti, EV.w_expr, EV.w_ret, EV.w_ifs, EV.w_snil, EV.w_scons, List.getElem?_cons_zero, List.getElem?_cons_succ, Wr_ok, em]
  rw [cat_ok (by simp), Wr_ok]
  refine ⟨[some (.ref 0), some (.lst (stA (.tup st) (.tup hp) ++ stB (.tup st) (.tup hp))), some (.tup st), some (.tup hp), some (.int way)], rfl, ?_⟩
  simp only [EV.w_var, EV.w_int, EV.w_bool, EV.w_none, EV.w_str, EV.w_glo, EV.w_bin, EV.w_not, EV.w_cmp, EV.w_and, EV.w_or, EV.w_ife, EV.w_tup, EV.w_lst, EV.w_idx, EV.w_slc, EV.w_no, EV.w_yes, EV.w_rev, EV.w_call, EV.w_bi, EV.w_itm, EV.w_isi, EV.w_alc, EV.w_nil, EV.w_cons, EV.w_asg, EV.w_par, EV.w_seti, EV.w_expr, EV.w_ret, EV.w_ifs, EV.w_snil, EV.w_scons, List.getElem?_cons_zero, List.getElem?_cons_succ, Wr_ok]
  refine Dr.wr (turned_ok hc3 (by omega) hs2) ?_
  intro d1 c4 hc4 h1
  refine Dr.wr (turned_ok hc4 (by omega) hh2) ?_
  intro d2 c5 hc5 h2
  rw [cat_ok (by show 6 + 2 ≤ 1000; omega), Wr_ok]
  refine ⟨[some (.ref 0), some (.lst ((stA (.tup st) (.tup hp) ++ stB (.tup st) (.tup hp)) ++ stC (.tup st) (.tup hp) d1 d2)), some (.tup st), some (.tup hp), some (.int way)], rfl, ?_⟩
  simp only [EV.w_var, EV.w_int, EV.w_bool, EV.w_none, EV.w_str, EV.w_glo, EV.w_bin, EV.w_not, EV.w_cmp, EV.w_and, EV.w_or, EV.w_ife, EV.w_tup, EV.w_lst, EV.w_idx, EV.w_slc, EV.w_no, EV.w_yes, EV.w_rev, EV.w_call, EV.w_bi, EV.w_itm, EV.w_isi, EV.w_alc, EV.w_nil, EV.w_cons, EV.w_asg, EV.w_par, EV.w_seti, EV.w_expr, EV.w_ret, EV.w_ifs, EV.w_snil, EV.w_scons, List.getElem?_cons_zero, List.getElem?_cons_succ, Wr_ok]
  obtain ⟨j, rfl⟩ := Int.eq_ofNat_of_zero_le hw1
  have hj : j < ((stA (.tup st) (.tup hp) ++ stB (.tup st) (.tup hp)) ++ stC (.tup st) (.tup hp) d1 d2).length := by
    show j < 8
    omega
  refine ⟨_, at_row hj, ret_im hc5 ?_⟩
  have hm := getD_mem hj
  generalize ((stA (.tup st) (.tup hp) ++ stB (.tup st) (.tup hp)) ++ stC (.tup st) (.tup hp) d1 d2).getD j .non = z at hm
  simp only [stA, stB, stC, List.mem_append, List.mem_cons, List.not_mem_nil, or_false] at hm
  have h3 : im (.tup [.tup st, .tup hp, .tup []]) = true := by
    show (im (.tup st) && (im (.tup hp) && (true && true))) = true
    rw [his, hih]; rfl
  have h4 : im (.tup [.tup st]) = true := by
    show (im (.tup st) && true) = true
    rw [his]; rfl
  rcases hm with ((rfl | rfl) | (rfl | rfl | rfl | rfl)) | (rfl | rfl)
  · exact im2 his hih
  · exact im2 his hih
  · exact im2 his hih
  · exact im2 hih his
  · exact h3
  · exact h4
  · exact im2 h1 hih
  · exact im2 his h2
theorem bound_ok (hc : HC c) : Dr ms (C (k + 3) 29 [.ref 0] (c :: ms)) fun d => d ∈ bound := by
  refine Dr.by (fn := f29) rfl rfl ?_
  simp only [f29, b29, startR, List.map_cons, List.map_nil, List.length_cons, List.length_nil, List.cons_append, List.nil_append, List.replicate_succ, List.replicate_zero, Nat.reduceAdd, Nat.reduceSub, EV.w_var, EV.w_int, EV.w_bool, EV.w_none, EV.w_str, EV.w_glo, EV.w_bin, EV.w_not, EV.w_cmp, EV.w_and, EV.w_or, EV.w_ife, EV.w_tup, EV.w_lst, EV.w_idx, EV.w_slc, EV.w_no, EV.w_yes, EV.w_rev, EV.w_call, EV.w_bi, EV.w_itm, EV.w_isi, EV.w_alc, EV.w_nil, EV.w_cons, EV.w_asg, EV.w_par, EV.w_seti, EV.w_expr, EV.w_ret, EV.w_ifs, EV.w_snil, EV.w_scons, List.getElem?_cons_zero, List.getElem?_cons_succ, Wr_ok]
  have hb : ∀ x ∈ bound, ∀ n, bel n x = true := fun x hx n => by
    refine im_bel ?_ n
    have : ims bound = true := by decide +kernel
    exact ims_mem this x hx
  refine Dr.wr (some_ok hc (by simp) (by simp) hb) ?_
  intro d c1 hc1 hd
  exact Ed.here hc1 (hb d hd) hd
/-! both judges' answers agree -/
theorem is_t {a b : Bool} {m : Mem} (h : a = b) : C (k + 1) 13 [.bl a, .bl b] m = .ok (.bl true) m := by
  rw [is_bl, h]
  simp
theorem wr_eq {r : R D} {d : D} {m : Mem} (h : Wr r fun e m' => e = d ∧ m' = m) : r = .ok d m := by
  cases r with
  | ok a m1 => obtain ⟨rfl, rfl⟩ := h; rfl
  | _ => exact False.elim h
theorem ev_term {d : D} {m : Mem} {o : Mem → R D} {ρ : Rho} (h6 : ρ[6]? = some (some d)) (h7 : ρ[7]? = some (some (.bl (nameB d)))) (h : im d = true) :
    evE (C k) o (.or (.var 7) (.and (.isi (.var 6) [.str]) (.cmp .Eq (.var 6) (.lit (.str (Str.ofString "nil")))))) ρ m = .ok (.bl (termB d)) m := by
  refine wr_eq ?_
  simp only [EV.w_or, EV.w_and, EV.w_isi, EV.w_cmp, EV.w_var, EV.w_str, h6, h7, D.bl.injEq, exists_eq_left']
  cases d with
  | str x =>
    cases hn : nameB (.str x) with
    | true =>
      have e : termB (.str x) = true := by show (nameB (.str x) || _) = true; rw [hn]; rfl
      rw [if_pos rfl, e]
      exact ⟨rfl, True.intro⟩
    | false =>
      have e : termB (.str x) = PyData.eqv (.str x) (.str (Str.ofString "nil")) := by show (nameB (.str x) || _) = _; rw [hn]; rfl
      rw [if_neg Bool.false_ne_true, e]
      exact ⟨true, rfl, by rw [if_pos rfl]; exact ⟨_, rfl, rfl, True.intro⟩⟩
  | ref n => exact absurd h Bool.false_ne_true
  | fn => exact absurd h Bool.false_ne_true
  | scr n => exact absurd h Bool.false_ne_true
  | _ => exact ⟨false, rfl, rfl, True.intro⟩
theorem str_cut {x : Str} {lo hi : Option Int} {m : Mem} (h : x.length ≤ lim) : slcD (.str x) lo hi m = some (.str (cutS x lo hi)) := if_pos h
theorem cutS_len {x : Str} {lo hi : Option Int} : (cutS x lo hi).length ≤ x.length := by
  unfold cutS
  show (List.toArray _).size ≤ _
  rw [List.size_toArray, List.length_take, List.length_drop]
  have : x.cps.toList.length = x.length := rfl
  omega
theorem scat_ok {x y : Str} {m : Mem} (h : x.length + y.length ≤ 1000) : binD .Add (.str x) (.str y) m = .ok (.str (x ++ y)) m := by
  show (if x.length + y.length ≤ lim then R.ok (D.str (x ++ y)) m else .bad) = _
  rw [if_pos (by show _ ≤ 16777216; omega)]
theorem scat_len {x y : Str} : (x ++ y).length = x.length + y.length := Array.size_append ..
theorem str_im {x : Str} (h : x.length ≤ 1000) : im (.str x) = true := decide_eq_true (by show _ ≤ 16777216; omega)
theorem words_ok (hc : HC c) : Dr ms (C (k + 6) 30 [.ref 0] (c :: ms)) fun d => d = .bl true := by
  refine Dr.by (fn := f30) rfl rfl ?_
  simp only [f30, b30, startR, List.map_cons, List.map_nil, List.length_cons, List.length_nil, List.cons_append, List.nil_append, List.replicate_succ, List.replicate_zero, Nat.reduceAdd, Nat.reduceSub, EV.w_scons]
  refine wo_forR 8 rfl rfl (by omega) (by decide) ?_
  refine for_wo _ (fun i ρ m => ∃ a1 a2 a3 a4 a5 a6 a7 c', ρ = [some (.ref 0), a1, a2, a3, a4, a5, a6, a7] ∧ m = c' :: ms ∧ HC c') _ _ ⟨none, none, none, none, none, none, none, c, rfl, rfl, hc⟩ ?_ ?_
  · rintro i x ρ m hx ⟨a1, a2, a3, a4, a5, a6, a7, c1, rfl, rfl, hc1⟩
    refine ⟨[some (.ref 0), some x, a2, a3, a4, a5, a6, a7], rfl, ?_⟩
    rw [w_scons, w_asg]
    simp only [EV.w_call, EV.w_cons, EV.w_nil, EV.w_var, EV.w_lst, EV.w_int, List.getElem?_cons_zero]
    refine Dr.wr (some_ok hc1 (by simp) (by simp) fun x hx n => ?_) ?_
    · simp only [List.mem_cons, List.not_mem_nil, or_false] at hx
      rcases hx with rfl | rfl | rfl | rfl | rfl | rfl <;> rfl
    intro d c2 hc2 hd
    have hd : ∃ n : Nat, d = .int n ∧ 1 ≤ n ∧ n ≤ 9 := by
      simp only [List.mem_cons, List.not_mem_nil, or_false] at hd
      rcases hd with rfl | rfl | rfl | rfl | rfl | rfl
      · exact ⟨1, rfl, by omega, by omega⟩
      · exact ⟨2, rfl, by omega, by omega⟩
      · exact ⟨3, rfl, by omega, by omega⟩
      · exact ⟨7, rfl, by omega, by omega⟩
      · exact ⟨8, rfl, by omega, by omega⟩
      · exact ⟨9, rfl, by omega, by omega⟩
    obtain ⟨n, rfl, hn1, hn2⟩ := hd
    refine ⟨[some (.ref 0), some x, some (.int n), a3, a4, a5, a6, a7], rfl, ?_⟩
    rw [w_scons, w_asg]
    simp only [EV.w_call, EV.w_cons, EV.w_nil, EV.w_var, List.getElem?_cons_zero, List.getElem?_cons_succ]
    refine Dr.wr (letters_ok hc2 hn2) ?_
    rintro _ c3 hc3 ⟨cs, rfl, hl, hcs⟩
    have hlw : (⟨cs.toArray⟩ : Str).length = n := by show cs.toArray.size = n; rw [List.size_toArray, hl]
    generalize hW : (⟨cs.toArray⟩ : Str) = wd at hlw
    refine ⟨[some (.ref 0), some x, some (.int n), some (.str wd), a4, a5, a6, a7], rfl, ?_⟩
    rw [w_scons, w_asg]
    simp only [EV.w_call, EV.w_cons, EV.w_nil, EV.w_var, List.getElem?_cons_zero, List.getElem?_cons_succ]
    refine Dr.wr (draw_ok hc3 (by omega) (by omega)) ?_
    rintro _ c4 hc4 ⟨at', rfl, ha1, ha2⟩
    refine ⟨[some (.ref 0), some x, some (.int n), some (.str wd), some (.int at'), a5, a6, a7], rfl, ?_⟩
    rw [w_scons, w_asg]
    have hwl : wd.length ≤ lim := by rw [hlw]; show _ ≤ 16777216; omega
    simp only [EV.w_var, EV.w_int, EV.w_bool, EV.w_none, EV.w_str, EV.w_glo, EV.w_bin, EV.w_not, EV.w_cmp, EV.w_and, EV.w_or, EV.w_ife, EV.w_tup, EV.w_lst, EV.w_idx, EV.w_slc, EV.w_no, EV.w_yes, EV.w_rev, EV.w_call, EV.w_bi, EV.w_itm, EV.w_isi, EV.w_alc, EV.w_nil, EV.w_cons, EV.w_asg, EV.w_par, EV.w_seti, EV.w_expr, EV.w_ret, EV.w_ifs, EV.w_snil, EV.w_scons, List.getElem?_cons_zero, List.getElem?_cons_succ, Wr_ok, str_cut hwl, Option.some.injEq, exists_eq_left', D.int.injEq]
    refine Dr.wr (some_ok hc4 (by simp) (by simp) fun x hx n => ?_) ?_
    · simp only [List.mem_cons, List.not_mem_nil, or_false] at hx
      rcases hx with rfl | rfl | rfl | rfl | rfl | rfl <;> rfl
    intro d c5 hc5 hd
    have hd : ∃ y : Str, d = .str y ∧ y.length ≤ 1 := by
      simp only [List.mem_cons, List.not_mem_nil, or_false] at hd
      rcases hd with rfl | rfl | rfl | rfl | rfl | rfl <;> exact ⟨_, rfl, by decide +kernel⟩
    obtain ⟨y, rfl, hy⟩ := hd
    have q1 := cutS_len (x := wd) (lo := none) (hi := some at')
    have q2 := cutS_len (x := wd) (lo := some (at' + 1)) (hi := none)
    rw [scat_ok (by omega), Wr_ok, add_ok, Wr_ok]
    simp only [Option.some.injEq, exists_eq_left', D.int.injEq]
    rw [scat_ok (by rw [scat_len]; omega), Wr_ok]
    have ho : im (.str (cutS wd none (some at') ++ y ++ cutS wd (some (at' + 1)) none)) = true := str_im (by rw [scat_len, scat_len]; omega)
    generalize cutS wd none (some at') ++ y ++ cutS wd (some (at' + 1)) none = oth at ho
    refine ⟨[some (.ref 0), some x, some (.int n), some (.str wd), some (.int at'), some (.str oth), a6, a7], rfl, ?_⟩
    refine wo_forS ?_
    simp only [EV.w_var, EV.w_int, EV.w_bool, EV.w_none, EV.w_str, EV.w_glo, EV.w_bin, EV.w_not, EV.w_cmp, EV.w_and, EV.w_or, EV.w_ife, EV.w_tup, EV.w_lst, EV.w_idx, EV.w_slc, EV.w_no, EV.w_yes, EV.w_rev, EV.w_call, EV.w_bi, EV.w_itm, EV.w_isi, EV.w_alc, EV.w_nil, EV.w_cons, EV.w_asg, EV.w_par, EV.w_seti, EV.w_expr, EV.w_ret, EV.w_ifs, EV.w_snil, EV.w_scons, List.getElem?_cons_zero, List.getElem?_cons_succ, Wr_ok]
    refine Dr.wr (odd_ok hc5) ?_
    intro d1 c6 hc6 h1
    refine Dr.wr (bound_ok hc6) ?_
    intro b1 c7 hc7 hb1
    refine Dr.wr (bound_ok hc7) ?_
    intro b2 c8 hc8 hb2
    have hb2 : ∃ y : Str, b2 = .str y ∧ y.length ≤ 8 := by
      simp only [bound, List.mem_cons, List.not_mem_nil, or_false] at hb2
      rcases hb2 with rfl | rfl | rfl | rfl | rfl | rfl | rfl | rfl <;> exact ⟨_, rfl, by decide +kernel⟩
    obtain ⟨z, rfl, hz⟩ := hb2
    have hs1 : (Str.ofString "s").length = 1 := by decide +kernel
    rw [scat_ok (by rw [hs1]; omega), Wr_ok]
    have hib1 : im b1 = true := ims_mem (show ims bound = true by decide +kernel) b1 hb1
    have hiz : im (.str (z ++ Str.ofString "s")) = true := str_im (by rw [scat_len, hs1]; omega)
    have hiw : im (.str wd) = true := str_im (by omega)
    have hall : ∀ t ∈ [D.str wd, .str oth, d1, .str (Str.ofString "nil"), .lst [.str wd], b1, .str (z ++ Str.ofString "s")], im t = true := by
      intro t ht
      simp only [List.mem_cons, List.not_mem_nil, or_false] at ht
      rcases ht with rfl | rfl | rfl | rfl | rfl | rfl | rfl
      · exact hiw
      · exact ho
      · exact h1
      · decide +kernel
      · show (im (.str wd) && true) = true
        rw [hiw]; rfl
      · exact hib1
      · exact hiz
    refine ⟨_, rfl, nofun, ?_⟩
    refine for_wo _ (fun i ρ m => ∃ a6 a7 c', ρ = [some (.ref 0), some x, some (.int n), some (.str wd), some (.int at'), some (.str oth), a6, a7] ∧ m = c' :: ms ∧ HC c') _ _ ⟨a6, a7, c8, rfl, rfl, hc8⟩ ?_ ?_
    · rintro i2 t ρ m ht ⟨a6, a7, c9, rfl, rfl, hc9⟩
      have hi := hall t (List.mem_of_getElem? ht)
      have e15 : C (k + 5) 15 [t] (c9 :: ms) = .ok (.bl (nameB t)) (c9 :: ms) := o_name hi
      have e2 : C (k + 5) 2 [t] (c9 :: ms) = .ok (.bl (nameB t)) (c9 :: ms) := j_name hi
      have e3 : C (k + 5) 3 [t] (c9 :: ms) = .ok (.bl (termB t)) (c9 :: ms) := j_term hi
      have e13 : ∀ b : Bool, C (k + 5) 13 [.bl b, .bl b] (c9 :: ms) = .ok (.bl true) (c9 :: ms) := fun b => is_t rfl
      refine ⟨[some (.ref 0), some x, some (.int n), some (.str wd), some (.int at'), some (.str oth), some t, a7], rfl, ?_⟩
      rw [w_scons, w_asg]
      simp only [EV.w_call, EV.w_cons, EV.w_nil, EV.w_var, List.getElem?_cons_zero, List.getElem?_cons_succ]
      rw [e15, Wr_ok]
      refine ⟨[some (.ref 0), some x, some (.int n), some (.str wd), some (.int at'), some (.str oth), some t, some (.bl (nameB t))], rfl, ?_⟩
      rw [w_scons, w_ifs, w_or, w_not]
      have et : ∀ m : Mem, evE (C (k + 5)) (fun _ => .bad) (.or (.var 7) (.and (.isi (.var 6) [.str]) (.cmp .Eq (.var 6) (.lit (.str (Str.ofString "nil")))))) [some (.ref 0), some x, some (.int n), some (.str wd), some (.int at'), some (.str oth), some t, some (.bl (nameB t))] m = .ok (.bl (termB t)) m := fun m => ev_term rfl rfl hi
      simp only [EV.w_call, EV.w_cons, EV.w_nil, EV.w_var, List.getElem?_cons_zero, List.getElem?_cons_succ, e2, e13, Wr_ok, e3, et, EV.w_not, D.bl.injEq, exists_eq_left', Bool.not_true, Bool.false_eq_true, if_false, ite_false, EV.w_snil]
      exact ⟨_, _, _, rfl, rfl, hc9⟩
    · rintro ρ m ⟨a6, a7, c9, rfl, rfl, hc9⟩
      exact ⟨_, _, _, _, _, _, _, _, rfl, rfl, hc9⟩
  · rintro ρ m ⟨a1, a2, a3, a4, a5, a6, a7, c1, rfl, rfl, hc1⟩
    simp only [EV.w_var, EV.w_int, EV.w_bool, EV.w_none, EV.w_str, EV.w_glo, EV.w_bin, EV.w_not, EV.w_cmp, EV.w_and, EV.w_or, EV.w_ife, EV.w_tup, EV.w_lst, EV.w_idx, EV.w_slc, EV.w_no, EV.w_yes, EV.w_rev, EV.w_call, EV.w_bi, EV.w_itm, EV.w_isi, EV.w_alc, EV.w_nil, EV.w_cons, EV.w_asg, EV.w_par, EV.w_seti, EV.w_expr, EV.w_ret, EV.w_ifs, EV.w_snil, EV.w_scons, List.getElem?_cons_zero, List.getElem?_cons_succ, Wr_ok]
    exact Ed.here hc1 (fun _ => rfl) rfl
end
end K01

namespace K01
open PySem PySem.Spec PyProof.Rows L2 EV
section
variable {k : Nat} {c : Cell} {ms : Mem}
theorem wo_eq {o : O} {d : D} {m : Mem} (h : Wo o (fun _ _ => False) fun e m' => e = d ∧ m' = m) : o = .rt d m := by
  cases o with
  | rt a m1 => obtain ⟨rfl, rfl⟩ := h; rfl
  | nx _ _ => exact False.elim h
  | bk _ _ => exact False.elim h
  | ct _ _ => exact False.elim h
  | ex _ _ _ _ => exact False.elim h
  | bad => exact False.elim h
theorem w_lcpZ {C : Nat → List D → Mem → R D} {o : Mem → R D} {ρ : Rho} {m : Mem} {Q : D → Mem → Prop} {a b e : Ex} {own : List (Str × Nat)} {t : Tg} (h : Wr (evE C o a ρ m) fun d m1 => Wr (evE C o b ρ m1) fun f m2 => ∃ xs, zipD d f = some xs ∧ xs.length ≤ lim ∧ Wr (lcpL none (tgD t) (fun _ m => .ok true m) (fun ρ' m => calmR (evE C o e ρ' m)) (wipeR ρ (own.map (·.2))) xs [] m2) Q) :
    Wr (evE C o (.lcp own t (.zip a b) .no e) ρ m) Q := by
  have e1 : evE C o (.lcp own t (.zip a b) .no e) ρ m = ((evE C o a ρ m).bind fun d m1 => (evE C o b ρ m1).bind fun f m2 => R.of ((zipD d f).map fun xs => (xs, none)) m2).bind fun xs m1 => if lim < xs.1.length then .bad else lcpL xs.2 (tgD t) (fun _ m => .ok true m) (fun ρ' m => calmR (evE C o e ρ' m)) (wipeR ρ (own.map (·.2))) xs.1 [] m1 := rfl
  rw [e1, Wr_bind, Wr_bind]
  refine h.imp fun d m1 h => ?_
  rw [Wr_bind]
  refine h.imp fun f m2 h => ?_
  obtain ⟨xs, h1, h2, h3⟩ := h
  rw [h1]
  show Wr (if lim < xs.length then R.bad else _) Q
  rw [if_neg (Nat.not_lt.mpr h2)]
  exact h3
theorem is_list {bs : List Bool} {m : Mem} (hl : bs.length ≤ 100) : C (k + 2) 13 [.lst (bs.map .bl), .lst (bs.map .bl)] m = .ok (.bl true) m := by
  refine call_eq (fn := f13) rfl rfl rfl ?_
  refine wo_eq ?_
  have hi : ∀ (ds : List D) (m : Mem), isiD m (.lst ds) [.tuple, .list] = some true := fun _ _ => rfl
  have hi2 : ∀ (ds : List D) (m : Mem), isiD m (.lst ds) [.tuple] = some false := fun _ _ => rfl
  have hne : ∀ m : Mem, cmpD .NotEq (.bl false) (.bl false) m = some false := fun m => by
    show some (!(PyData.eqv (.bool false) (.bool false))) = _
    simp [PyData.eqv]
  have hlen : ∀ (ds : List D) (m : Mem), biD .len [.lst ds] m = .ok (.int ds.length) m := fun _ _ => rfl
  simp only [f13, b13, startR, List.map_cons, List.map_nil, List.length_cons, List.length_nil, List.cons_append, List.nil_append, List.replicate_succ, List.replicate_zero, Nat.reduceAdd, Nat.reduceSub, EV.w_scons, EV.w_ifs, EV.w_isi, EV.w_var, EV.w_or, EV.w_cmp, EV.w_not, EV.w_and, EV.w_ret, EV.w_bi, EV.w_cons, EV.w_nil, List.getElem?_cons_zero, List.getElem?_cons_succ, hi, hi2, Option.some.injEq, exists_eq_left', D.bl.injEq, hne, Bool.not_true, Bool.false_eq_true, if_false, ite_false, if_true, ite_true, EV.w_snil, hlen, Wr_ok, eq_ok, decide_true]
  refine w_lcpZ ?_
  simp only [EV.w_var, List.getElem?_cons_zero, List.getElem?_cons_succ]
  refine ⟨((bs.map D.bl).zip (bs.map D.bl)).map fun p => .tup [p.1, p.2], rfl, ?_, ?_⟩
  · rw [List.length_map, List.length_zip, List.length_map, Nat.min_self]
    show _ ≤ 16777216
    omega
  · have hb : lcpL none (tgD (.tp (.cons (.nm 2) (.cons (.nm 3) .nil)))) (fun _ m => .ok true m) (fun ρ' m => calmR (evE (C (k + 1)) (fun _ => .bad) (.call 13 (.cons (.var 2) (.cons (.var 3) .nil))) ρ' m)) [some (.lst (bs.map .bl)), some (.lst (bs.map .bl)), none, none] (((bs.map D.bl).zip (bs.map D.bl)).map fun p => .tup [p.1, p.2]) [] m = .ok (.lst (((((bs.map D.bl).zip (bs.map D.bl)).map fun p => D.tup [p.1, p.2]).map fun _ => true).map .bl)) m := by
      refine lcp_bool fun x hx => ?_
      obtain ⟨p, hp, rfl⟩ := List.mem_map.mp hx
      obtain ⟨j, hj⟩ := List.mem_iff_getElem?.mp hp
      rw [List.getElem?_zip_eq_some, List.getElem?_map] at hj
      obtain ⟨b, hb, e1⟩ := Option.map_eq_some_iff.mp hj.1
      have e2 : p.1 = p.2 := by
        have := hj.2
        rw [hb] at this
        exact e1.symm.trans (Option.some.inj this)
      refine ⟨[some (.lst (bs.map .bl)), some (.lst (bs.map .bl)), some p.1, some p.2], rfl, rfl, ?_⟩
      have ev : evE (C (k + 1)) (fun _ => .bad) (.call 13 (.cons (.var 2) (.cons (.var 3) .nil))) [some (.lst (bs.map .bl)), some (.lst (bs.map .bl)), some p.1, some p.2] m = C (k + 1) 13 [p.1, p.2] m := rfl
      show calmR (evE _ _ _ _ _) = _
      rw [ev, ← e2, ← e1, is_t rfl]
      rfl
    rw [show wipeR [some (D.lst (bs.map .bl)), some (D.lst (bs.map .bl)), none, none] ([(Str.ofString "one", 2), (Str.ofString "other", 3)].map (·.2)) = [some (.lst (bs.map .bl)), some (.lst (bs.map .bl)), none, none] from rfl, hb, Wr_ok]
    rw [show ∀ x, biD .all x m = allD x m from fun _ => rfl, allD_map, Wr_ok]
    refine ⟨?_, rfl⟩
    congr 1
    rw [List.all_map, List.all_eq_true]
    intro _ _; rfl
end
end K01

namespace K01
open PySem PySem.Spec PyProof.Rows L2 EV
section
variable {k : Nat} {c : Cell} {ms : Mem}
theorem row_true {n : Int} {p : D → Bool} {xs : List D} (hl : (xs.length : Int) ≤ n) (h : ∀ x ∈ xs, two x = true ∧ p x = true) (hr : ∀ i, i + 1 < xs.length → ltB (fstD (xs.getD i .non)) (fstD (xs.getD (i + 1) .non)) = true) : rowB n p (.tup xs) = true := by
  show (decide ((xs.length : Int) ≤ n) && xs.all two && xs.all p && risB (xs.map fstD)) = true
  rw [decide_eq_true hl, List.all_eq_true.mpr fun x hx => (h x hx).1, List.all_eq_true.mpr fun x hx => (h x hx).2]
  show risB (xs.map fstD) = true
  unfold risB
  rw [List.all_eq_true]
  intro i hi
  rw [List.mem_range, List.length_map] at hi
  rw [get_map (by omega), get_map (by omega)]
  exact hr i (by omega)
theorem row_long {n : Int} {p : D → Bool} {xs : List D} (hl : n < (xs.length : Int)) : rowB n p (.tup xs) = false := by
  show (decide ((xs.length : Int) ≤ n) && xs.all two && xs.all p && risB (xs.map fstD)) = false
  rw [decide_eq_false (by omega)]; rfl
theorem row_bad {n : Int} {p : D → Bool} {xs : List D} {x : D} (hx : x ∈ xs) (hp : p x = false) : rowB n p (.tup xs) = false := by
  show (decide ((xs.length : Int) ≤ n) && xs.all two && xs.all p && risB (xs.map fstD)) = false
  have : xs.all p = false := by
    cases h : xs.all p with
    | false => rfl
    | true => rw [List.all_eq_true.mp h x hx] at hp; cases hp
  rw [this, Bool.and_false]; rfl
/-- the letters that the greatest stack's names begin with -/
def Ls : List Nat := (Str.ofString "bdfhjlnp").cps.toList
theorem Ls_len : Ls.length = 8 := by decide +kernel
theorem Ls_up : ∀ i, i < 7 → Ls.getD i 0 < Ls.getD (i + 1) 0 := by decide +kernel
theorem Ls_let : ∀ x ∈ Ls, letB x = true := by decide +kernel
theorem name8 {cs : List Nat} (hl : cs.length = 8) (h : ∀ x ∈ cs, letB x = true) : nameB (.str ⟨cs.toArray⟩) = true := by
  have h8 : (⟨cs.toArray⟩ : Str).length = 8 := by show cs.toArray.size = 8; rw [List.size_toArray, hl]
  have hb : bndB ⟨cs.toArray⟩ = false := by
    unfold bndB
    rw [List.any_eq_false]
    intro y hy
    have key : ∀ w : Str, w.length ≠ 8 → ¬ PyData.eqv (.str w) (.str ⟨cs.toArray⟩) = true := fun w hw e => by
      rw [eqv_str, decide_eq_true_eq] at e
      rw [e] at hw
      exact hw h8
    simp only [bound, List.mem_cons, List.not_mem_nil, or_false] at hy
    rcases hy with rfl | rfl | rfl | rfl | rfl | rfl | rfl | rfl <;> exact key _ (by decide +kernel)
  show (decide ((1 : Int) ≤ ((⟨cs.toArray⟩ : Str).length : Int)) && decide (((⟨cs.toArray⟩ : Str).length : Int) ≤ 8) && !bndB ⟨cs.toArray⟩ && (cs.toArray.toList.all letB)) = true
  rw [h8, hb, List.all_eq_true.mpr (by simpa using h)]
  decide
theorem lt_cons {a b : Nat} {cs ds : List Nat} (h : a < b) : ltB (.str ⟨(a :: cs).toArray⟩) (.str ⟨(b :: ds).toArray⟩) = true := by
  show decide ((a :: cs).toArray.toList < (b :: ds).toArray.toList) = true
  refine decide_eq_true ?_
  show (a :: cs) < (b :: ds)
  exact List.Lex.rel h
/-- the greatest stack -/
def GS (xs : List D) : Prop := xs.length = 8 ∧ ∀ i, i < 8 → ∃ (cs : List Nat) (pl : Int), xs.getD i .non = .tup [.str ⟨(Ls.getD i 0 :: cs).toArray⟩, .int pl] ∧ cs.length = 7 ∧ (∀ x ∈ cs, letB x = true) ∧ 0 ≤ pl ∧ pl ≤ 999999999
/-- the greatest heap -/
def GH (xs : List D) : Prop := xs.length = 60 ∧ ∀ i : Nat, i < 60 → ∃ (r pl : Int), xs.getD i .non = .tup [.int (1 + 16000000 * (i : Int) + r), .int pl] ∧ 0 ≤ r ∧ r < 1000000 ∧ 0 ≤ pl ∧ pl ≤ 999999999
theorem mem_getD {xs : List D} {x : D} (h : x ∈ xs) : ∃ i, i < xs.length ∧ xs.getD i .non = x := by
  obtain ⟨i, hi, e⟩ := List.getElem_of_mem h
  exact ⟨i, hi, by rw [List.getD_eq_getElem?_getD, List.getElem?_eq_getElem hi, e]; rfl⟩
theorem with_of {lo hi i : Int} (h1 : lo ≤ i) (h2 : i ≤ hi) : withB lo hi (.int i) = true := by
  show (decide (lo ≤ i) && decide (i ≤ hi)) = true
  rw [decide_eq_true h1, decide_eq_true h2]; rfl
theorem gs_let {i : Nat} {cs : List Nat} (hi : i < 8) (hc : ∀ x ∈ cs, letB x = true) : ∀ x ∈ Ls.getD i 0 :: cs, letB x = true := by
  intro x hx
  rcases List.mem_cons.mp hx with rfl | hx
  · refine Ls_let _ ?_
    rw [List.getD_eq_getElem?_getD, List.getElem?_eq_getElem (by rw [Ls_len]; exact hi)]
    exact List.getElem_mem _
  · exact hc x hx
theorem gs_row {xs : List D} (h : GS xs) : rowB 8 stackP (.tup xs) = true := by
  refine row_true (by rw [h.1]; decide) (fun x hx => ?_) (fun i hi => ?_)
  · obtain ⟨i, hi, rfl⟩ := mem_getD hx
    rw [h.1] at hi
    obtain ⟨cs, pl, e, h1, h2, h3, h4⟩ := h.2 i hi
    rw [e]
    refine ⟨rfl, ?_⟩
    show (nameB (.str ⟨(Ls.getD i 0 :: cs).toArray⟩) && withB 0 999999999 (.int pl)) = true
    rw [name8 (by rw [List.length_cons, h1]) (gs_let hi h2), with_of h3 h4]; rfl
  · rw [h.1] at hi
    obtain ⟨cs, pl, e, _⟩ := h.2 i (by omega)
    obtain ⟨ds, pl2, e2, _⟩ := h.2 (i + 1) hi
    rw [e, e2]
    exact lt_cons (Ls_up i (by omega))
theorem gs_im {xs : List D} (h : GS xs) : ∀ x ∈ xs, im x = true := by
  intro x hx
  obtain ⟨i, hi, rfl⟩ := mem_getD hx
  rw [h.1] at hi
  obtain ⟨cs, pl, e, h1, h2, h3, h4⟩ := h.2 i hi
  rw [e]
  refine im2 (str_im ?_) rfl
  show ((Ls.getD i 0 :: cs).toArray).size ≤ 1000
  rw [List.size_toArray, List.length_cons, h1]
  omega
theorem gh_im {xs : List D} (h : GH xs) : ∀ x ∈ xs, im x = true := by
  intro x hx
  obtain ⟨i, hi, rfl⟩ := mem_getD hx
  rw [h.1] at hi
  obtain ⟨r, pl, e, _⟩ := h.2 i hi
  rw [e]
  rfl
theorem lt_int {a b : Int} (h : a < b) : ltB (.int a) (.int b) = true := decide_eq_true h
theorem gh_two {xs : List D} (h : GH xs) : ∀ x ∈ xs, two x = true ∧ heapP x = true := by
  intro x hx
  obtain ⟨i, hi, rfl⟩ := mem_getD hx
  rw [h.1] at hi
  obtain ⟨r, pl, e, h1, h2, h3, h4⟩ := h.2 i hi
  rw [e]
  refine ⟨rfl, ?_⟩
  show (withB 1 999999999 (.int _) && withB 0 999999999 (.int pl)) = true
  rw [with_of (by omega) (by omega), with_of h3 h4]; rfl
theorem gh_row {xs : List D} (h : GH xs) : rowB 60 heapP (.tup xs) = true := by
  refine row_true (by rw [h.1]; decide) (gh_two h) (fun i hi => ?_)
  rw [h.1] at hi
  obtain ⟨r, pl, e, h1, h2, _⟩ := h.2 i (by omega)
  obtain ⟨r2, pl2, e2, h3, h4, _⟩ := h.2 (i + 1) hi
  rw [e, e2]
  exact lt_int (by omega)
theorem getD_append {xs ys : List D} {i : Nat} : (xs ++ ys).getD i .non = if i < xs.length then xs.getD i .non else ys.getD (i - xs.length) .non := by
  rw [List.getD_eq_getElem?_getD, List.getElem?_append]
  split
  · rw [List.getD_eq_getElem?_getD]
  · rw [List.getD_eq_getElem?_getD]
theorem gh_last {xs : List D} (h : GH xs) : rowB 60 heapP (.tup (xs.drop 1 ++ [.tup [.int 999999999, .int 1]])) = true := by
  have hl : (xs.drop 1).length = 59 := by rw [List.length_drop, h.1]
  have gd : ∀ i, (xs.drop 1).getD i .non = xs.getD (i + 1) .non := fun i => by
    rw [List.getD_eq_getElem?_getD, List.getD_eq_getElem?_getD, List.getElem?_drop, Nat.add_comm]
  refine row_true (by rw [List.length_append, hl]; decide) (fun x hx => ?_) (fun i hi => ?_)
  · rcases List.mem_append.mp hx with hx | hx
    · exact gh_two h x (List.mem_of_mem_drop hx)
    · rw [List.mem_singleton.mp hx]; exact ⟨rfl, by decide⟩
  · rw [List.length_append, hl] at hi
    have hi : i + 1 < 60 := hi
    rw [getD_append, getD_append, hl, if_pos (by omega), gd]
    obtain ⟨r, pl, e, h1, h2, _⟩ := h.2 (i + 1) hi
    rw [e]
    by_cases h59 : i + 1 < 59
    · rw [if_pos h59, gd]
      obtain ⟨r2, pl2, e2, h3, h4, _⟩ := h.2 (i + 1 + 1) (by omega)
      rw [e2]
      exact lt_int (by omega)
    · rw [if_neg h59]
      have : i + 1 - 59 = 0 := by omega
      rw [this]
      show ltB (.int _) (.int 999999999) = true
      exact lt_int (by omega)
end
end K01

namespace K01
open PySem PySem.Spec PyProof.Rows L2 EV
section
variable {k : Nat} {c : Cell} {ms : Mem}
def NM (x y : D) : Prop := ∃ ch cs, x = .str ⟨#[ch]⟩ ∧ y = .str ⟨(ch :: cs).toArray⟩ ∧ cs.length = 7 ∧ ∀ z ∈ cs, letB z = true
def SK (x y : D) : Prop := ∃ pl : Int, y = .tup [x, .int pl] ∧ 0 ≤ pl ∧ pl ≤ 999999999
def HK (x y : D) : Prop := ∃ i r pl : Int, x = .int i ∧ y = .tup [.int (1 + 16000000 * i + r), .int pl] ∧ 0 ≤ r ∧ r < 1000000 ∧ 0 ≤ pl ∧ pl ≤ 999999999
theorem addT {xs ys : List D} {m : Mem} (h : xs ≠ [] ∧ xs.length + ys.length ≤ 100) : binD .Add (.tup xs) (.tup ys) m = .ok (.tup (xs ++ ys)) m :=
  if_pos (show xs ≠ [] ∧ xs.length + ys.length ≤ lim from ⟨h.1, by show _ ≤ 16777216; omega⟩)
theorem addL {xs ys : List D} {m : Mem} (h : xs.length + ys.length ≤ 100) : binD .Add (.lst xs) (.lst ys) m = .ok (.lst (xs ++ ys)) m :=
  if_pos (show xs.length + ys.length ≤ lim from by show _ ≤ 16777216; omega)
theorem ne_of {xs : List D} {n : Nat} (h : xs.length = n + 1) : xs ≠ [] := by rintro rfl; simp at h
theorem im_add {xs : List D} {y : D} (h : ∀ x ∈ xs, im x = true) (hy : im y = true) : im (.tup (xs ++ [y])) = true := by
  refine ims_of fun x hx => ?_
  rcases List.mem_append.mp hx with hx | hx
  · exact h x hx
  · rw [List.mem_singleton.mp hx]; exact hy
theorem gs_of {xs ys zs : List D} (hx : xs = Ls.map fun c => D.str ⟨#[c]⟩) (l1 : ys.length = xs.length) (p1 : ∀ (i : Nat) (x : D), xs[i]? = some x → ∃ y, ys[i]? = some y ∧ NM x y) (l2 : zs.length = ys.length) (p2 : ∀ (i : Nat) (x : D), ys[i]? = some x → ∃ y, zs[i]? = some y ∧ SK x y) : GS zs := by
  have l0 : xs.length = 8 := by rw [hx, List.length_map, Ls_len]
  refine ⟨by omega, fun i hi => ?_⟩
  have hi2 : i < Ls.length := by rw [Ls_len]; exact hi
  have e0 : xs[i]? = some (.str ⟨#[Ls.getD i 0]⟩) := by
    rw [hx, List.getElem?_map, List.getD_eq_getElem?_getD, List.getElem?_eq_getElem hi2]; rfl
  obtain ⟨y, e1, ch, cs, h1, rfl, h2, h3⟩ := p1 i _ e0
  obtain ⟨z, e2, pl, rfl, h4, h5⟩ := p2 i _ e1
  have hch : ch = Ls.getD i 0 := by
    have := D.str.inj h1
    have := Str.mk.inj this
    simpa using this.symm
  subst hch
  exact ⟨cs, pl, by rw [List.getD_eq_getElem?_getD, e2]; rfl, h2, h3, h4, h5⟩
theorem gh_of {ys : List D} (l1 : ys.length = ((List.range 60).map fun (j : Nat) => D.int (0 + (j : Int))).length) (p1 : ∀ (i : Nat) (x : D), ((List.range 60).map fun (j : Nat) => D.int (0 + (j : Int)))[i]? = some x → ∃ y, ys[i]? = some y ∧ HK x y) : GH ys := by
  refine ⟨by rw [l1, List.length_map, List.length_range], fun i hi => ?_⟩
  have e0 : ((List.range 60).map fun (j : Nat) => D.int (0 + (j : Int)))[i]? = some (.int (0 + (i : Int))) := by
    rw [List.getElem?_map, List.getElem?_range hi]; rfl
  obtain ⟨y, e1, i', r, pl, h1, rfl, h2⟩ := p1 i _ e0
  have hi' : i' = (i : Int) := by have := D.int.inj h1; omega
  subst hi'
  exact ⟨r, pl, by rw [List.getD_eq_getElem?_getD, e1]; rfl, h2⟩
theorem not_row_state {a b : D} (h : rowB 8 stackP a = false) : stateB (.tup [a, b]) = false := by
  show (true && (rowB 8 stackP a && _)) = false
  rw [h]; rfl
theorem is_row_state {a b : D} (h : rowB 8 stackP a = true) (h2 : rowB 60 heapP b = true) : stateB (.tup [a, b]) = true := by
  show (true && (rowB 8 stackP a && rowB 60 heapP b)) = true
  rw [h, h2]; rfl
def told9 : List Bool := [true, true, true, true, false, false, false, false, true]
theorem greatest_ok (hc : HC c) : Dr ms (C (k + 7) 31 [.ref 0] (c :: ms)) fun d => d = .bl true := by
  refine Dr.by (fn := f31) rfl rfl ?_
  simp only [f31, b31, startR, List.map_cons, List.map_nil, List.length_cons, List.length_nil, List.cons_append, List.nil_append, List.replicate_succ, List.replicate_zero, Nat.reduceAdd, Nat.reduceSub]
  rw [w_scons, w_asg]
  refine w_lcpS ?_
  rw [EV.w_str]
  refine ⟨Ls.map fun c => D.str ⟨#[c]⟩, rfl, nofun, by rw [List.length_map, Ls_len]; decide, ?_⟩
  refine lcp_wr (P := NM) hc (fun x hx => ?_) ?_
  · obtain ⟨ch, _, rfl⟩ := List.mem_map.mp hx
    refine ⟨[some (.ref 0), none, none, none, none, some (.str ⟨#[ch]⟩), none, none], rfl, fun _ => rfl, fun c hc => ?_⟩
    rw [Wr_calm]
    simp only [EV.w_bin, EV.w_call, EV.w_cons, EV.w_nil, EV.w_var, EV.w_int, List.getElem?_cons_zero, List.getElem?_cons_succ]
    refine Dr.wr (letters_ok (k := k + 4) (n := 7) hc (by decide)) ?_
    rintro _ c1 hc1 ⟨cs, rfl, h1, h2⟩
    have e : binD .Add (.str ⟨#[ch]⟩) (.str ⟨cs.toArray⟩) (c1 :: ms) = .ok (.str ⟨(ch :: cs).toArray⟩) (c1 :: ms) := by
      have e1 : (⟨#[ch]⟩ : Str) ++ (⟨cs.toArray⟩ : Str) = ⟨(ch :: cs).toArray⟩ := by
        show Str.mk (#[ch] ++ cs.toArray) = _
        congr 1
        apply Array.ext'
        simp
      have e2 : (⟨#[ch]⟩ : Str).length + (⟨cs.toArray⟩ : Str).length ≤ lim := by
        show 1 + cs.toArray.size ≤ 16777216
        rw [List.size_toArray]; omega
      show (if _ then R.ok (D.str ((⟨#[ch]⟩ : Str) ++ (⟨cs.toArray⟩ : Str))) (c1 :: ms) else R.bad) = _
      rw [if_pos e2, e1]
    rw [e, Wr_ok]
    exact ⟨c1, rfl, hc1, ch, cs, rfl, rfl, h1, h2⟩
  intro names c1 hc1 l1 p1
  have ln : names.length = 8 := by rw [l1, List.length_map, Ls_len]
  refine ⟨[some (.ref 0), some (.lst names), none, none, none, none, none, none], rfl, ?_⟩
  rw [w_scons, w_asg, w_bi, w_cons]
  refine w_lcpS ?_
  rw [EV.w_var]
  refine ⟨names, rfl, nofun, by rw [ln]; decide, ?_⟩
  refine lcp_wr (P := SK) hc1 (fun x hx => ⟨[some (.ref 0), some (.lst names), none, none, none, none, some x, none], rfl, fun _ => rfl, fun c hc => ?_⟩) ?_
  · rw [Wr_calm]
    simp only [EV.w_tup, EV.w_call, EV.w_cons, EV.w_nil, EV.w_var, EV.w_int, List.getElem?_cons_zero, List.getElem?_cons_succ]
    refine Dr.wr (place_ok (k := k + 3) hc (by omega) (by omega)) ?_
    rintro _ c1 hc1 ⟨r, rfl, h1, h2⟩
    exact ⟨c1, rfl, hc1, r, rfl, h1, h2⟩
  intro stack c2 hc2 l2 p2
  have hgs : GS stack := gs_of rfl l1 p1 l2 p2
  clear p1 p2 l1 l2
  rw [w_nil, tup_ok, Wr_ok]
  refine ⟨[some (.ref 0), some (.lst names), some (.tup stack), none, none, none, none, none], rfl, ?_⟩
  rw [w_scons, w_asg, w_bi, w_cons]
  refine w_lcpR ?_
  rw [EV.w_int]
  refine ⟨60, rfl, by decide, by decide, ?_⟩
  refine lcp_wr (P := HK) hc2 (fun x hx => ?_) ?_
  · obtain ⟨j, _, rfl⟩ := List.mem_map.mp hx
    generalize hz : (0 + (j : Int)) = z
    refine ⟨[some (.ref 0), some (.lst names), some (.tup stack), none, none, none, none, some (.int z)], rfl, fun _ => rfl, fun c hc => ?_⟩
    rw [Wr_calm]
    have e6 : ∀ m : Mem, binD .Pow (.int 10) (.int 6) m = .ok (.int 1000000) m := fun m => rfl
    simp only [EV.w_tup, EV.w_bin, EV.w_call, EV.w_cons, EV.w_nil, EV.w_var, EV.w_int, List.getElem?_cons_zero, List.getElem?_cons_succ, e6, Wr_ok, Option.some.injEq, exists_eq_left']
    rw [mulL _ (by decide), Wr_ok, add_ok, Wr_ok]
    refine Dr.wr (draw_ok (k := k + 5) hc (by omega) (by omega)) ?_
    rintro _ c1 hc1 ⟨r, rfl, h1, h2⟩
    rw [add_ok, Wr_ok]
    refine Dr.wr (place_ok (k := k + 3) hc1 (by omega) (by omega)) ?_
    rintro _ c3 hc3 ⟨pl, rfl, h3, h4⟩
    exact ⟨c3, rfl, hc3, z, r, pl, rfl, rfl, h1, h2, h3, h4⟩
  intro heap c3 hc3 l3 p3
  have hgh : GH heap := gh_of l3 p3
  clear p3 l3
  rw [w_nil, tup_ok, Wr_ok]
  refine ⟨[some (.ref 0), some (.lst names), some (.tup stack), some (.tup heap), none, none, none, none], rfl, ?_⟩
  have is := gs_im hgs
  have ih := gh_im hgh
  have isT : im (.tup stack) = true := ims_of is
  have ihT : im (.tup heap) = true := ims_of ih
  have js : ∀ {d : D} {m : Mem}, im d = true → C (k + 6) 7 [d] m = .ok (.bl (rowB 8 stackP d)) m := fun h => j_stack (k := k + 2) h
  have jh : ∀ {d : D} {m : Mem}, im d = true → C (k + 6) 8 [d] m = .ok (.bl (rowB 60 heapP d)) m := fun h => j_heap (k := k + 2) h
  have jt : ∀ {d : D} {m : Mem}, im d = true → C (k + 6) 9 [d] m = .ok (.bl (stateB d)) m := fun h => j_state (k := k + 1) h
  have st0 : stateB (.tup [.tup [], .tup []]) = true := by decide +kernel
  have e9 : ∀ m : Mem, binD .Pow (.int 10) (.int 9) m = .ok (.int 1000000000) m := fun m => rfl
  have s9 : ∀ m : Mem, binD .Sub (.int 1000000000) (.int 1) m = .ok (.int 999999999) m := fun m => rfl
  have ns : stack ≠ [] := ne_of hgs.1
  have nh : heap ≠ [] := ne_of hgh.1
  have ls := hgs.1
  have lh := hgh.1
  -- the first four
  rw [w_scons, w_asg]
  simp only [EV.w_lst, EV.w_tup, EV.w_call, EV.w_cons, EV.w_nil, EV.w_var, List.getElem?_cons_zero, List.getElem?_cons_succ, Option.some.injEq, exists_eq_left']
  rw [js isT, gs_row hgs, Wr_ok, jh ihT, gh_row hgh, Wr_ok, jt (im2 isT ihT), is_row_state (gs_row hgs) (gh_row hgh), Wr_ok, jt (by rfl), st0, Wr_ok]
  refine ⟨[some (.ref 0), some (.lst names), some (.tup stack), some (.tup heap), some (.lst [.bl true, .bl true, .bl true, .bl true]), none, none, none], rfl, ?_⟩
  -- the next three
  have f1 : rowB 8 stackP (.tup (stack ++ [.tup [.str (Str.ofString "q"), .int 1]])) = false := row_long (by rw [List.length_append, ls]; decide)
  have f2 : rowB 60 heapP (.tup (heap ++ [.tup [.int 999999999, .int 1]])) = false := row_long (by rw [List.length_append, lh]; decide)
  have f3 : rowB 60 heapP (.tup (heap.take 59 ++ [.tup [.int 0, .int 1]])) = false := row_bad (x := .tup [.int 0, .int 1]) (List.mem_append_right _ List.mem_cons_self) (by decide)
  have c1' : ∀ m : Mem, slcD (.tup heap) none (some 59) m = some (.tup (heap.take 59)) := fun m => by
    have e : cutD heap none (some 59) = heap.take 59 := by
      unfold EV.cutD
      rw [lh]
      rfl
    show (if HT.sIx heap.length 0 none = 0 ∧ HT.sIx heap.length heap.length (some 59) = heap.length then none else some (D.tup (cutD heap none (some 59)))) = _
    rw [e, lh]
    rfl
  have c2' : ∀ m : Mem, slcD (.tup heap) (some 1) none m = some (.tup (heap.drop 1)) := fun m => by
    have e : cutD heap (some 1) none = heap.drop 1 := by
      unfold EV.cutD
      rw [lh]
      show (heap.drop 1).take 59 = _
      exact List.take_of_length_le (by rw [List.length_drop, lh]; decide)
    show (if HT.sIx heap.length 0 (some 1) = 0 ∧ HT.sIx heap.length heap.length none = heap.length then none else some (D.tup (cutD heap (some 1) none))) = _
    rw [e, lh]
    rfl
  have lt59 : (heap.take 59).length = 59 := by rw [List.length_take, lh]; rfl
  have ld1 : (heap.drop 1).length = 59 := by rw [List.length_drop, lh]
  have i1 : ∀ {x : D}, x ∈ heap.take 59 → im x = true := fun h => ih _ (List.mem_of_mem_take h)
  have i2 : ∀ {x : D}, x ∈ heap.drop 1 → im x = true := fun h => ih _ (List.mem_of_mem_drop h)
  have a1 : ∀ m : Mem, binD .Add (.tup stack) (.tup [.tup [.str (Str.ofString "q"), .int 1]]) m = .ok (.tup (stack ++ [.tup [.str (Str.ofString "q"), .int 1]])) m := fun m => addT ⟨ns, by rw [ls]; decide⟩
  have a2 : ∀ m : Mem, binD .Add (.tup heap) (.tup [.tup [.int 999999999, .int 1]]) m = .ok (.tup (heap ++ [.tup [.int 999999999, .int 1]])) m := fun m => addT ⟨nh, by rw [lh]; decide⟩
  have a3 : ∀ m : Mem, binD .Add (.tup (heap.take 59)) (.tup [.tup [.int 0, .int 1]]) m = .ok (.tup (heap.take 59 ++ [.tup [.int 0, .int 1]])) m := fun m => addT ⟨ne_of lt59, by rw [lt59]; decide⟩
  have a4 : ∀ m : Mem, binD .Add (.tup stack) (.tup [.tup [.str (Str.ofString "z"), .int 0]]) m = .ok (.tup (stack ++ [.tup [.str (Str.ofString "z"), .int 0]])) m := fun m => addT ⟨ns, by rw [ls]; decide⟩
  have a5 : ∀ m : Mem, binD .Add (.tup (heap.drop 1)) (.tup [.tup [.int 999999999, .int 1]]) m = .ok (.tup (heap.drop 1 ++ [.tup [.int 999999999, .int 1]])) m := fun m => addT ⟨ne_of ld1, by rw [ld1]; decide⟩
  rw [w_scons, w_asg]
  simp only [EV.w_lst, EV.w_tup, EV.w_call, EV.w_cons, EV.w_nil, EV.w_var, EV.w_bin, EV.w_slc, EV.w_no, EV.w_yes, EV.w_int, EV.w_str, List.getElem?_cons_zero, List.getElem?_cons_succ, Option.some.injEq, exists_eq_left', D.int.injEq, e9, s9, a1, a2, a3, c1', Wr_ok, D.tup.injEq]
  rw [js (im_add is (by decide +kernel)), f1, Wr_ok, jh (im_add ih (by rfl)), f2, Wr_ok, jh (im_add (fun x => i1) (by rfl)), f3, Wr_ok, addL (by decide), Wr_ok]
  refine ⟨[some (.ref 0), some (.lst names), some (.tup stack), some (.tup heap), some (.lst ([.bl true, .bl true, .bl true, .bl true] ++ [.bl false, .bl false, .bl false])), none, none, none], rfl, ?_⟩
  have f4 : rowB 8 stackP (.tup (stack ++ [.tup [.str (Str.ofString "z"), .int 0]])) = false := row_long (by rw [List.length_append, ls]; decide)
  rw [w_scons, w_asg]
  simp only [EV.w_lst, EV.w_tup, EV.w_call, EV.w_cons, EV.w_nil, EV.w_var, EV.w_bin, EV.w_slc, EV.w_no, EV.w_yes, EV.w_int, EV.w_str, List.getElem?_cons_zero, List.getElem?_cons_succ, Option.some.injEq, exists_eq_left', D.int.injEq, e9, s9, a4, a5, c2', Wr_ok, D.tup.injEq]
  rw [jt (im2 (im_add is (by decide +kernel)) ihT), not_row_state f4, Wr_ok, jh (im_add (fun x => i2) (by rfl)), gh_last hgh, Wr_ok, addL (by decide), Wr_ok]
  refine ⟨[some (.ref 0), some (.lst names), some (.tup stack), some (.tup heap), some (.lst (told9.map .bl)), none, none, none], rfl, ?_⟩
  rw [w_scons, w_ret]
  simp only [EV.w_lst, EV.w_call, EV.w_cons, EV.w_nil, EV.w_var, EV.w_bool, List.getElem?_cons_zero, List.getElem?_cons_succ, Option.some.injEq, exists_eq_left']
  have e13 : C (k + 6) 13 [.lst (told9.map .bl), .lst [.bl true, .bl true, .bl true, .bl true, .bl false, .bl false, .bl false, .bl false, .bl true]] (c3 :: ms) = .ok (.bl true) (c3 :: ms) := is_list (k := k + 4) (bs := told9) (by decide)
  rw [e13, Wr_ok]
  exact Ed.here hc3 (fun _ => rfl) rfl
end
end K01

namespace K01
open PySem PySem.Spec PyProof.Rows L2 EV
section
variable {k : Nat} {c : Cell} {ms : Mem}
def absI (i : Int) : Int := (if i < 0 then -i else i).fmod (10 ^ 60)
theorem absI_pos (i : Int) : 0 ≤ absI i := Int.fmod_nonneg_of_pos _ (by decide +kernel)
theorem hand_ok (ns : List Int) : ∃ c, C (k + 1) 10 [.scr ns] [] = .ok (.ref 0) [c] ∧ HC c := by
  have hl : (cutD ns none (some 63)).length ≤ 63 := by
    unfold EV.cutD
    rw [List.length_take]
    have e : HT.sIx ns.length 0 none = 0 := rfl
    have : HT.sIx ns.length ns.length (some 63) ≤ 63 := by
      simp only [HT.sIx]
      split <;> omega
    omega
  generalize hcs : cutD ns none (some 63) = zs at hl
  let cell : Cell := .lst [.lst ((zs.map absI).map .int), .int 0, .int 0, .int (6007 + 13 * (zs.length : Int)), .int 0]
  have hc : HC cell := ⟨zs.map absI, 0, 0, _, 0, rfl, by rw [List.length_map]; exact hl, fun x hx => by
    obtain ⟨i, _, rfl⟩ := List.mem_map.mp hx
    exact absI_pos i, by omega, by omega⟩
  refine ⟨cell, ?_, hc⟩
  have body : exSs (C k) (fun _ => .bad) wf f10.body (startR f10.ns [.scr ns]) [] = .rt (.ref 0) [cell] := by
    refine wo_eq ?_
    simp only [f10, b10, startR, List.map_cons, List.map_nil, List.length_cons, List.length_nil, List.cons_append, List.nil_append, List.replicate_succ, List.replicate_zero, Nat.reduceAdd, Nat.reduceSub, EV.w_scons]
    rw [w_asg]
    refine w_lcpS ?_
    have hs : slcD (.scr ns) none (some 63) [] = some (.lst (zs.map .int)) := by
      show some (D.lst ((cutD ns none (some 63)).map .int)) = _
      rw [hcs]
    simp only [EV.w_slc, EV.w_no, EV.w_yes, EV.w_int, EV.w_var, List.getElem?_cons_zero, D.int.injEq, exists_eq_left', hs, Option.some.injEq]
    refine ⟨zs.map .int, rfl, nofun, by rw [List.length_map]; show _ ≤ 16777216; omega, ?_⟩
    have hlc : lcpL none (tgD (.nm 2)) (fun _ m => .ok true m) (fun ρ' m => calmR (evE (C k) (fun _ => .bad) (.bin .Mod (.bi .abs (.cons (.bi .int (.cons (.var 2) .nil)) .nil)) (.bin .Pow (.lit (.int 10)) (.lit (.int 60)))) ρ' m)) [some (.scr ns), none, none] (zs.map D.int) [] [] = .ok (.lst ((zs.map D.int).map fun d => match d with | D.int i => D.int (absI i) | _ => D.non)) [] := by
      have := lcp_pure (q := none) (tg := tgD (.nm 2)) (cd := fun _ m => .ok true m) (el := fun ρ' m => calmR (evE (C k) (fun _ => .bad) (.bin .Mod (.bi .abs (.cons (.bi .int (.cons (.var 2) .nil)) .nil)) (.bin .Pow (.lit (.int 10)) (.lit (.int 60)))) ρ' m)) (ρ := [some (.scr ns), none, none]) (m := []) (f := fun d => match d with | D.int i => D.int (absI i) | _ => D.non) rfl (zs.map D.int) [] (fun x hx => by
        obtain ⟨i, _, rfl⟩ := List.mem_map.mp hx
        refine ⟨[some (.scr ns), none, some (.int i)], rfl, rfl, ?_⟩
        have e : evE (C k) (fun _ => .bad) (.bin .Mod (.bi .abs (.cons (.bi .int (.cons (.var 2) .nil)) .nil)) (.bin .Pow (.lit (.int 10)) (.lit (.int 60)))) [some (.scr ns), none, some (.int i)] [] = .ok (.int (absI i)) [] := by
          refine wr_eq ?_
          have ea : ∀ m : Mem, biD .abs [.int i] m = .ok (.int (if i < 0 then -i else i)) m := fun m => rfl
          have ep : ∀ m : Mem, binD .Pow (.int 10) (.int 60) m = .ok (.int (10 ^ 60)) m := fun m => rfl
          simp only [EV.w_bin, EV.w_bi, EV.w_cons, EV.w_nil, EV.w_var, EV.w_int, List.getElem?_cons_zero, List.getElem?_cons_succ, int_ok, Wr_ok, ea, ep]
          rw [mod_ok _ (by decide +kernel), Wr_ok]
          exact ⟨rfl, rfl⟩
        show calmR (evE _ _ _ _ _) = _
        rw [e]; rfl)
      rw [List.nil_append] at this
      exact this
    rw [show wipeR [some (D.scr ns), none, none] ([(Str.ofString "cell", 2)].map (·.2)) = [some (.scr ns), none, none] from rfl, hlc, Wr_ok]
    have hmm : (zs.map D.int).map (fun d => match d with | D.int i => D.int (absI i) | _ => D.non) = (zs.map absI).map D.int := by
      rw [List.map_map, List.map_map]; rfl
    rw [hmm]
    refine ⟨[some (.scr ns), some (.lst ((zs.map absI).map .int)), none], rfl, ?_⟩
    have el : ∀ m : Mem, biD .len [.lst ((zs.map absI).map .int)] m = .ok (.int (zs.length : Int)) m := fun m => by
      show R.ok (D.int ((((zs.map absI).map D.int).length : Nat) : Int)) m = _
      rw [List.length_map, List.length_map]
    simp only [EV.w_ret, EV.w_alc, EV.w_lst, EV.w_bin, EV.w_bi, EV.w_cons, EV.w_nil, EV.w_var, EV.w_int, List.getElem?_cons_zero, List.getElem?_cons_succ, el, Wr_ok]
    rw [mulL _ (by omega), Wr_ok, add_ok, Wr_ok]
    exact ⟨rfl, rfl⟩
  show (match T[10]? with | some fn => runFn (C k) wf fn [.scr ns] [] | none => .bad) = _
  show runFn (C k) wf f10 [.scr ns] [] = _
  unfold runFn
  rw [if_pos (show [D.scr ns].length = f10.np from rfl), body]
  show gcR [] (.ok (.ref 0) [cell]) = _
  show (if belC 0 cell = true ∧ 0 ≤ 0 then R.ok (D.ref 0) [cell] else R.ok (D.ref 0) [cell]) = _
  split <;> rfl
/-- what a loop of judgements needs -/
theorem law (ns : List Int) (h63 : ns.length ≤ 63) : ∃ m, callAt T wf 40 32 [.scr ns] [] = .ok (.bl true) m := by
  obtain ⟨c0, h0, hc0⟩ := hand_ok (k := 38) ns
  have key : Wo (exSs (C 39) (fun _ => .bad) wf f32.body (startR f32.ns [.scr ns]) []) (fun _ _ => False) (fun d _ => d = .bl true) := by
    simp only [f32, b32, startR, List.map_cons, List.map_nil, List.length_cons, List.length_nil, List.cons_append, List.nil_append, List.replicate_succ, List.replicate_zero, Nat.reduceAdd, Nat.reduceSub, EV.w_scons]
    rw [w_asg]
    simp only [EV.w_call, EV.w_cons, EV.w_nil, EV.w_var, List.getElem?_cons_zero]
    rw [show C 39 10 [.scr ns] [] = .ok (.ref 0) [c0] from h0, Wr_ok]
    refine ⟨[some (.scr ns), some (.ref 0), none, none, none, none], rfl, ?_⟩
    refine wo_forR 6 rfl rfl (by omega) (by decide) ?_
    refine for_wo _ (fun i ρ m => ∃ a2 a3 a4 a5 c', ρ = [some (.scr ns), some (.ref 0), a2, a3, a4, a5] ∧ m = [c'] ∧ HC c') _ _ ⟨none, none, none, none, c0, rfl, rfl, hc0⟩ ?_ ?_
    · rintro i x ρ m hx ⟨a2, a3, a4, a5, c1, rfl, rfl, hc1⟩
      refine ⟨[some (.scr ns), some (.ref 0), some x, a3, a4, a5], rfl, ?_⟩
      rw [w_scons, w_par]
      simp only [EV.w_call, EV.w_cons, EV.w_nil, EV.w_var, List.getElem?_cons_zero, List.getElem?_cons_succ]
      refine Dr.wr (stack_ok (k := 34) hc1) ?_
      rintro _ c2 hc2 ⟨st, rfl, hs1, hs2⟩
      refine Dr.wr (heap_ok (k := 34) hc2) ?_
      rintro _ c3 hc3 ⟨hp, rfl, hh1, hh2⟩
      refine ⟨[some (.scr ns), some (.ref 0), some x, a3, some (.tup st), some (.tup hp)], rfl, ?_⟩
      have his : im (.tup st) = true := rw_im ⟨st, rfl, hs1, hs2⟩
      have hih : im (.tup hp) = true := rw_im ⟨hp, rfl, hh1, hh2⟩
      -- a loop over things
      have judge : ∀ (fi fo : Nat) (g : D → Bool), (∀ (t : D) (m : Mem), im t = true → C 39 fi [t] m = .ok (.bl (g t)) m) → (∀ (t : D) (m : Mem), im t = true → C 39 fo [t] m = .ok (.bl (g t)) m) →
          ∀ (things : List D) (a3 : Option D) (c : Cell) (N : Rho → Mem → Prop), HC c → (∀ t ∈ things, im t = true) → (∀ a3 c, HC c → N [some (.scr ns), some (.ref 0), some x, a3, some (.tup st), some (.tup hp)] [c]) →
          Wo (forL none (tgD (.nm 3)) (fun ρ' m' => exSs (C 39) (fun _ => .bad) wf (.cons (.ifs (.not (.call 13 (.cons (.call fi (.cons (.var 3) .nil)) (.cons (.call fo (.cons (.var 3) .nil)) .nil)))) (.cons (.ret (.lit (.bool false))) .nil) .nil) .nil) ρ' m') things [some (.scr ns), some (.ref 0), some x, a3, some (.tup st), some (.tup hp)] [c]) N (fun d _ => d = .bl true) := by
        intro fi fo g hfi hfo things a3 c N hc hall hN
        refine for_wo things (fun i ρ m => ∃ a3, ρ = [some (.scr ns), some (.ref 0), some x, a3, some (.tup st), some (.tup hp)] ∧ m = [c]) _ _ ⟨a3, rfl, rfl⟩ ?_ ?_
        · rintro i2 t ρ m ht ⟨a3, rfl, rfl⟩
          have hi := hall t (List.mem_of_getElem? ht)
          have e13 : C 39 13 [.bl (g t), .bl (g t)] [c] = .ok (.bl true) [c] := is_t (k := 38) rfl
          refine ⟨[some (.scr ns), some (.ref 0), some x, some t, some (.tup st), some (.tup hp)], rfl, ?_⟩
          simp only [EV.w_scons, EV.w_ifs, EV.w_not, EV.w_call, EV.w_cons, EV.w_nil, EV.w_var, List.getElem?_cons_zero, List.getElem?_cons_succ, hfi t _ hi, hfo t _ hi, e13, Wr_ok, D.bl.injEq, exists_eq_left', Bool.not_true, Bool.false_eq_true, if_false, ite_false, EV.w_snil]
          exact ⟨_, rfl, True.intro⟩
        · rintro ρ m ⟨a3, rfl, rfl⟩
          exact hN a3 c hc
      rw [w_scons]
      refine wo_forS ?_
      simp only [EV.w_lst, EV.w_call, EV.w_cons, EV.w_nil, EV.w_var, List.getElem?_cons_zero, List.getElem?_cons_succ]
      refine Dr.wr (turned_ok (k := 34) hc3 (by omega) hs2) ?_
      intro d1 c4 hc4 h1
      refine Dr.wr (odd_ok (k := 35) hc4) ?_
      intro d2 c5 hc5 h2
      refine ⟨_, rfl, nofun, ?_⟩
      refine judge 7 17 (rowB 8 stackP) (fun t m h => j_stack (k := 35) h) (fun t m h => o_stack (k := 37) h) _ _ c5 _ hc5 (fun t ht => ?_) ?_
      · simp only [List.mem_cons, List.not_mem_nil, or_false] at ht
        rcases ht with rfl | rfl | rfl | rfl
        · exact his
        · exact h1
        · exact h2
        · exact hih
      intro a3 c6 hc6
      rw [w_scons]
      refine wo_forS ?_
      simp only [EV.w_lst, EV.w_call, EV.w_cons, EV.w_nil, EV.w_var, List.getElem?_cons_zero, List.getElem?_cons_succ]
      refine Dr.wr (turned_ok (k := 34) hc6 (by omega) hh2) ?_
      intro d3 c7 hc7 h3
      refine Dr.wr (odd_ok (k := 35) hc7) ?_
      intro d4 c8 hc8 h4
      refine ⟨_, rfl, nofun, ?_⟩
      refine judge 8 18 (rowB 60 heapP) (fun t m h => j_heap (k := 35) h) (fun t m h => o_heap (k := 37) h) _ _ c8 _ hc8 (fun t ht => ?_) ?_
      · simp only [List.mem_cons, List.not_mem_nil, or_false] at ht
        rcases ht with rfl | rfl | rfl | rfl
        · exact hih
        · exact h3
        · exact h4
        · exact his
      intro a3 c9 hc9
      rw [w_scons]
      refine wo_forS ?_
      simp only [EV.w_lst, EV.w_tup, EV.w_call, EV.w_cons, EV.w_nil, EV.w_var, List.getElem?_cons_zero, List.getElem?_cons_succ]
      refine Dr.wr (state_ok (k := 33) hc9) ?_
      intro d5 c10 hc10 h5
      refine Dr.wr (odd_ok (k := 35) hc10) ?_
      intro d6 c11 hc11 h6
      refine Dr.wr (odd_ok (k := 35) hc11) ?_
      intro d7 c12 hc12 h7
      refine ⟨_, rfl, nofun, ?_⟩
      refine judge 9 19 stateB (fun t m h => j_state (k := 34) h) (fun t m h => o_state (k := 36) h) _ _ c12 _ hc12 (fun t ht => ?_) ?_
      · simp only [List.mem_cons, List.not_mem_nil, or_false] at ht
        rcases ht with rfl | rfl | rfl
        · exact h5
        · exact h6
        · exact im2 h7 hih
      intro a3 c13 hc13
      rw [w_snil]
      exact ⟨_, _, _, _, c13, rfl, rfl, hc13⟩
    · rintro ρ m ⟨a2, a3, a4, a5, c1, rfl, rfl, hc1⟩
      simp only [EV.w_ret, EV.w_and, EV.w_call, EV.w_cons, EV.w_nil, EV.w_var, List.getElem?_cons_zero, List.getElem?_cons_succ]
      refine Dr.wr (words_ok (k := 33) hc1) ?_
      rintro _ c2 hc2 rfl
      refine ⟨true, rfl, ?_⟩
      rw [if_pos rfl]
      refine Dr.wr (greatest_ok (k := 32) hc2) ?_
      rintro _ c3 hc3 rfl
      rfl
  have run : callAt T wf 40 32 [.scr ns] [] = gcR [] (retO (exSs (C 39) (fun _ => .bad) wf f32.body (startR f32.ns [.scr ns]) [])) := rfl
  rw [run]
  revert key
  cases exSs (C 39) (fun _ => .bad) wf f32.body (startR f32.ns [.scr ns]) [] with
  | rt d m =>
    intro h
    have h : d = .bl true := h
    subst h
    exact ⟨_, rfl⟩
  | nx _ _ => exact fun h => False.elim h
  | bk _ _ => exact fun h => False.elim h
  | ct _ _ => exact fun h => False.elim h
  | ex _ _ _ _ => exact fun h => False.elim h
  | bad => exact fun h => False.elim h
end
end K01


open PySem PySem.W PyProof.Rows
set_option maxHeartbeats 0 in
theorem PySem.Challenge.cw_chainclaims_k01_whole_names_places_and_s_holds : PySem.Challenge.rw_chainclaims_k01_whole_names_places_and_s.Holds := by
  w_on; o_law; k_head; (case hw => w_witness2)
  k_fill
  refine EV.law_by (l := PySem.Challenge.rw_chainclaims_k01_whole_names_places_and_s) (n := 63) (k := 40) (iL := 32) (wf := K01.wf) (T := K01.T) (GK := K01.GK) (fnL := K01.f32) rfl (by decide) rfl ⟨rfl, by decide, by decide⟩ (fun w h Y => PySem.W.kIn_of Y) rfl rfl rfl ?F K01.law
  case F =>
    intro w mg h KX G XPh
    refine ⟨⟨?evd0, ?evd1, ?evd2, ?evd3, ?evd4, ?evd5, ?evd6, ?evd7, ?evd8, ?evd9, ?evd10, ?evd11, ?evd12, ?evd13, ?evd14, ?evd15, ?evd16, ?evd17, ?evd18, ?evd19, ?evd20, ?evd21, ?evd22, ?evd23, ?evd24, ?evd25, ?evd26, ?evd27, ?evd28, ?evd29, ?evd30, ?evd31, ?evd32, trivial⟩, ⟨?evz0, ?evz1, ?evz2, ?evz3, ?evz4, ?evz5, ?evz6, ?evz7, ?evz8, ?evz9, ?evz10, ?evz11, ?evz12, ?evz13, ?evz14, ?evz15, ?evz16, ?evz17, ?evz18, ?evz19, trivial⟩, ⟨?evg0, ?evg1, ?evg2, ?evg3, ?evg4, ?evg5, ?evg6, trivial⟩⟩
    case evd0 => (refine' EV.defOk_mk K01.r0 (fun _ _ _ _ _ _ us hl => match us, hl with | [_], _ => rfl) ?a ?l ?c ?k; (case a => k_is); (case l => k_is); (case c => k_is); (case k => k_is))
    case evd1 => (refine' EV.defOk_mk K01.r1 (fun _ _ _ _ _ _ us hl => match us, hl with | [_, _, _], _ => rfl) ?a ?l ?c ?k; (case a => k_is); (case l => k_is); (case c => k_is); (case k => k_is))
    case evd2 => (refine' EV.defOk_mk K01.r2 (fun _ _ _ _ _ _ us hl => match us, hl with | [_], _ => rfl) ?a ?l ?c ?k; (case a => k_is); (case l => k_is); (case c => k_is); (case k => k_is))
    case evd3 => (refine' EV.defOk_mk K01.r3 (fun _ _ _ _ _ _ us hl => match us, hl with | [_], _ => rfl) ?a ?l ?c ?k; (case a => k_is); (case l => k_is); (case c => k_is); (case k => k_is))
    case evd4 => (refine' EV.defOk_mk K01.r4 (fun _ _ _ _ _ _ us hl => match us, hl with | [_], _ => rfl) ?a ?l ?c ?k; (case a => k_is); (case l => k_is); (case c => k_is); (case k => k_is))
    case evd5 => (refine' EV.defOk_mk K01.r5 (fun _ _ _ _ _ _ us hl => match us, hl with | [_, _, _], _ => rfl) ?a ?l ?c ?k; (case a => k_is); (case l => k_is); (case c => k_is); (case k => k_is))
    case evd6 => (refine' EV.defOk_mk K01.r6 (fun _ _ _ _ _ _ us hl => match us, hl with | [_], _ => rfl) ?a ?l ?c ?k; (case a => k_is); (case l => k_is); (case c => k_is); (case k => k_is))
    case evd7 => (refine' EV.defOk_mk K01.r7 (fun _ _ _ _ _ _ us hl => match us, hl with | [_], _ => rfl) ?a ?l ?c ?k; (case a => k_is); (case l => k_is); (case c => k_is); (case k => k_is))
    case evd8 => (refine' EV.defOk_mk K01.r8 (fun _ _ _ _ _ _ us hl => match us, hl with | [_], _ => rfl) ?a ?l ?c ?k; (case a => k_is); (case l => k_is); (case c => k_is); (case k => k_is))
    case evd9 => (refine' EV.defOk_mk K01.r9 (fun _ _ _ _ _ _ us hl => match us, hl with | [_], _ => rfl) ?a ?l ?c ?k; (case a => k_is); (case l => k_is); (case c => k_is); (case k => k_is))
    case evd10 => (refine' EV.defOk_mk K01.r10 (fun _ _ _ _ _ _ us hl => match us, hl with | [_], _ => rfl) ?a ?l ?c ?k; (case a => k_is); (case l => k_is); (case c => k_is); (case k => k_is))
    case evd11 => (refine' EV.defOk_mk K01.r11 (fun _ _ _ _ _ _ us hl => match us, hl with | [_, _], _ => rfl) ?a ?l ?c ?k; (case a => k_is); (case l => k_is); (case c => k_is); (case k => k_is))
    case evd12 => (refine' EV.defOk_mk K01.r12 (fun _ _ _ _ _ _ us hl => match us, hl with | [_, _], _ => rfl) ?a ?l ?c ?k; (case a => k_is); (case l => k_is); (case c => k_is); (case k => k_is))
    case evd13 => (refine' EV.defOk_mk K01.r13 (fun _ _ _ _ _ _ us hl => match us, hl with | [_, _], _ => rfl) ?a ?l ?c ?k; (case a => k_is); (case l => k_is); (case c => k_is); (case k => k_is))
    case evd14 => (refine' EV.defOk_mk K01.r14 (fun _ _ _ _ _ _ us hl => match us, hl with | [_, _], _ => rfl) ?a ?l ?c ?k; (case a => k_is); (case l => k_is); (case c => k_is); (case k => k_is))
    case evd15 => (refine' EV.defOk_mk K01.r15 (fun _ _ _ _ _ _ us hl => match us, hl with | [_], _ => rfl) ?a ?l ?c ?k; (case a => k_is); (case l => k_is); (case c => k_is); (case k => k_is))
    case evd16 => (refine' EV.defOk_mk K01.r16 (fun _ _ _ _ _ _ us hl => match us, hl with | [_, _], _ => rfl) ?a ?l ?c ?k; (case a => k_is); (case l => k_is); (case c => k_is); (case k => k_is))
    case evd17 => (refine' EV.defOk_mk K01.r17 (fun _ _ _ _ _ _ us hl => match us, hl with | [_], _ => rfl) ?a ?l ?c ?k; (case a => k_is); (case l => k_is); (case c => k_is); (case k => k_is))
    case evd18 => (refine' EV.defOk_mk K01.r18 (fun _ _ _ _ _ _ us hl => match us, hl with | [_], _ => rfl) ?a ?l ?c ?k; (case a => k_is); (case l => k_is); (case c => k_is); (case k => k_is))
    case evd19 => (refine' EV.defOk_mk K01.r19 (fun _ _ _ _ _ _ us hl => match us, hl with | [_], _ => rfl) ?a ?l ?c ?k; (case a => k_is); (case l => k_is); (case c => k_is); (case k => k_is))
    case evd20 => (refine' EV.defOk_mk K01.r20 (fun _ _ _ _ _ _ us hl => match us, hl with | [_, _], _ => rfl) ?a ?l ?c ?k; (case a => k_is); (case l => k_is); (case c => k_is); (case k => k_is))
    case evd21 => (refine' EV.defOk_mk K01.r21 (fun _ _ _ _ _ _ us hl => match us, hl with | [_], _ => rfl) ?a ?l ?c ?k; (case a => k_is); (case l => k_is); (case c => k_is); (case k => k_is))
    case evd22 => (refine' EV.defOk_mk K01.r22 (fun _ _ _ _ _ _ us hl => match us, hl with | [_, _], _ => rfl) ?a ?l ?c ?k; (case a => k_is); (case l => k_is); (case c => k_is); (case k => k_is))
    case evd23 => (refine' EV.defOk_mk K01.r23 (fun _ _ _ _ _ _ us hl => match us, hl with | [_, _, _], _ => rfl) ?a ?l ?c ?k; (case a => k_is); (case l => k_is); (case c => k_is); (case k => k_is))
    case evd24 => (refine' EV.defOk_mk K01.r24 (fun _ _ _ _ _ _ us hl => match us, hl with | [_], _ => rfl) ?a ?l ?c ?k; (case a => k_is); (case l => k_is); (case c => k_is); (case k => k_is))
    case evd25 => (refine' EV.defOk_mk K01.r25 (fun _ _ _ _ _ _ us hl => match us, hl with | [_], _ => rfl) ?a ?l ?c ?k; (case a => k_is); (case l => k_is); (case c => k_is); (case k => k_is))
    case evd26 => (refine' EV.defOk_mk K01.r26 (fun _ _ _ _ _ _ us hl => match us, hl with | [_], _ => rfl) ?a ?l ?c ?k; (case a => k_is); (case l => k_is); (case c => k_is); (case k => k_is))
    case evd27 => (refine' EV.defOk_mk K01.r27 (fun _ _ _ _ _ _ us hl => match us, hl with | [_, _], _ => rfl) ?a ?l ?c ?k; (case a => k_is); (case l => k_is); (case c => k_is); (case k => k_is))
    case evd28 => (refine' EV.defOk_mk K01.r28 (fun _ _ _ _ _ _ us hl => match us, hl with | [_], _ => rfl) ?a ?l ?c ?k; (case a => k_is); (case l => k_is); (case c => k_is); (case k => k_is))
    case evd29 => (refine' EV.defOk_mk K01.r29 (fun _ _ _ _ _ _ us hl => match us, hl with | [_], _ => rfl) ?a ?l ?c ?k; (case a => k_is); (case l => k_is); (case c => k_is); (case k => k_is))
    case evd30 => (refine' EV.defOk_mk K01.r30 (fun _ _ _ _ _ _ us hl => match us, hl with | [_], _ => rfl) ?a ?l ?c ?k; (case a => k_is); (case l => k_is); (case c => k_is); (case k => k_is))
    case evd31 => (refine' EV.defOk_mk K01.r31 (fun _ _ _ _ _ _ us hl => match us, hl with | [_], _ => rfl) ?a ?l ?c ?k; (case a => k_is); (case l => k_is); (case c => k_is); (case k => k_is))
    case evd32 => (refine' EV.defOk_mk K01.r32 (fun _ _ _ _ _ _ us hl => match us, hl with | [_], _ => rfl) ?a ?l ?c ?k; (case a => k_is); (case l => k_is); (case c => k_is); (case k => k_is))
    case evz0 => (refine' PySem.W.mg_none_of KX G ?a; (case a => k_is))
    case evz1 => (refine' PySem.W.mg_none_of KX G ?a; (case a => k_is))
    case evz2 => (refine' PySem.W.mg_none_of KX G ?a; (case a => k_is))
    case evz3 => (refine' PySem.W.mg_none_of KX G ?a; (case a => k_is))
    case evz4 => (refine' PySem.W.mg_none_of KX G ?a; (case a => k_is))
    case evz5 => (refine' PySem.W.mg_none_of KX G ?a; (case a => k_is))
    case evz6 => (refine' PySem.W.mg_none_of KX G ?a; (case a => k_is))
    case evz7 => (refine' PySem.W.mg_none_of KX G ?a; (case a => k_is))
    case evz8 => (refine' PySem.W.mg_none_of KX G ?a; (case a => k_is))
    case evz9 => (refine' PySem.W.mg_none_of KX G ?a; (case a => k_is))
    case evz10 => (refine' PySem.W.mg_none_of KX G ?a; (case a => k_is))
    case evz11 => (refine' PySem.W.mg_none_of KX G ?a; (case a => k_is))
    case evz12 => (refine' PySem.W.mg_none_of KX G ?a; (case a => k_is))
    case evz13 => (refine' PySem.W.mg_none_of KX G ?a; (case a => k_is))
    case evz14 => (refine' PySem.W.mg_none_of KX G ?a; (case a => k_is))
    case evz15 => (refine' PySem.W.mg_none_of KX G ?a; (case a => k_is))
    case evz16 => (refine' PySem.W.mg_none_of KX G ?a; (case a => k_is))
    case evz17 => (refine' PySem.W.mg_none_of KX G ?a; (case a => k_is))
    case evz18 => (refine' PySem.W.mg_none_of KX G ?a; (case a => k_is))
    case evz19 => (refine' PySem.W.mg_none_of KX G ?a; (case a => k_is))
    case evg0 => (refine' EV.gval_K KX G ?a ?r; (case a => k_is); (case r => kernel_rfl))
    case evg1 => (refine' EV.gval_K KX G ?a ?r; (case a => k_is); (case r => kernel_rfl))
    case evg2 => (refine' EV.gval_K KX G ?a ?r; (case a => k_is); (case r => kernel_rfl))
    case evg3 => (refine' EV.gval_K KX G ?a ?r; (case a => k_is); (case r => kernel_rfl))
    case evg4 => exact EV.gval_L XPh (by decide +kernel)
    case evg5 => (refine' EV.gval_K KX G ?a ?r; (case a => k_is); (case r => kernel_rfl))
    case evg6 => (refine' EV.gval_K KX G ?a ?r; (case a => k_is); (case r => kernel_rfl))
