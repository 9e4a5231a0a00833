import PyProof.Rows.All
import HandS.ForMost
import HandS.ForExc
import HandS.CallSlots
import HandS.Defaults
import HandS.TryMany
import HandS.HeadHook2
import HandS.Deep
import HandS.IsInst
import KE.SortData
import HandS.Head0
import HandS.Head1
import HandS.Head2
import HandS.HeadEnd
import PySem.Challenge.RW_paironce_k79_places
set_option Elab.async false
set_option linter.all false
set_option maxRecDepth 20000
/-! The value layer: data without addresses, a store for what is changed, judgements over the hand layer. -/
namespace VL
open PySem PyProof.Rows PySem.Spec L2

/-- data; scr: a list that is read alone; ptr k: the k-th cell of the store -/
inductive D where
  | non | bl (b : Bool) | int (i : Int) | str (x : Str) | ty (n : String)
  | tup (xs : List D) | lst (xs : List D) | scr (xs : List D)
  | dK (kvs : List (Key × D)) | dT (kvs : List (List Key × D))
  | obj (C : Str) (fs : List (Str × D))
  | ptr (k : Nat)

/-- a thing that may be changed; fwd: it is data from now on -/
inductive Cell where
  | lst (xs : List D) | dK (kvs : List (Key × D)) | dT (kvs : List (List Key × D))
  | ins (C : Str) (fs : List (Str × D))
  | fwd (d : D)

structure S where
  ρ : List (Option D)
  η : List Cell

/-! ### how values bear data -/
section
variable (K : PySem.W.Frag) (F : Hp) (ι : List Addr)
mutual
inductive Rp : V → D → Prop
  | non : Rp .non .non
  | bl (b : Bool) : Rp (.bl b) (.bl b)
  | int (i : Int) : Rp (.int i) (.int i)
  | str (x : Str) : Rp (.str x) (.str x)
  | ty (n : String) : Rp (.ty n) (.ty n)
  | tup {a : Addr} {vs : List V} {ds : List D} : SqT K F a vs → Rps vs ds → Rp (.ref a) (.tup ds)
  | lst {a : Addr} {vs : List V} {ds : List D} : F a = some (.lst vs) → Rps vs ds → Rp (.ref a) (.lst ds)
  | scr {a : Addr} {vs : List V} {ds : List D} : SqL K F a vs → Rps vs ds → Rp (.ref a) (.scr ds)
  | dK {a : Addr} {kvs : List (Key × V)} {kds : List (Key × D)} : F a = some (.dK kvs) → RpK kvs kds → Rp (.ref a) (.dK kds)
  | dT {a : Addr} {kvs : List (List Key × V)} {kds : List (List Key × D)} : F a = some (.dT kvs) → RpT kvs kds → Rp (.ref a) (.dT kds)
  | obj {a dx : Addr} {C : Str} {fv : List (Str × V)} {fs : List (Str × D)} : F a = some (.ins (He.ga K C) dx fv) → RpF fv fs → Rp (.ref a) (.obj C fs)
  | ptr {k : Nat} {a : Addr} : ι[k]? = some a → Rp (.ref a) (.ptr k)
inductive Rps : List V → List D → Prop
  | nil : Rps [] []
  | cons {v : V} {vs : List V} {d : D} {ds : List D} : Rp v d → Rps vs ds → Rps (v :: vs) (d :: ds)
inductive RpK : List (Key × V) → List (Key × D) → Prop
  | nil : RpK [] []
  | cons {k : Key} {v : V} {vs : List (Key × V)} {d : D} {ds : List (Key × D)} : Rp v d → RpK vs ds → RpK ((k, v) :: vs) ((k, d) :: ds)
inductive RpT : List (List Key × V) → List (List Key × D) → Prop
  | nil : RpT [] []
  | cons {k : List Key} {v : V} {vs : List (List Key × V)} {d : D} {ds : List (List Key × D)} : Rp v d → RpT vs ds → RpT ((k, v) :: vs) ((k, d) :: ds)
inductive RpF : List (Str × V) → List (Str × D) → Prop
  | nil : RpF [] []
  | cons {k : Str} {v : V} {vs : List (Str × V)} {d : D} {ds : List (Str × D)} : Rp v d → RpF vs ds → RpF ((k, v) :: vs) ((k, d) :: ds)
end
end
section
variable {K : PySem.W.Frag} {F F' : Hp} {ι ι' : List Addr}
theorem sqT_mono {a : Addr} {vs : List V} (h : Same F F') (x : SqT K F a vs) : SqT K F' a vs := by
  rcases x with (x | ⟨o, x⟩) | x
  · exact .inl (.inl (h _ _ x))
  · exact .inl (.inr ⟨o, h _ _ x⟩)
  · exact .inr x
theorem sqL_mono {a : Addr} {vs : List V} (h : Same F F') (x : SqL K F a vs) : SqL K F' a vs := h.seq x
def Grow (ι ι' : List Addr) : Prop := ∀ (k : Nat) (a : Addr), ι[k]? = some a → ι'[k]? = some a
theorem Grow.refl (ι : List Addr) : Grow ι ι := fun _ _ h => h
theorem Grow.trans {ι₁ ι₂ ι₃ : List Addr} (a : Grow ι₁ ι₂) (b : Grow ι₂ ι₃) : Grow ι₁ ι₃ := fun k x h => b k x (a k x h)
theorem Grow.app (ι κ : List Addr) : Grow ι (ι ++ κ) := fun k a h => by
  rw [List.getElem?_append_left (List.getElem?_eq_some_iff.mp h).1]; exact h
theorem Grow.mem {a : Addr} (g : Grow ι ι') (h : a ∈ ι) : a ∈ ι' := by
  obtain ⟨k, e⟩ := List.mem_iff_getElem?.mp h
  exact List.mem_iff_getElem?.mpr ⟨k, g k a e⟩
mutual
theorem Rp.mono (h : Same F F') (g : Grow ι ι') : ∀ {v : V} {d : D}, Rp K F ι v d → Rp K F' ι' v d
  | _, _, .non => .non
  | _, _, .bl b => .bl b
  | _, _, .int i => .int i
  | _, _, .str x => .str x
  | _, _, .ty n => .ty n
  | _, _, .tup s r => .tup (sqT_mono h s) (Rps.mono h g r)
  | _, _, .lst s r => .lst (h _ _ s) (Rps.mono h g r)
  | _, _, .scr s r => .scr (sqL_mono h s) (Rps.mono h g r)
  | _, _, .dK s r => .dK (h _ _ s) (RpK.mono h g r)
  | _, _, .dT s r => .dT (h _ _ s) (RpT.mono h g r)
  | _, _, .obj s r => .obj (h _ _ s) (RpF.mono h g r)
  | _, _, .ptr e => .ptr (g _ _ e)
theorem Rps.mono (h : Same F F') (g : Grow ι ι') : ∀ {v : List V} {d : List D}, Rps K F ι v d → Rps K F' ι' v d
  | _, _, .nil => .nil
  | _, _, .cons r t => .cons (Rp.mono h g r) (Rps.mono h g t)
theorem RpK.mono (h : Same F F') (g : Grow ι ι') : ∀ {v : List (Key × V)} {d : List (Key × D)}, RpK K F ι v d → RpK K F' ι' v d
  | _, _, .nil => .nil
  | _, _, .cons r t => .cons (Rp.mono h g r) (RpK.mono h g t)
theorem RpT.mono (h : Same F F') (g : Grow ι ι') : ∀ {v : List (List Key × V)} {d : List (List Key × D)}, RpT K F ι v d → RpT K F' ι' v d
  | _, _, .nil => .nil
  | _, _, .cons r t => .cons (Rp.mono h g r) (RpT.mono h g t)
theorem RpF.mono (h : Same F F') (g : Grow ι ι') : ∀ {v : List (Str × V)} {d : List (Str × D)}, RpF K F ι v d → RpF K F' ι' v d
  | _, _, .nil => .nil
  | _, _, .cons r t => .cons (Rp.mono h g r) (RpF.mono h g t)
end
theorem Rps.length : ∀ {vs : List V} {ds : List D}, Rps K F ι vs ds → vs.length = ds.length
  | _, _, .nil => rfl
  | _, _, .cons _ t => congrArg (· + 1) t.length
theorem Rps.get : ∀ {vs : List V} {ds : List D} {i : Nat} {d : D}, Rps K F ι vs ds → ds[i]? = some d → ∃ v, vs[i]? = some v ∧ Rp K F ι v d
  | _, _, _, _, .nil, e => by simp at e
  | _, _, 0, _, .cons r _, e => by simp at e; subst e; exact ⟨_, rfl, r⟩
  | _, _, i + 1, d, .cons _ t, e => by
    obtain ⟨v, h1, h2⟩ := Rps.get (i := i) (d := d) t (by simpa using e)
    exact ⟨v, by simpa using h1, h2⟩
theorem Rps.get' : ∀ {vs : List V} {ds : List D} {i : Nat} {v : V}, Rps K F ι vs ds → vs[i]? = some v → ∃ d, ds[i]? = some d ∧ Rp K F ι v d
  | _, _, _, _, .nil, e => by simp at e
  | _, _, 0, _, .cons r _, e => by simp at e; subst e; exact ⟨_, rfl, r⟩
  | _, _, i + 1, d, .cons _ t, e => by
    obtain ⟨v, h1, h2⟩ := Rps.get' (i := i) (v := d) t (by simpa using e)
    exact ⟨v, by simpa using h1, h2⟩
theorem Rps.app : ∀ {vs ws : List V} {ds es : List D}, Rps K F ι vs ds → Rps K F ι ws es → Rps K F ι (vs ++ ws) (ds ++ es)
  | _, _, _, _, .nil, q => q
  | _, _, _, _, .cons r t, q => .cons r (t.app q)
theorem Rps.one {v : V} {d : D} (h : Rp K F ι v d) : Rps K F ι [v] [d] := .cons h .nil
theorem Rps.set {v : V} {d : D} (h : Rp K F ι v d) : ∀ {vs : List V} {ds : List D} (i : Nat), Rps K F ι vs ds → Rps K F ι (vs.set i v) (ds.set i d)
  | _, _, _, .nil => .nil
  | _, _, 0, .cons _ t => .cons h t
  | _, _, i + 1, .cons r t => .cons r (Rps.set h i t)
theorem Rps.take : ∀ {vs : List V} {ds : List D} (n : Nat), Rps K F ι vs ds → Rps K F ι (vs.take n) (ds.take n)
  | _, _, 0, _ => .nil
  | _, _, _ + 1, .nil => .nil
  | _, _, n + 1, .cons r t => .cons r (Rps.take n t)
theorem Rps.drop : ∀ {vs : List V} {ds : List D} (n : Nat), Rps K F ι vs ds → Rps K F ι (vs.drop n) (ds.drop n)
  | _, _, 0, r => r
  | _, _, _ + 1, .nil => .nil
  | _, _, n + 1, .cons _ t => Rps.drop n t
theorem Rps.ints : ∀ {vs : List V} {ns : List Int}, Rps K F ι vs (ns.map D.int) → vs = ns.map V.int
  | _, [], h => by cases h; rfl
  | _, n :: ns, h => by
    cases h with
    | cons r t => cases r; rw [Rps.ints t]; rfl
theorem Rps.of_ints : ∀ (ns : List Int), Rps K F ι (ns.map V.int) (ns.map D.int)
  | [] => .nil
  | n :: ns => .cons (.int n) (Rps.of_ints ns)
theorem Rps.strs : ∀ {vs : List V} {ns : List Str}, Rps K F ι vs (ns.map D.str) → vs = ns.map V.str
  | _, [], h => by cases h; rfl
  | _, n :: ns, h => by
    cases h with
    | cons r t => cases r; rw [Rps.strs t]; rfl
theorem Rps.of_strs : ∀ (ns : List Str), Rps K F ι (ns.map V.str) (ns.map D.str)
  | [] => .nil
  | n :: ns => .cons (.str n) (Rps.of_strs ns)
theorem Rps.bls : ∀ {vs : List V} {ns : List Bool}, Rps K F ι vs (ns.map D.bl) → vs = ns.map V.bl
  | _, [], h => by cases h; rfl
  | _, n :: ns, h => by
    cases h with
    | cons r t => cases r; rw [Rps.bls t]; rfl
end

/-! ### pointer-free data -/
mutual
def D.pf : D → Bool
  | .tup xs => pfs xs
  | .lst xs => pfs xs
  | .scr xs => pfs xs
  | .dK kvs => pfK kvs
  | .dT kvs => pfT kvs
  | .obj _ fs => pfF fs
  | .ptr _ => false
  | _ => true
def pfs : List D → Bool
  | [] => true
  | d :: ds => d.pf && pfs ds
def pfK : List (Key × D) → Bool
  | [] => true
  | (_, d) :: ds => d.pf && pfK ds
def pfT : List (List Key × D) → Bool
  | [] => true
  | (_, d) :: ds => d.pf && pfT ds
def pfF : List (Str × D) → Bool
  | [] => true
  | (_, d) :: ds => d.pf && pfF ds
end
theorem and_t {a b : Bool} (h : (a && b) = true) : a = true ∧ b = true := by
  cases a <;> cases b <;> simp_all
section
variable {K : PySem.W.Frag} {F : Hp} {ι κ : List Addr}
mutual
theorem Rp.free (κ : List Addr) : ∀ {v : V} {d : D}, Rp K F ι v d → d.pf = true → Rp K F κ v d
  | _, _, .non, _ => .non
  | _, _, .bl b, _ => .bl b
  | _, _, .int i, _ => .int i
  | _, _, .str x, _ => .str x
  | _, _, .ty n, _ => .ty n
  | _, _, .tup s r, h => .tup s (Rps.free κ r (by rw [D.pf] at h; exact h))
  | _, _, .lst s r, h => .lst s (Rps.free κ r (by rw [D.pf] at h; exact h))
  | _, _, .scr s r, h => .scr s (Rps.free κ r (by rw [D.pf] at h; exact h))
  | _, _, .dK s r, h => .dK s (RpK.free κ r (by rw [D.pf] at h; exact h))
  | _, _, .dT s r, h => .dT s (RpT.free κ r (by rw [D.pf] at h; exact h))
  | _, _, .obj s r, h => .obj s (RpF.free κ r (by rw [D.pf] at h; exact h))
  | _, _, .ptr e, h => by rw [D.pf] at h; cases h
theorem Rps.free (κ : List Addr) : ∀ {v : List V} {d : List D}, Rps K F ι v d → pfs d = true → Rps K F κ v d
  | _, _, .nil, _ => .nil
  | _, _, .cons r t, h => by rw [pfs] at h; exact .cons (Rp.free κ r (and_t h).1) (Rps.free κ t (and_t h).2)
theorem RpK.free (κ : List Addr) : ∀ {v : List (Key × V)} {d : List (Key × D)}, RpK K F ι v d → pfK d = true → RpK K F κ v d
  | _, _, .nil, _ => .nil
  | _, _, .cons r t, h => by rw [pfK] at h; exact .cons (Rp.free κ r (and_t h).1) (RpK.free κ t (and_t h).2)
theorem RpT.free (κ : List Addr) : ∀ {v : List (List Key × V)} {d : List (List Key × D)}, RpT K F ι v d → pfT d = true → RpT K F κ v d
  | _, _, .nil, _ => .nil
  | _, _, .cons r t, h => by rw [pfT] at h; exact .cons (Rp.free κ r (and_t h).1) (RpT.free κ t (and_t h).2)
theorem RpF.free (κ : List Addr) : ∀ {v : List (Str × V)} {d : List (Str × D)}, RpF K F ι v d → pfF d = true → RpF K F κ v d
  | _, _, .nil, _ => .nil
  | _, _, .cons r t, h => by rw [pfF] at h; exact .cons (Rp.free κ r (and_t h).1) (RpF.free κ t (and_t h).2)
end
end

/-! ### a state's relation; what a run may change -/
/-- from one moment to a later one -/
structure Ext (F H : Hp) (ι : List Addr) (F' H' : Hp) (ι' : List Addr) : Prop where
  sub : Same F F'
  grow : Grow ι ι'
  kp : ∀ b o, H b = some o → b ∉ ι → H' b = some o
  fr : ∀ a o, F' a = some o → F a = none → H a = none ∨ a ∈ ι
  nw : ∀ a, a ∈ ι' → a ∈ ι ∨ H a = none
  al : ∀ a, H' a = none → H a = none
theorem Ext.refl (F H : Hp) (ι : List Addr) : Ext F H ι F H ι :=
  ⟨.refl F, .refl ι, fun _ _ h _ => h, fun _ _ h h' => (by rw [h] at h'; cases h'), fun _ h => .inl h, fun _ h => h⟩
theorem Ext.trans {F1 H1 F2 H2 F3 H3 : Hp} {ι₁ ι₂ ι₃ : List Addr} (a : Ext F1 H1 ι₁ F2 H2 ι₂) (b : Ext F2 H2 ι₂ F3 H3 ι₃) : Ext F1 H1 ι₁ F3 H3 ι₃ where
  sub := a.sub.trans b.sub
  grow := a.grow.trans b.grow
  kp := fun x o h n => b.kp x o (a.kp x o h n) fun m => by
    rcases a.nw x m with z | z
    · exact n z
    · rw [z] at h; cases h
  fr := fun x o h n => by
    cases q : F2 x with
    | some o2 => exact a.fr x o2 q n
    | none =>
      rcases b.fr x o h q with z | z
      · exact .inl (a.al x z)
      · rcases a.nw x z with y | y
        · exact .inr y
        · exact .inl y
  nw := fun x h => by
    rcases b.nw x h with z | z
    · exact a.nw x z
    · exact .inr (a.al x z)
  al := fun x h => a.al x (b.al x h)
section
variable (K : PySem.W.Frag)
def CellOk (F H : Hp) (ι : List Addr) (a : Addr) : Cell → Prop
  | .lst ds => F a = none ∧ ∃ vs, H a = some (.lst vs) ∧ Rps K F ι vs ds
  | .dK kds => F a = none ∧ ∃ kvs, H a = some (.dK kvs) ∧ RpK K F ι kvs kds
  | .dT kds => F a = none ∧ ∃ kvs, H a = some (.dT kvs) ∧ RpT K F ι kvs kds
  | .ins C fs => F a = none ∧ ∃ dx fv, H a = some (.ins (He.ga K C) dx fv) ∧ RpF K F ι fv fs
  | .fwd d => F a ≠ none ∧ Rp K F ι (.ref a) d
structure Rel (F H : Hp) (ι : List Addr) (s : S) (σ : L2.St) : Prop where
  same : Same F H
  env : ∀ (i : Nat) (d : D), s.ρ[i]? = some (some d) → ∃ v, σ[i]? = some (some v) ∧ Rp K F ι v d
  len : σ.length = s.ρ.length
  ilen : ι.length = s.η.length
  cell : ∀ (k : Nat) (a : Addr) (c : Cell), ι[k]? = some a → s.η[k]? = some c → CellOk K F H ι a c
  inj : ι.Nodup
end
section
variable {K : PySem.W.Frag} {F H F' H' : Hp} {ι ι' : List Addr} {s : S} {σ : L2.St}
theorem nodup_at {α : Type} {l : List α} (h : l.Nodup) {i j : Nat} {a : α} (hi : l[i]? = some a) (hj : l[j]? = some a) : i = j := by
  obtain ⟨h1, e1⟩ := List.getElem?_eq_some_iff.mp hi
  obtain ⟨h2, e2⟩ := List.getElem?_eq_some_iff.mp hj
  exact (List.getElem_inj h).mp (e1.trans e2.symm)
theorem CellOk.there {a : Addr} {c : Cell} (h : CellOk K F H ι a c) (e : Same F H) : H a ≠ none := by
  cases c with
  | lst ds => obtain ⟨_, vs, q, _⟩ := h; rw [q]; exact fun z => nomatch z
  | dK ds => obtain ⟨_, vs, q, _⟩ := h; rw [q]; exact fun z => nomatch z
  | dT ds => obtain ⟨_, vs, q, _⟩ := h; rw [q]; exact fun z => nomatch z
  | ins C fs => obtain ⟨_, dx, fv, q, _⟩ := h; rw [q]; exact fun z => nomatch z
  | fwd d =>
    obtain ⟨q, _⟩ := h
    intro z
    cases r : F a with
    | none => exact q r
    | some o => rw [e a o r] at z; cases z
theorem Rel.here (R : Rel K F H ι s σ) {a : Addr} (h : a ∈ ι) : H a ≠ none := by
  obtain ⟨k, e⟩ := List.mem_iff_getElem?.mp h
  have hk : k < s.η.length := by rw [← R.ilen]; exact (List.getElem?_eq_some_iff.mp e).1
  exact (R.cell k a _ e (List.getElem?_eq_getElem hk)).there R.same
theorem Rel.new (R : Rel K F H ι s σ) {p : Addr} (h : H p = none) : F p = none ∧ p ∉ ι := by
  refine ⟨?_, fun m => R.here m h⟩
  cases q : F p with
  | none => rfl
  | some o => rw [R.same p o q] at h; cases h
/-- a cell stays well where data grows, its own object stands, and it is not made data -/
theorem CellOk.move {a : Addr} {c : Cell} (h : CellOk K F H ι a c) (e : Same F F') (g : Grow ι ι') (hH : H' a = H a) (hF : F a = none → F' a = none) : CellOk K F' H' ι' a c := by
  cases c with
  | lst ds => obtain ⟨n, vs, q, r⟩ := h; exact ⟨hF n, vs, by rw [hH]; exact q, r.mono e g⟩
  | dK ds => obtain ⟨n, vs, q, r⟩ := h; exact ⟨hF n, vs, by rw [hH]; exact q, r.mono e g⟩
  | dT ds => obtain ⟨n, vs, q, r⟩ := h; exact ⟨hF n, vs, by rw [hH]; exact q, r.mono e g⟩
  | ins C fs => obtain ⟨n, dx, fv, q, r⟩ := h; exact ⟨hF n, dx, fv, by rw [hH]; exact q, r.mono e g⟩
  | fwd d =>
    obtain ⟨n, r⟩ := h
    refine ⟨?_, r.mono e g⟩
    cases q : F a with
    | none => exact absurd q n
    | some o => rw [e a o q]; exact fun z => nomatch z
/-- new data at p -/
theorem Rel.allocF (R : Rel K F H ι s σ) {p : Addr} {o : HO} (h : H p = none) : Rel K (upd F p o) (upd H p o) ι s σ ∧ Ext F H ι (upd F p o) (upd H p o) ι := by
  obtain ⟨hF, hp⟩ := R.new h
  have sF : Same F (upd F p o) := fun b u e => by rw [upd_ne (ne_of_none e hF)]; exact e
  refine ⟨⟨fun b u e => ?_, fun i d e => ?_, R.len, R.ilen, fun k a c e1 e2 => ?_, R.inj⟩, ⟨sF, .refl ι, fun b u e _ => ?_, fun a u e n => ?_, fun a m => .inl m, fun a n => ?_⟩⟩
  · by_cases hb : b = p
    · subst hb; rw [upd_same] at e ⊢; exact e
    · rw [upd_ne hb] at e ⊢; exact R.same b u e
  · obtain ⟨v, q, r⟩ := R.env i d e
    exact ⟨v, q, r.mono sF (.refl ι)⟩
  · have ne : a ≠ p := fun z => hp (z ▸ List.mem_of_getElem? e1)
    exact (R.cell k a c e1 e2).move sF (.refl ι) (upd_ne ne) (fun q => by rw [upd_ne ne]; exact q)
  · rw [upd_ne (ne_of_none e h)]; exact e
  · by_cases hb : a = p
    · subst hb; exact .inl h
    · rw [upd_ne hb, n] at e; cases e
  · by_cases hb : a = p
    · subst hb; exact h
    · rw [upd_ne hb] at n; exact n
/-- a new cell -/
theorem Rel.allocM (R : Rel K F H ι s σ) {p : Addr} {o : HO} {c : Cell} (h : H p = none) (hc : CellOk K F (upd H p o) (ι ++ [p]) p c) :
    Rel K F (upd H p o) (ι ++ [p]) ⟨s.ρ, s.η ++ [c]⟩ σ ∧ Ext F H ι F (upd H p o) (ι ++ [p]) := by
  obtain ⟨hF, hp⟩ := R.new h
  have g := Grow.app ι [p]
  refine ⟨⟨fun b u e => ?_, fun i d e => ?_, R.len, by simp [R.ilen], fun k a c' e1 e2 => ?_, ?_⟩, ⟨.refl F, g, fun b u e _ => ?_, fun a u e n => ?_, fun a m => ?_, fun a n => ?_⟩⟩
  · rw [upd_ne (ne_of_none e hF)]; exact R.same b u e
  · obtain ⟨v, q, r⟩ := R.env i d e
    exact ⟨v, q, r.mono (.refl F) g⟩
  · by_cases hk : k < ι.length
    · rw [List.getElem?_append_left hk] at e1
      rw [List.getElem?_append_left (by rw [← R.ilen]; exact hk)] at e2
      have ne : a ≠ p := fun z => hp (z ▸ List.mem_of_getElem? e1)
      exact (R.cell k a c' e1 e2).move (.refl F) g (upd_ne ne) (fun q => q)
    · rw [List.getElem?_append_right (by omega)] at e1
      rw [List.getElem?_append_right (by rw [← R.ilen]; omega), ← R.ilen] at e2
      have hk0 : k - ι.length = 0 := by
        cases q : k - ι.length with
        | zero => rfl
        | succ n => rw [q] at e1; simp at e1
      rw [hk0] at e1 e2
      simp at e1 e2
      subst e1 e2
      exact hc
  · refine List.nodup_append.mpr ⟨R.inj, by simp, fun a ha b hb => ?_⟩
    have : b = p := by simpa using hb
    subst this
    exact fun z => hp (z ▸ ha)
  · rw [upd_ne (ne_of_none e h)]; exact e
  · rw [n] at e; cases e
  · rcases List.mem_append.mp m with m | m
    · exact .inl m
    · have : a = p := by simpa using m
      subst this
      exact .inr h
  · by_cases hb : a = p
    · subst hb; exact h
    · rw [upd_ne hb] at n; exact n
/-- a cell is written -/
theorem Rel.write (R : Rel K F H ι s σ) {k : Nat} {a : Addr} {o : HO} {c' : Cell} (hk : ι[k]? = some a) (hF : F a = none) (hc : CellOk K F (upd H a o) ι a c') :
    Rel K F (upd H a o) ι ⟨s.ρ, s.η.set k c'⟩ σ ∧ Ext F H ι F (upd H a o) ι := by
  refine ⟨⟨fun b u e => ?_, R.env, R.len, by simp [R.ilen], fun j b c2 e1 e2 => ?_, R.inj⟩, ⟨.refl F, .refl ι, fun b u e n => ?_, fun b u e n => ?_, fun b m => .inl m, fun b n => ?_⟩⟩
  · rw [upd_ne (ne_of_none e hF)]; exact R.same b u e
  · by_cases hj : j = k
    · subst hj
      rw [hk] at e1; cases e1
      have hl : j < s.η.length := by rw [← R.ilen]; exact (List.getElem?_eq_some_iff.mp hk).1
      have e3 : (s.η.set j c')[j]? = some c2 := e2
      rw [List.getElem?_set_self hl] at e3
      cases e3
      exact hc
    · have e3 : (s.η.set k c')[j]? = some c2 := e2
      rw [List.getElem?_set_ne (Ne.symm hj)] at e3
      have ne : b ≠ a := fun z => hj (nodup_at R.inj e1 (z ▸ hk))
      exact (R.cell j b c2 e1 e3).move (.refl F) (.refl ι) (upd_ne ne) (fun q => q)
  · rw [upd_ne (show b ≠ a from fun z => n (by rw [z]; exact List.mem_of_getElem? hk))]; exact e
  · rw [n] at e; cases e
  · by_cases hb : b = a
    · subst hb; rw [upd_same] at n; cases n
    · rw [upd_ne hb] at n; exact n
/-- a cell is made data -/
theorem Rel.freeze (R : Rel K F H ι s σ) {k : Nat} {a : Addr} {o : HO} {d : D} (hk : ι[k]? = some a) (hH : H a = some o) (hF : F a = none) (hd : Rp K (upd F a o) ι (.ref a) d) :
    Rel K (upd F a o) H ι ⟨s.ρ, s.η.set k (.fwd d)⟩ σ ∧ Ext F H ι (upd F a o) H ι := by
  have sF : Same F (upd F a o) := fun b u e => by rw [upd_ne (ne_of_none e hF)]; exact e
  refine ⟨⟨fun b u e => ?_, fun i d e => ?_, R.len, by simp [R.ilen], fun j b c2 e1 e2 => ?_, R.inj⟩, ⟨sF, .refl ι, fun b u e n => e, fun b u e n => ?_, fun b m => .inl m, fun b n => n⟩⟩
  · by_cases hb : b = a
    · subst hb; rw [upd_same] at e; rw [hH]; exact e
    · rw [upd_ne hb] at e; exact R.same b u e
  · obtain ⟨v, q, r⟩ := R.env i d e
    exact ⟨v, q, r.mono sF (.refl ι)⟩
  · by_cases hj : j = k
    · subst hj
      rw [hk] at e1; cases e1
      have hl : j < s.η.length := by rw [← R.ilen]; exact (List.getElem?_eq_some_iff.mp hk).1
      have e3 : (s.η.set j (.fwd d))[j]? = some c2 := e2
      rw [List.getElem?_set_self hl] at e3
      cases e3
      exact ⟨by rw [upd_same]; exact (fun z => nomatch z), hd⟩
    · have e3 : (s.η.set k (.fwd d))[j]? = some c2 := e2
      rw [List.getElem?_set_ne (Ne.symm hj)] at e3
      have ne : b ≠ a := fun z => hj (nodup_at R.inj e1 (z ▸ hk))
      exact (R.cell j b c2 e1 e3).move sF (.refl ι) rfl (fun q => by rw [upd_ne ne]; exact q)
  · by_cases hb : b = a
    · subst hb; exact .inr (List.mem_of_getElem? hk)
    · rw [upd_ne hb, n] at e; cases e
/-- a name is stored -/
theorem Rel.put (R : Rel K F H ι s σ) {v : V} {d : D} (i : Nat) (r : Rp K F ι v d) : Rel K F H ι ⟨s.ρ.set i (some d), s.η⟩ (σ.set i (some v)) := by
  refine ⟨R.same, fun j e q => ?_, by simp [R.len], R.ilen, R.cell, R.inj⟩
  have q2 : (s.ρ.set i (some d))[j]? = some (some e) := q
  by_cases hj : j = i
  · subst hj
    have hl : j < s.ρ.length := by
      have h2 := (List.getElem?_eq_some_iff.mp q2).1
      simpa using h2
    rw [List.getElem?_set_self hl] at q2
    cases q2
    exact ⟨v, by rw [List.getElem?_set_self (by rw [R.len]; exact hl)], r⟩
  · rw [List.getElem?_set_ne (Ne.symm hj)] at q2
    obtain ⟨w, e1, e2⟩ := R.env j e q2
    exact ⟨w, by rw [List.getElem?_set_ne (Ne.symm hj)]; exact e1, e2⟩
/-- behind a call that left all that was tracked as it was -/
theorem Rel.after (R : Rel K F H ι s σ) (sF : Same F F') (sH : Same H H') (sm : Same F' H') (fr : ∀ a o, F' a = some o → F a = none → H a = none) : Rel K F' H' ι s σ ∧ (∀ _ : (∀ a, H' a = none → H a = none), Ext F H ι F' H' ι) := by
  refine ⟨⟨sm, fun i d e => ?_, R.len, R.ilen, fun k a c e1 e2 => ?_, R.inj⟩, fun al => ⟨sF, .refl ι, fun b o e _ => sH b o e, fun a o e n => .inl (fr a o e n), fun a m => .inl m, al⟩⟩
  · obtain ⟨v, q, r⟩ := R.env i d e
    exact ⟨v, q, r.mono sF (.refl ι)⟩
  · have th := R.here (List.mem_of_getElem? e1)
    refine (R.cell k a c e1 e2).move sF (.refl ι) ?_ (fun n => ?_)
    · cases q : H a with
      | none => exact absurd q th
      | some o => exact sH a o q
    · cases q : F' a with
      | none => rfl
      | some o => exact absurd (fr a o q n) th
end
end VL

set_option Elab.async false
set_option linter.all false
set_option maxRecDepth 20000
/-! Judgements of the value layer, and the plain constructs. -/
namespace VL
open PySem PyProof.Rows PySem.Spec L2
noncomputable section

inductive Res (α : Type) where
  | ok (a : α) (s : S) | exc (C : Str) (fs : List (Str × D)) (s : S) | bad
inductive SR where
  | nx (s : S) | rt (d : D) (s : S) | bk (s : S) | ct (s : S) | exc (C : Str) (fs : List (Str × D)) (s : S) | bad
abbrev VE := S → Res D
abbrev VB := S → Res Bool
abbrev VA := S → Res (List D)
abbrev VS := S → SR
def Res.bind {α β : Type} (r : Res α) (k : α → S → Res β) : Res β := match r with
  | .ok a s => k a s
  | .exc C fs s => .exc C fs s
  | .bad => .bad
def Res.bindS {α : Type} (r : Res α) (k : α → S → SR) : SR := match r with
  | .ok a s => k a s
  | .exc C fs s => .exc C fs s
  | .bad => .bad
@[simp] theorem bind_ok {α β : Type} (a : α) (s : S) (k : α → S → Res β) : Res.bind (.ok a s) k = k a s := rfl
@[simp] theorem bind_exc {α β : Type} (C : Str) (fs : List (Str × D)) (s : S) (k : α → S → Res β) : Res.bind (.exc C fs s) k = .exc C fs s := rfl
@[simp] theorem bind_bad {α β : Type} (k : α → S → Res β) : Res.bind .bad k = .bad := rfl
@[simp] theorem bindS_ok {α : Type} (a : α) (s : S) (k : α → S → SR) : Res.bindS (.ok a s) k = k a s := rfl
@[simp] theorem bindS_exc {α : Type} (C : Str) (fs : List (Str × D)) (s : S) (k : α → S → SR) : Res.bindS (.exc C fs s) k = .exc C fs s := rfl
@[simp] theorem bindS_bad {α : Type} (k : α → S → SR) : Res.bindS .bad k = .bad := rfl

section
variable (K : PySem.W.Frag) (W : WX)
def ExcAt (F H : Hp) (ι : List Addr) (C : Str) (fs : List (Str × D)) (cls : Value) (dx : Option Addr) : Prop :=
  cls = .ref (He.ga K C) ∧ ((fs = [] ∧ dx = none) ∨ (fs ≠ [] ∧ ∃ a fv, dx = some a ∧ H a = some (.xd fv) ∧ RpF K F ι fv fs))
/-- what is wanted behind: R tells how the answer lies -/
def Post {α β : Type} (R : Hp → List Addr → β → α → Prop) (F H : Hp) (ι : List Addr) (σ : L2.St) (r : Res α) (Q : β → Hp → Prop) : Prop := match r with
  | .ok a s => ∀ F' H' ι' v, Rel K F' H' ι' s σ → Ext F H ι F' H' ι' → R F' ι' v a → Q v H'
  | .exc C fs s => ∀ F' H' ι' cls dx, Rel K F' H' ι' s σ → Ext F H ι F' H' ι' → ExcAt K F' H' ι' C fs cls dx → W cls dx σ H'
  | .bad => False
abbrev PostE := Post K W (fun F ι (v : V) (d : D) => Rp K F ι v d)
abbrev PostB := Post K W (fun _ _ (v : Bool) (d : Bool) => v = d)
abbrev PostA := Post K W (fun F ι (v : List V) (d : List D) => Rps K F ι v d)
def PostS (F H : Hp) (ι : List Addr) (r : SR) (Dn : Ends) : Prop := match r with
  | .nx s => ∀ F' H' ι' σ', Rel K F' H' ι' s σ' → Ext F H ι F' H' ι' → Dn.nx σ' H'
  | .bk s => ∀ F' H' ι' σ', Rel K F' H' ι' s σ' → Ext F H ι F' H' ι' → Dn.bk σ' H'
  | .ct s => ∀ F' H' ι' σ', Rel K F' H' ι' s σ' → Ext F H ι F' H' ι' → Dn.ct σ' H'
  | .rt d s => ∀ F' H' ι' σ' v, Rel K F' H' ι' s σ' → Ext F H ι F' H' ι' → Rp K F' ι' v d → Dn.rt v H'
  | .exc C fs s => ∀ F' H' ι' σ' cls dx, Rel K F' H' ι' s σ' → Ext F H ι F' H' ι' → ExcAt K F' H' ι' C fs cls dx → W cls dx σ' H'
  | .bad => False
def tG {α β : Type} (R : Hp → List Addr → β → α → Prop) (f : S → Res α) : L2.St → Hp → (β → Hp → Prop) → Prop := fun σ H Q =>
  ∃ F ι s, Rel K F H ι s σ ∧ Post K W R F H ι σ (f s) Q
abbrev tE (f : VE) : TE := tG K W (fun F ι (v : V) (d : D) => Rp K F ι v d) f
abbrev tT (f : VB) : TT := tG K W (fun _ _ (v : Bool) (d : Bool) => v = d) f
abbrev tA (f : VA) : TA := tG K W (fun F ι (v : List V) (d : List D) => Rps K F ι v d) f
def tS (f : VS) : TS := fun Dn σ H => ∃ F ι s, Rel K F H ι s σ ∧ PostS K W F H ι (f s) Dn
end
section
variable {K : PySem.W.Frag} {W : WX} {F H F1 H1 : Hp} {ι ι₁ : List Addr} {σ : L2.St}
theorem Post.ref {α β : Type} {R : Hp → List Addr → β → α → Prop} {r : Res α} {Q : β → Hp → Prop} (h : Post K W R F H ι σ r Q) (e : Ext F H ι F1 H1 ι₁) : Post K W R F1 H1 ι₁ σ r Q := by
  cases r with
  | ok a s => exact fun F' H' ι' v r x q => h F' H' ι' v r (e.trans x) q
  | exc C fs s => exact fun F' H' ι' cls dx r x q => h F' H' ι' cls dx r (e.trans x) q
  | bad => exact h
theorem PostS.ref {r : SR} {Dn : Ends} (h : PostS K W F H ι r Dn) (e : Ext F H ι F1 H1 ι₁) : PostS K W F1 H1 ι₁ r Dn := by
  cases r with
  | nx s => exact fun F' H' ι' σ' r x => h F' H' ι' σ' r (e.trans x)
  | bk s => exact fun F' H' ι' σ' r x => h F' H' ι' σ' r (e.trans x)
  | ct s => exact fun F' H' ι' σ' r x => h F' H' ι' σ' r (e.trans x)
  | rt d s => exact fun F' H' ι' σ' v r x q => h F' H' ι' σ' v r (e.trans x) q
  | exc C fs s => exact fun F' H' ι' σ' cls dx r x q => h F' H' ι' σ' cls dx r (e.trans x) q
  | bad => exact h
/-- the end of an expression -/
theorem Post.fin {α β : Type} {R : Hp → List Addr → β → α → Prop} {a : α} {s : S} {v : β} {Q : β → Hp → Prop} (h : Post K W R F H ι σ (.ok a s) Q) (r : Rel K F H ι s σ) (q : R F ι v a) : Q v H := h F H ι v r (.refl _ _ _) q
theorem Post.fin' {α β : Type} {R : Hp → List Addr → β → α → Prop} {a : α} {s : S} {v : β} {Q : β → Hp → Prop} (h : Post K W R F H ι σ (.ok a s) Q) (r : Rel K F1 H1 ι₁ s σ) (e : Ext F H ι F1 H1 ι₁) (q : R F1 ι₁ v a) : Q v H1 := h F1 H1 ι₁ v r e q
theorem Post.bind {α β γ δ : Type} {R : Hp → List Addr → β → α → Prop} {R' : Hp → List Addr → δ → γ → Prop} {f : Res α} {k : α → S → Res γ} {Q' : β → Hp → Prop} {Q : δ → Hp → Prop} (h : Post K W R' F H ι σ (f.bind k) Q)
    (hq : ∀ F1 H1 ι₁ s1 v a, Rel K F1 H1 ι₁ s1 σ → Ext F H ι F1 H1 ι₁ → R F1 ι₁ v a → Post K W R' F1 H1 ι₁ σ (k a s1) Q → Q' v H1) : Post K W R F H ι σ f Q' := by
  cases f with
  | ok a s1 => exact fun F' H' ι' v r' x q => hq F' H' ι' s1 v a r' x q (Post.ref h x)
  | exc C fs s1 => exact h
  | bad => exact h
theorem Post.bindS {α β : Type} {R : Hp → List Addr → β → α → Prop} {f : Res α} {k : α → S → SR} {Q' : β → Hp → Prop} {Dn : Ends} (h : PostS K W F H ι (f.bindS k) Dn)
    (hq : ∀ F1 H1 ι₁ s1 v a, Rel K F1 H1 ι₁ s1 σ → Ext F H ι F1 H1 ι₁ → R F1 ι₁ v a → PostS K W F1 H1 ι₁ (k a s1) Dn → Q' v H1) : Post K W R F H ι σ f Q' := by
  cases f with
  | ok a s1 => exact fun F' H' ι' v r' x q => hq F' H' ι' s1 v a r' x q (PostS.ref h x)
  | exc C fs s1 => exact fun F' H' ι' cls dx r x q => h F' H' ι' σ cls dx r x q
  | bad => exact h
/-- a first part is run -/
theorem Post.run {α β γ δ : Type} {R : Hp → List Addr → β → α → Prop} {R' : Hp → List Addr → δ → γ → Prop} {f : S → Res α} {k : α → S → Res γ} {s : S} {Q' : β → Hp → Prop} {Q : δ → Hp → Prop} (r : Rel K F H ι s σ) (h : Post K W R' F H ι σ ((f s).bind k) Q)
    (hq : ∀ F1 H1 ι₁ s1 v a, Rel K F1 H1 ι₁ s1 σ → Ext F H ι F1 H1 ι₁ → R F1 ι₁ v a → Post K W R' F1 H1 ι₁ σ (k a s1) Q → Q' v H1) : tG K W R f σ H Q' := ⟨F, ι, s, r, h.bind hq⟩
/-- .. of a statement -/
theorem PostS.run {α β : Type} {R : Hp → List Addr → β → α → Prop} {f : S → Res α} {k : α → S → SR} {s : S} {Q' : β → Hp → Prop} {Dn : Ends} (r : Rel K F H ι s σ) (h : PostS K W F H ι ((f s).bindS k) Dn)
    (hq : ∀ F1 H1 ι₁ s1 v a, Rel K F1 H1 ι₁ s1 σ → Ext F H ι F1 H1 ι₁ → R F1 ι₁ v a → PostS K W F1 H1 ι₁ (k a s1) Dn → Q' v H1) : tG K W R f σ H Q' := ⟨F, ι, s, r, Post.bindS h hq⟩
end

/-! ### the judgements -/
section
variable {X : Cx}
theorem imE {e : Expr} {t t' : TE} (h : PE X e t) (i : ∀ σ H Q, t' σ H Q → t σ H Q) : PE X e t' := ⟨fun pins s σ H Q I q => h.run pins s σ H Q I (i σ H Q q)⟩
theorem imT {e : Expr} {t t' : TT} (h : PT X e t) (i : ∀ σ H Q, t' σ H Q → t σ H Q) : PT X e t' := ⟨fun pins s σ H Q I q => h.run pins s σ H Q I (i σ H Q q)⟩
theorem imW {e : Expr} {t t' : TT} (h : PW X e t) (i : ∀ σ H Q, t' σ H Q → t σ H Q) : PW X e t' := ⟨fun wh pins s σ H Q I q => h.run wh pins s σ H Q I (i σ H Q q)⟩
theorem imA {e : List Expr} {t t' : TA} (h : PA X e t) (i : ∀ σ H Q, t' σ H Q → t σ H Q) : PA X e t' := ⟨fun pos pins s σ H Q I q => h.run pos pins s σ H Q I (i σ H Q q)⟩
theorem imS {e : Stmt} {t t' : TS} (h : PS X e t) (i : ∀ D σ H, t' D σ H → t D σ H) : PS X e t' := ⟨fun pins s σ H D I q => h.run pins s σ H D I (i D σ H q)⟩
theorem imB {e : List Stmt} {t t' : TS} (h : PSs X e t) (i : ∀ D σ H, t' D σ H → t D σ H) : PSs X e t' := ⟨fun pins s σ H D I q => h.run pins s σ H D I (i D σ H q)⟩
end
abbrev E' (X : Cx) (W : WX) (e : Expr) (f : VE) : Prop := PE X e (tE X.K W f)
abbrev T' (X : Cx) (W : WX) (e : Expr) (f : VB) : Prop := PT X e (tT X.K W f)
abbrev W' (X : Cx) (W : WX) (e : Expr) (f : VB) : Prop := PW X e (tT X.K W f)
abbrev A' (X : Cx) (W : WX) (e : List Expr) (f : VA) : Prop := PA X e (tA X.K W f)
abbrev S' (X : Cx) (W : WX) (e : Stmt) (f : VS) : Prop := PS X e (tS X.K W f)
abbrev B' (X : Cx) (W : WX) (e : List Stmt) (f : VS) : Prop := PSs X e (tS X.K W f)

/-! ### names, constants -/
def S.put (s : S) (i : Nat) (d : D) : S := ⟨s.ρ.set i (some d), s.η⟩
def eVar (i : Nat) (s : S) : Res D := match s.ρ[i]? with
  | some (some d) => .ok d s
  | _ => .bad
def eC (d : D) (s : S) : Res D := .ok d s
section
variable {X : Cx} {W : WX} {pos : Pos}
theorem v_var (i : Nat) {x : Str} (hN : X.N[i]? = some x := by rfl) (hv : Vis X.env.scope x := by first | exact Or.inl rfl | exact Or.inr (Or.inl rfl) | exact Or.inr (Or.inr rfl)) (h1 : (x == ("__debug__" : Str)) = false := by decide)
    (h2 : (x == ("__classdict__" : Str)) = false := by decide) : E' X W (.Name x pos) (eVar i) := by
  refine imE (pe_var hN hv h1 h2) fun σ H Q h => ?_
  obtain ⟨F, ι, s, r, h⟩ := h
  unfold eVar at h
  split at h
  · rename_i d e
    obtain ⟨v, e1, e2⟩ := r.env i d e
    exact ⟨v, e1, h.fin r e2⟩
  · exact h.elim
theorem v_const {e : Expr} {v : V} {d : D} (h : PE X e (tC v)) (hr : ∀ F ι, Rp X.K F ι v d) : E' X W e (eC d) := by
  refine imE h fun σ H Q h => ?_
  obtain ⟨F, ι, s, r, h⟩ := h
  exact Post.fin h r (hr F ι)
theorem v_int {i : Int} {j} : E' X W (.Constant (.int i) j pos) (eC (.int i)) := v_const pe_int fun _ _ => .int i
theorem v_bl {b j} : E' X W (.Constant (.bool b) j pos) (eC (.bl b)) := v_const pe_bl fun _ _ => .bl b
theorem v_non {j} : E' X W (.Constant .none j pos) (eC .non) := v_const pe_non fun _ _ => .non
theorem v_str {x j} : E' X W (.Constant (.str x) j pos) (eC (.str x)) := v_const pe_str fun _ _ => .str x
theorem v_glob {x : Str} {v : V} {u : Value} {d : D} (hg : Gl X x) (hm : X.mg x = some u) (r : RelV v u) (hr : ∀ F ι, Rp X.K F ι v d) (h1 : (x == ("__debug__" : Str)) = false := by decide) : E' X W (.Name x pos) (eC d) := v_const (pe_glob hg hm r h1) hr
end

/-! ### operators -/
def e2 (k : D → D → S → Res D) (f g : VE) (s : S) : Res D := (f s).bind fun a s => (g s).bind fun b s => k a b s
/-- what a rule by values gives for data -/
def Op2 (X : Cx) (W : WX) (r : R2) (k : D → D → S → Res D) : Prop := ∀ F H ι σ s v w a b Q, Rel X.K F H ι s σ → Rp X.K F ι v a → Rp X.K F ι w b → PostE X.K W F H ι σ (k a b s) Q → r v w H Q
theorem two_run {K : PySem.W.Frag} {W : WX} {f g : VE} {k : D → D → S → Res D} {r : R2} {σ : L2.St} {H : Hp} {Q : VK}
    (h : tE K W (e2 k f g) σ H Q) (hr : ∀ F H ι s v w a b, Rel K F H ι s σ → Rp K F ι v a → Rp K F ι w b → PostE K W F H ι σ (k a b s) Q → r v w H Q) : tOp r (tE K W f) (tE K W g) σ H Q := by
  obtain ⟨F, ι, s, R, h⟩ := h
  refine Post.run R h fun F1 H1 ι₁ s1 v a R1 x1 q1 h1 => ?_
  refine Post.run R1 h1 fun F2 H2 ι₂ s2 w b R2 x2 q2 h2 => ?_
  exact hr F2 H2 ι₂ s2 v w a b R2 (q1.mono x2.sub x2.grow) q2 h2
section
variable {X : Cx} {W : WX} {pos : Pos} {a b c : Expr} {f g h : VE}
theorem v_op {op : Operator} {r : R2} {k : D → D → S → Res D} (ho : OpR X (binaryOp op) r) (hk : Op2 X W r k) (ha : E' X W a f) (hb : E' X W b g) : E' X W (.BinOp a op b pos) (e2 k f g) :=
  imE (pe_op ho ha hb) fun σ H Q h => two_run h fun F H ι s v w a b R p q z => hk F H ι σ s v w a b Q R p q z
theorem v_cmp {op : CmpOp} {r : R2} {k : D → D → S → Res D} (ho : OpR X (compareOp op) r) (hk : Op2 X W r k) (ha : E' X W a f) (hb : E' X W b g) (hm : behindInMarks op b = false) : E' X W (.Compare a [op] [b] pos) (e2 k f g) :=
  imE (pe_cmpR ho ha hb hm) fun σ H Q h => two_run h fun F H ι s v w a b R p q z => hk F H ι σ s v w a b Q R p q z
/-- a value that is a bool, as a test -/
def bOf (f : VE) (s : S) : Res Bool := (f s).bind fun d s => match d with
  | .bl b => .ok b s
  | _ => .bad
theorem bOf_run {K : PySem.W.Frag} {σ : L2.St} {H : Hp} {Q : Bool → Hp → Prop} (h : tT K W (bOf f) σ H Q) : tE K W f σ H fun v H' => ∃ b, v = .bl b ∧ Q b H' := by
  obtain ⟨F, ι, s, R, h⟩ := h
  refine Post.run R h fun F1 H1 ι₁ s1 v d R1 x1 q1 h1 => ?_
  cases q1 <;> first | exact ⟨_, rfl, Post.fin h1 R1 rfl⟩ | exact h1.elim
theorem t_cmp {op : CmpOp} {r : R2} {k : D → D → S → Res D} (ho : OpR X (compareOp op) r) (hk : Op2 X W r k) (ha : E' X W a f) (hb : E' X W b g) (hm : behindInMarks op b = false) : T' X W (.Compare a [op] [b] pos) (bOf (e2 k f g)) := by
  refine imT (pt_cmpR ho ha hb hm) fun σ H Q h => ?_
  exact two_run (bOf_run h) fun F H ι s v w a b R p q z => hk F H ι σ s v w a b _ R p q z
end
/-! ints -/
def kInt (g : Int → Int → D) (a b : D) (s : S) : Res D := match a, b with
  | .int i, .int j => .ok (g i j) s
  | _, _ => .bad
open Classical in
def kIntC (C : Int → Int → Prop) (g : Int → Int → D) (a b : D) (s : S) : Res D := match a, b with
  | .int i, .int j => if C i j then .ok (g i j) s else .bad
  | _, _ => .bad
section
variable {X : Cx} {W : WX}
theorem o_int {g : Int → Int → V} {g' : Int → Int → D} (h : ∀ F ι i j, Rp X.K F ι (g i j) (g' i j)) : Op2 X W (rI0 g) (kInt g') := by
  intro F H ι σ s v w a b Q R p q z
  cases p <;> cases q <;> first | exact ⟨_, _, rfl, rfl, z.fin R (h _ _ _ _)⟩ | exact z.elim
theorem o_intC {C : Int → Int → Prop} {g : Int → Int → V} {g' : Int → Int → D} (h : ∀ F ι i j, Rp X.K F ι (g i j) (g' i j)) : Op2 X W (rI C g) (kIntC C g') := by
  intro F H ι σ s v w a b Q R p q z
  cases p <;> cases q <;> first
    | exact z.elim
    | (unfold kIntC at z
       dsimp only at z
       split at z
       · rename_i hc
         exact ⟨_, _, rfl, rfl, hc, Post.fin z R (h _ _ _ _)⟩
       · exact z.elim)
end
abbrev kAdd := kInt fun i j => .int (i + j)
abbrev kSub := kInt fun i j => .int (i - j)
abbrev kMul := kIntC CMul fun i j => .int (i * j)
abbrev kMod := kIntC (fun _ j => 0 < j) fun i j => .int (i % j)
abbrev kDiv := kIntC CDiv fun i j => .int (i / j)
abbrev kPow := kIntC CPow fun i j => .int (i ^ j.toNat)
abbrev kLt := kInt fun i j => .bl (decide (i < j))
abbrev kLe := kInt fun i j => .bl (decide (i ≤ j))
abbrev kGt := kInt fun i j => .bl (decide (j < i))
abbrev kGe := kInt fun i j => .bl (decide (j ≤ i))
section
variable {X : Cx} {W : WX} {pos : Pos} {a b c : Expr} {f g h : VE}
theorem v_add (ha : E' X W a f) (hb : E' X W b g) : E' X W (.BinOp a .Add b pos) (e2 kAdd f g) := v_op op_add (o_int fun _ _ i j => .int (i + j)) ha hb
theorem v_sub (ha : E' X W a f) (hb : E' X W b g) : E' X W (.BinOp a .Sub b pos) (e2 kSub f g) := v_op op_sub (o_int fun _ _ i j => .int (i - j)) ha hb
theorem v_mul (ha : E' X W a f) (hb : E' X W b g) : E' X W (.BinOp a .Mult b pos) (e2 kMul f g) := v_op op_mul (o_intC fun _ _ i j => .int (i * j)) ha hb
theorem v_mod (ha : E' X W a f) (hb : E' X W b g) : E' X W (.BinOp a .Mod b pos) (e2 kMod f g) := v_op op_mod (o_intC fun _ _ i j => .int (i % j)) ha hb
theorem v_div (ha : E' X W a f) (hb : E' X W b g) : E' X W (.BinOp a .FloorDiv b pos) (e2 kDiv f g) := v_op op_fdiv (o_intC fun _ _ i j => .int (i / j)) ha hb
theorem v_pow (ha : E' X W a f) (hb : E' X W b g) : E' X W (.BinOp a .Pow b pos) (e2 kPow f g) := v_op op_pow (o_intC fun _ _ i j => .int (i ^ j.toNat)) ha hb
theorem v_lt (ha : E' X W a f) (hb : E' X W b g) : E' X W (.Compare a [.Lt] [b] pos) (e2 kLt f g) := v_cmp op_lt (o_int fun _ _ i j => .bl _) ha hb (nomark _)
theorem v_le (ha : E' X W a f) (hb : E' X W b g) : E' X W (.Compare a [.LtE] [b] pos) (e2 kLe f g) := v_cmp op_le (o_int fun _ _ i j => .bl _) ha hb (nomark _)
theorem v_gt (ha : E' X W a f) (hb : E' X W b g) : E' X W (.Compare a [.Gt] [b] pos) (e2 kGt f g) := v_cmp op_gt (o_int fun _ _ i j => .bl _) ha hb (nomark _)
theorem v_ge (ha : E' X W a f) (hb : E' X W b g) : E' X W (.Compare a [.GtE] [b] pos) (e2 kGe f g) := v_cmp op_ge (o_int fun _ _ i j => .bl _) ha hb (nomark _)
theorem t_lt (ha : E' X W a f) (hb : E' X W b g) : T' X W (.Compare a [.Lt] [b] pos) (bOf (e2 kLt f g)) := t_cmp op_lt (o_int fun _ _ i j => .bl _) ha hb (nomark _)
theorem t_le (ha : E' X W a f) (hb : E' X W b g) : T' X W (.Compare a [.LtE] [b] pos) (bOf (e2 kLe f g)) := t_cmp op_le (o_int fun _ _ i j => .bl _) ha hb (nomark _)
theorem t_gt (ha : E' X W a f) (hb : E' X W b g) : T' X W (.Compare a [.Gt] [b] pos) (bOf (e2 kGt f g)) := t_cmp op_gt (o_int fun _ _ i j => .bl _) ha hb (nomark _)
theorem t_ge (ha : E' X W a f) (hb : E' X W b g) : T' X W (.Compare a [.GtE] [b] pos) (bOf (e2 kGe f g)) := t_cmp op_ge (o_int fun _ _ i j => .bl _) ha hb (nomark _)

/-! chains of two comparisons -/
def eChain (k k' : D → D → S → Res D) (f g h : VE) (s : S) : Res D := (f s).bind fun a s => (g s).bind fun b s => (k a b s).bind fun d s => match d with
  | .bl t => if t = true then (h s).bind fun c s => k' b c s else .ok (.bl false) s
  | _ => .bad
theorem chain_run {r r' : R2} {k k' : D → D → S → Res D} (hk : Op2 X W r k) (hk' : Op2 X W r' k') {σ : L2.St} {H : Hp} {Q : VK} (z : tE X.K W (eChain k k' f g h) σ H Q) : tChain r r' (tE X.K W f) (tE X.K W g) (tE X.K W h) σ H Q := by
  obtain ⟨F, ι, s, R, z⟩ := z
  refine Post.run R z fun F1 H1 ι₁ s1 v a R1 x1 q1 h1 => ?_
  refine Post.run R1 h1 fun F2 H2 ι₂ s2 w b R2 x2 q2 h2 => ?_
  refine hk F2 H2 ι₂ σ s2 v w a b _ R2 (q1.mono x2.sub x2.grow) q2 ?_
  refine Post.bind h2 fun F3 H3 ι₃ s3 u d R3 x3 q3 h3 => ?_
  cases q3 <;> first | exact h3.elim | skip
  rename_i bb
  refine ⟨bb, rfl, ?_⟩
  cases bb with
  | true =>
    rw [if_pos rfl]
    refine Post.run R3 h3 fun F4 H4 ι₄ s4 u' c R4 x4 q4 h4 => ?_
    have x34 := x3.trans x4
    exact hk' F4 H4 ι₄ σ s4 w u' b c Q R4 (q2.mono x34.sub x34.grow) q4 h4
  | false =>
    rw [if_neg Bool.false_ne_true]
    exact Post.fin h3 R3 (.bl false)
theorem v_chain {op op' : CmpOp} {r r' : R2} {k k' : D → D → S → Res D} (ho : OpR X (compareOp op) r) (ho' : OpR X (compareOp op') r') (hk : Op2 X W r k) (hk' : Op2 X W r' k') (ha : E' X W a f) (hb : E' X W b g) (hc : E' X W c h)
    (hm : lastMarks [op, op'] [b, c] = false := by with_unfolding_all rfl) : E' X W (.Compare a [op, op'] [b, c] pos) (eChain k k' f g h) := imE (pe_chain ho ho' ha hb hc hm) fun σ H Q z => chain_run hk hk' z
theorem t_chain {op op' : CmpOp} {r r' : R2} {k k' : D → D → S → Res D} (ho : OpR X (compareOp op) r) (ho' : OpR X (compareOp op') r') (hk : Op2 X W r k) (hk' : Op2 X W r' k') (ha : E' X W a f) (hb : E' X W b g) (hc : E' X W c h)
    (hm : lastMarks [op, op'] [b, c] = false := by with_unfolding_all rfl) : T' X W (.Compare a [op, op'] [b, c] pos) (bOf (eChain k k' f g h)) := by
  refine imT (pt_chain ho ho' ha hb hc hm) fun σ H Q z => ?_
  refine chain_run (Q := fun v H' => ∃ b, v = .bl b ∧ Q b H') hk hk' ?_
  exact bOf_run z
end
end
end VL

set_option Elab.async false
set_option linter.all false
set_option maxRecDepth 20000
/-! Tests, statements, loops. -/
namespace VL
open PySem PyProof.Rows PySem.Spec L2
noncomputable section

/-! ### and, or, not, if -/
def tAnd' (f g : VB) (s : S) : Res Bool := (f s).bind fun b s => if b = true then g s else .ok false s
def tOr' (f g : VB) (s : S) : Res Bool := (f s).bind fun b s => if b = true then .ok true s else g s
def tNot' (f : VB) (s : S) : Res Bool := (f s).bind fun b s => .ok (!b) s
def eAnd (f g : VE) (s : S) : Res D := (f s).bind fun d s => match d with
  | .bl t => if t = true then g s else .ok (.bl false) s
  | _ => .bad
def eOr (f g : VE) (s : S) : Res D := (f s).bind fun d s => match d with
  | .bl t => if t = true then .ok (.bl true) s else g s
  | _ => .bad
def eNot (f : VE) (s : S) : Res D := (f s).bind fun d s => match d with
  | .bl b => .ok (.bl (!b)) s
  | _ => .bad
def eIf (c : VB) (f g : VE) (s : S) : Res D := (c s).bind fun b s => if b = true then f s else g s
section
variable {X : Cx} {W : WX} {pos : Pos} {a b c : Expr} {rest : List Expr} {f g : VB} {fe ge : VE}
theorem w_and1 (ha : T' X W a f) : W' X W (.BoolOp .And [a] pos) f := pw_and1 ha
theorem w_or1 (ha : T' X W a f) : W' X W (.BoolOp .Or [a] pos) f := pw_or1 ha
theorem w_and (ha : T' X W a f) (hb : W' X W (.BoolOp .And (b :: rest) pos) g) : W' X W (.BoolOp .And (a :: b :: rest) pos) (tAnd' f g) := by
  refine imW (pw_and ha hb) fun σ H Q ⟨F, ι, s, R, h⟩ => ?_
  refine Post.run R h fun F1 H1 ι₁ s1 v d R1 x1 q1 h1 => ?_
  subst q1
  cases v with
  | true => exact iteT ⟨F1, ι₁, s1, R1, h1⟩
  | false => exact iteF (Post.fin h1 R1 rfl)
theorem w_or (ha : T' X W a f) (hb : W' X W (.BoolOp .Or (b :: rest) pos) g) : W' X W (.BoolOp .Or (a :: b :: rest) pos) (tOr' f g) := by
  refine imW (pw_or ha hb) fun σ H Q ⟨F, ι, s, R, h⟩ => ?_
  refine Post.run R h fun F1 H1 ι₁ s1 v d R1 x1 q1 h1 => ?_
  subst q1
  cases v with
  | false => exact iteF ⟨F1, ι₁, s1, R1, h1⟩
  | true => exact iteT (Post.fin h1 R1 rfl)
theorem t_w (h : W' X W a f) : T' X W a f := h.pt
theorem t_not (ha : T' X W a f) : T' X W (.UnaryOp .Not a pos) (tNot' f) := by
  refine imT (pt_not ha) fun σ H Q ⟨F, ι, s, R, h⟩ => ?_
  refine Post.run R h fun F1 H1 ι₁ s1 v d R1 x1 q1 h1 => ?_
  subst q1
  exact Post.fin h1 R1 rfl
theorem v_one {op} (h : E' X W a fe) : E' X W (.BoolOp op [a] pos) fe := pe_one h
theorem v_and (ha : E' X W a fe) (hb : E' X W (.BoolOp .And (b :: rest) pos) ge) : E' X W (.BoolOp .And (a :: b :: rest) pos) (eAnd fe ge) := by
  refine imE (pe_and ha hb) fun σ H Q ⟨F, ι, s, R, h⟩ => ?_
  refine Post.run R h fun F1 H1 ι₁ s1 v d R1 x1 q1 h1 => ?_
  cases q1 <;> first | exact h1.elim | skip
  rename_i bb
  refine ⟨bb, rfl, ?_⟩
  cases bb with
  | true => exact iteT ⟨F1, ι₁, s1, R1, h1⟩
  | false => exact iteF (Post.fin h1 R1 (.bl false))
theorem v_or (ha : E' X W a fe) (hb : E' X W (.BoolOp .Or (b :: rest) pos) ge) : E' X W (.BoolOp .Or (a :: b :: rest) pos) (eOr fe ge) := by
  refine imE (pe_or ha hb) fun σ H Q ⟨F, ι, s, R, h⟩ => ?_
  refine Post.run R h fun F1 H1 ι₁ s1 v d R1 x1 q1 h1 => ?_
  cases q1 <;> first | exact h1.elim | skip
  rename_i bb
  refine ⟨bb, rfl, ?_⟩
  cases bb with
  | false => exact iteF ⟨F1, ι₁, s1, R1, h1⟩
  | true => exact iteT (Post.fin h1 R1 (.bl true))
theorem v_not (ha : E' X W a fe) : E' X W (.UnaryOp .Not a pos) (eNot fe) := by
  refine imE (pe_not ha) fun σ H Q ⟨F, ι, s, R, h⟩ => ?_
  refine Post.run R h fun F1 H1 ι₁ s1 v d R1 x1 q1 h1 => ?_
  cases q1 <;> first | exact h1.elim | exact ⟨_, rfl, Post.fin h1 R1 (.bl _)⟩
theorem v_if (hc : T' X W c f) (ha : E' X W a fe) (hb : E' X W b ge) : E' X W (.IfExp c a b pos) (eIf f fe ge) := by
  refine imE (pe_ifExp hc ha hb) fun σ H Q ⟨F, ι, s, R, h⟩ => ?_
  refine Post.run R h fun F1 H1 ι₁ s1 v d R1 x1 q1 h1 => ?_
  subst q1
  cases v with
  | true => exact iteT ⟨F1, ι₁, s1, R1, h1⟩
  | false => exact iteF ⟨F1, ι₁, s1, R1, h1⟩
/-- is None -/
def kIs (a b : D) (s : S) : Res D := match b with
  | .non => match a with
    | .non => .ok (.bl true) s
    | _ => .ok (.bl false) s
  | _ => .bad
def kIsNot (a b : D) (s : S) : Res D := match b with
  | .non => match a with
    | .non => .ok (.bl false) s
    | _ => .ok (.bl true) s
  | _ => .bad
theorem o_is : Op2 X W (fun x y H Q => y = .non ∧ Q (.bl (decide (x = .non))) H) kIs := by
  intro F H ι σ s v w a b Q R p q z
  cases q <;> first | exact z.elim | skip
  refine ⟨rfl, ?_⟩
  cases p <;> exact Post.fin z R (.bl _)
theorem o_isNot : Op2 X W (fun x y H Q => y = .non ∧ Q (.bl (!decide (x = .non))) H) kIsNot := by
  intro F H ι σ s v w a b Q R p q z
  cases q <;> first | exact z.elim | skip
  refine ⟨rfl, ?_⟩
  cases p <;> exact Post.fin z R (.bl _)
theorem v_is (ha : E' X W a fe) (hb : E' X W b ge) : E' X W (.Compare a [.Is] [b] pos) (e2 kIs fe ge) := v_cmp op_isN o_is ha hb (nomark _)
theorem t_is (ha : E' X W a fe) (hb : E' X W b ge) : T' X W (.Compare a [.Is] [b] pos) (bOf (e2 kIs fe ge)) := t_cmp op_isN o_is ha hb (nomark _)
theorem v_isNot (ha : E' X W a fe) (hb : E' X W b ge) : E' X W (.Compare a [.IsNot] [b] pos) (e2 kIsNot fe ge) := v_cmp op_notN o_isNot ha hb (nomark _)
theorem t_isNot (ha : E' X W a fe) (hb : E' X W b ge) : T' X W (.Compare a [.IsNot] [b] pos) (bOf (e2 kIsNot fe ge)) := t_cmp op_notN o_isNot ha hb (nomark _)
end

/-! ### what stands at data, one pointer followed -/
def look (s : S) : D → D
  | .ptr k => match s.η[k]? with
    | some (.lst xs) => .lst xs
    | some (.dK kvs) => .dK kvs
    | some (.dT kvs) => .dT kvs
    | some (.ins C fs) => .obj C fs
    | some (.fwd d) => d
    | none => .non
  | d => d
section
variable {K : PySem.W.Frag} {F H : Hp} {ι : List Addr} {s : S} {σ : L2.St}
/-- the thing at hand lies in H as its data says -/
inductive At (K : PySem.W.Frag) (F H : Hp) (ι : List Addr) : V → D → Prop
  | sc {v : V} {d : D} (h : Rp K F ι v d) : At K F H ι v d
  | lst {a : Addr} {vs : List V} {ds : List D} (h : H a = some (.lst vs)) (r : Rps K F ι vs ds) : At K F H ι (.ref a) (.lst ds)
  | dK {a : Addr} {vs : List (Key × V)} {ds : List (Key × D)} (h : H a = some (.dK vs)) (r : RpK K F ι vs ds) : At K F H ι (.ref a) (.dK ds)
  | dT {a : Addr} {vs : List (List Key × V)} {ds : List (List Key × D)} (h : H a = some (.dT vs)) (r : RpT K F ι vs ds) : At K F H ι (.ref a) (.dT ds)
  | obj {a dx : Addr} {C : Str} {fv : List (Str × V)} {fs : List (Str × D)} (h : H a = some (.ins (He.ga K C) dx fv)) (r : RpF K F ι fv fs) : At K F H ι (.ref a) (.obj C fs)
theorem Rel.at (R : Rel K F H ι s σ) {v : V} {d : D} (p : Rp K F ι v d) : At K F H ι v (look s d) := by
  cases p with
  | ptr e =>
    rename_i k a
    have hk : k < s.η.length := by rw [← R.ilen]; exact (List.getElem?_eq_some_iff.mp e).1
    have hc := R.cell k a _ e (List.getElem?_eq_getElem hk)
    unfold look
    dsimp only
    rw [List.getElem?_eq_getElem hk]
    cases q : s.η[k] with
    | lst xs => rw [q] at hc; obtain ⟨_, vs, h, r⟩ := hc; exact .lst h r
    | dK xs => rw [q] at hc; obtain ⟨_, vs, h, r⟩ := hc; exact .dK h r
    | dT xs => rw [q] at hc; obtain ⟨_, vs, h, r⟩ := hc; exact .dT h r
    | ins C fs => rw [q] at hc; obtain ⟨_, dx, fv, h, r⟩ := hc; exact .obj h r
    | fwd d => rw [q] at hc; exact .sc hc.2
  | non => exact .sc .non
  | bl b => exact .sc (.bl b)
  | int i => exact .sc (.int i)
  | str x => exact .sc (.str x)
  | ty n => exact .sc (.ty n)
  | tup h r => exact .sc (.tup h r)
  | lst h r => exact .sc (.lst h r)
  | scr h r => exact .sc (.scr h r)
  | dK h r => exact .sc (.dK h r)
  | dT h r => exact .sc (.dT h r)
  | obj h r => exact .sc (.obj h r)
theorem At.lstD (e : Same F H) {v : V} {ds : List D} (h : At K F H ι v (.lst ds)) : ∃ a vs, v = .ref a ∧ H a = some (.lst vs) ∧ Rps K F ι vs ds := by
  cases h with
  | sc h => cases h with | lst h r => exact ⟨_, _, rfl, e _ _ h, r⟩
  | lst h r => exact ⟨_, _, rfl, h, r⟩
theorem At.scrD (e : Same F H) {v : V} {ds : List D} (h : At K F H ι v (.scr ds)) : ∃ a vs, v = .ref a ∧ SqL K H a vs ∧ Rps K F ι vs ds := by
  cases h with
  | sc h => cases h with | scr h r => exact ⟨_, _, rfl, sqL_mono e h, r⟩
theorem At.tupD (e : Same F H) {v : V} {ds : List D} (h : At K F H ι v (.tup ds)) : ∃ a vs, v = .ref a ∧ SqT K H a vs ∧ Rps K F ι vs ds := by
  cases h with
  | sc h => cases h with | tup h r => exact ⟨_, _, rfl, sqT_mono e h, r⟩
theorem At.dKD (e : Same F H) {v : V} {ds : List (Key × D)} (h : At K F H ι v (.dK ds)) : ∃ a vs, v = .ref a ∧ H a = some (.dK vs) ∧ RpK K F ι vs ds := by
  cases h with
  | sc h => cases h with | dK h r => exact ⟨_, _, rfl, e _ _ h, r⟩
  | dK h r => exact ⟨_, _, rfl, h, r⟩
theorem At.dTD (e : Same F H) {v : V} {ds : List (List Key × D)} (h : At K F H ι v (.dT ds)) : ∃ a vs, v = .ref a ∧ H a = some (.dT vs) ∧ RpT K F ι vs ds := by
  cases h with
  | sc h => cases h with | dT h r => exact ⟨_, _, rfl, e _ _ h, r⟩
  | dT h r => exact ⟨_, _, rfl, h, r⟩
theorem At.objD (e : Same F H) {v : V} {C : Str} {fs : List (Str × D)} (h : At K F H ι v (.obj C fs)) : ∃ a dx fv, v = .ref a ∧ H a = some (.ins (He.ga K C) dx fv) ∧ RpF K F ι fv fs := by
  cases h with
  | sc h => cases h with | obj h r => exact ⟨_, _, _, rfl, e _ _ h, r⟩
  | obj h r => exact ⟨_, _, _, rfl, h, r⟩
theorem At.intD {v : V} {i : Int} (h : At K F H ι v (.int i)) : v = .int i := by
  cases h with | sc h => cases h; rfl
theorem At.blD {v : V} {i : Bool} (h : At K F H ι v (.bl i)) : v = .bl i := by
  cases h with | sc h => cases h; rfl
theorem At.strD {v : V} {i : Str} (h : At K F H ι v (.str i)) : v = .str i := by
  cases h with | sc h => cases h; rfl
theorem At.nonD {v : V} (h : At K F H ι v .non) : v = .non := by
  cases h with | sc h => cases h; rfl
theorem RpK.isEmpty {vs : List (Key × V)} {ds : List (Key × D)} (r : RpK K F ι vs ds) : vs.isEmpty = ds.isEmpty := by cases r <;> rfl
theorem Rps.isEmpty {vs : List V} {ds : List D} (r : Rps K F ι vs ds) : vs.isEmpty = ds.isEmpty := by cases r <;> rfl
end
/-! ### truth -/
open Classical in
def truD (d : D) (s : S) : Res Bool := match look s d with
  | .non => .ok false s
  | .bl b => .ok b s
  | .int i => .ok (i != 0) s
  | .str x => if x.length ≤ sizeLine then .ok ((x.length : Int) != 0) s else .bad
  | .lst xs => .ok (!xs.isEmpty) s
  | .scr xs => .ok (!xs.isEmpty) s
  | .tup xs => .ok (!xs.isEmpty) s
  | .dK kvs => .ok (!kvs.isEmpty) s
  | _ => .bad
def tTru (f : VE) (s : S) : Res Bool := (f s).bind truD
section
variable {X : Cx} {W : WX} {pos : Pos} {a b c : Expr} {fe ge : VE}
theorem t_tru (ha : E' X W a fe) (he : ∀ whole, isTrue a X.env whole = (do let v ← whole; standAt a.pos; holding [v] (truthy v)) := by intro _; rfl) : T' X W a (tTru fe) := by
  refine imT (pt_truth ha he) fun σ H Q ⟨F, ι, s, R, h⟩ => ?_
  refine Post.run R h fun F1 H1 ι₁ s1 v d R1 x1 q1 h1 => ?_
  have z := R1.at q1
  unfold truD at h1
  cases e : look s1 d with
  | non => rw [e] at h1 z; rw [z.nonD]; exact ⟨false, rfl, Post.fin h1 R1 rfl⟩
  | bl b => rw [e] at h1 z; rw [z.blD]; exact ⟨b, rfl, Post.fin h1 R1 rfl⟩
  | int i => rw [e] at h1 z; rw [z.intD]; exact ⟨_, rfl, Post.fin h1 R1 rfl⟩
  | str x =>
    rw [e] at h1 z; rw [z.strD]
    dsimp only at h1
    split at h1
    · rename_i hl
      exact ⟨_, ⟨hl, rfl⟩, Post.fin h1 R1 rfl⟩
    · exact h1.elim
  | lst xs => rw [e] at h1 z; obtain ⟨p, vs, rfl, hs, r⟩ := z.lstD R1.same; exact ⟨_, .inl ⟨vs, .of hs, rfl⟩, Post.fin h1 R1 (by rw [r.isEmpty])⟩
  | scr xs => rw [e] at h1 z; obtain ⟨p, vs, rfl, hs, r⟩ := z.scrD R1.same; exact ⟨_, .inl ⟨vs, hs, rfl⟩, Post.fin h1 R1 (by rw [r.isEmpty])⟩
  | tup xs => rw [e] at h1 z; obtain ⟨p, vs, rfl, hs, r⟩ := z.tupD R1.same; exact ⟨_, .inr (.inl ⟨vs, hs, rfl⟩), Post.fin h1 R1 (by rw [r.isEmpty])⟩
  | dK xs => rw [e] at h1 z; obtain ⟨p, vs, rfl, hs, r⟩ := z.dKD R1.same; exact ⟨_, .inr (.inr ⟨vs, hs, rfl⟩), Post.fin h1 R1 (by rw [r.isEmpty])⟩
  | dT _ => rw [e] at h1; exact h1.elim
  | obj _ _ => rw [e] at h1; exact h1.elim
  | ty _ => rw [e] at h1; exact h1.elim
  | ptr _ => rw [e] at h1; exact h1.elim
end

/-! ### statements -/
def sNil (s : S) : SR := .nx s
def sSeq (f g : VS) (s : S) : SR := match f s with
  | .nx s => g s
  | r => r
def sExpr (f : VE) (s : S) : SR := (f s).bindS fun _ s => .nx s
def sRet (f : VE) (s : S) : SR := (f s).bindS fun d s => .rt d s
def sRetN (s : S) : SR := .rt .non s
def sSet (i : Nat) (f : VE) (s : S) : SR := (f s).bindS fun d s => .nx (s.put i d)
def sIf (c : VB) (f g : VS) (s : S) : SR := (c s).bindS fun b s => if b = true then f s else g s
def sBrk (s : S) : SR := .bk s
def sCnt (s : S) : SR := .ct s
def sBad (_ : S) : SR := .bad
section
variable {X : Cx} {W : WX} {pos : Pos} {st : Stmt} {rest : List Stmt} {e : Expr} {f g : VS} {fe : VE} {c : VB}
theorem b_nil : B' X W [] sNil := imB pss_nil fun D σ H ⟨F, ι, s, R, h⟩ => h F H ι σ R (.refl _ _ _)
theorem b_cons (h1 : S' X W st f) (h2 : B' X W rest g) : B' X W (st :: rest) (sSeq f g) := by
  refine imB (pss_cons h1 h2) fun D σ H ⟨F, ι, s, R, h⟩ => ?_
  refine ⟨F, ι, s, R, ?_⟩
  unfold sSeq at h
  cases q : f s with
  | nx s1 => rw [q] at h; exact fun F' H' ι' σ' R' x => ⟨F', ι', s1, R', PostS.ref h x⟩
  | bk s1 => rw [q] at h; exact h
  | ct s1 => rw [q] at h; exact h
  | rt d s1 => rw [q] at h; exact h
  | exc C fs s1 => rw [q] at h; exact h
  | bad => rw [q] at h; exact h
theorem b_one (h1 : S' X W st f) : B' X W [st] f := imB (pss_one h1) fun D σ H h => h
theorem s_pass : S' X W (.Pass pos) sNil := imS ps_pass fun D σ H ⟨F, ι, s, R, h⟩ => h F H ι σ R (.refl _ _ _)
theorem s_doc {x j pos'} : S' X W (.Expr (.Constant (.str x) j pos) pos') sNil := imS ps_doc fun D σ H ⟨F, ι, s, R, h⟩ => h F H ι σ R (.refl _ _ _)
theorem s_brk : S' X W (.Break pos) sBrk := imS ps_break fun D σ H ⟨F, ι, s, R, h⟩ => h F H ι σ R (.refl _ _ _)
theorem s_cnt : S' X W (.Continue pos) sCnt := imS ps_continue fun D σ H ⟨F, ι, s, R, h⟩ => h F H ι σ R (.refl _ _ _)
theorem s_bad : S' X W st sBad := imS ps_never fun D σ H ⟨F, ι, s, R, h⟩ => h
theorem b_bad : B' X W rest sBad := imB pss_never fun D σ H ⟨F, ι, s, R, h⟩ => h
theorem s_expr (he : E' X W e fe) (hs : swapsWith e none pos.line X.env = pure false := by rfl) : S' X W (.Expr e pos) (sExpr fe) := by
  refine imS (ps_expr he hs) fun D σ H ⟨F, ι, s, R, h⟩ => ?_
  exact PostS.run R h fun F1 H1 ι₁ s1 v d R1 x1 q1 h1 => h1 F1 H1 ι₁ σ R1 (.refl _ _ _)
theorem s_ret (he : E' X W e fe) : S' X W (.Return (some e) pos) (sRet fe) := by
  refine imS (ps_ret he) fun D σ H ⟨F, ι, s, R, h⟩ => ?_
  exact PostS.run R h fun F1 H1 ι₁ s1 v d R1 x1 q1 h1 => h1 F1 H1 ι₁ σ v R1 (.refl _ _ _) q1
theorem s_retN : S' X W (.Return none pos) sRetN := imS ps_retN fun D σ H ⟨F, ι, s, R, h⟩ => h F H ι σ .non R (.refl _ _ _) .non
theorem s_set {i : Nat} {x : Str} {pos' : Pos} (hN : X.N.Nodup) (he : E' X W e fe) (hi : X.N[i]? = some x := by rfl) (hx : Loc X.env.scope x := by first | exact Or.inl rfl | exact Or.inr rfl) (hs : swapsWith e (some (.Name x pos')) pos.line X.env = pure false := by rfl) (hf : X.fn x = true ∨ X.env.scope.names.lookup x = some .local := by first | exact .inl rfl | exact .inr rfl | assumption) :
    S' X W (.Assign [.Name x pos'] e pos) (sSet i fe) := by
  refine imS (ps_set hN hi hx he hs hf) fun D σ H ⟨F, ι, s, R, h⟩ => ?_
  exact PostS.run R h fun F1 H1 ι₁ s1 v d R1 x1 q1 h1 => h1 F1 H1 ι₁ _ (R1.put i q1) (.refl _ _ _)
theorem s_if {cx : Expr} {a b : List Stmt} (hc : T' X W cx c) (ha : B' X W a f) (hb : B' X W b g) : S' X W (.If cx a b pos) (sIf c f g) := by
  refine imS (ps_if hc ha hb) fun D σ H ⟨F, ι, s, R, h⟩ => ?_
  refine PostS.run R h fun F1 H1 ι₁ s1 v d R1 x1 q1 h1 => ?_
  subst q1
  cases v with
  | true => exact iteT ⟨F1, ι₁, s1, R1, h1⟩
  | false => exact iteF ⟨F1, ι₁, s1, R1, h1⟩
end

/-! ### targets -/
abbrev VG := D → S → SR
abbrev VGs := List D → S → SR
/-- only the slots of L differ -/
def Outside (L : List Nat) (σ σ' : L2.St) : Prop := ∀ vs : List Nat, (∀ i ∈ L, i ∈ vs) → wipe σ' vs = wipe σ vs
theorem wipe_over {σ : L2.St} {i : Nat} {x : Option V} : ∀ {vs : List Nat}, i ∉ vs → wipe (σ.set i x) vs = (wipe σ vs).set i x
  | [], _ => rfl
  | v :: vs, h => by
    have h1 : i ≠ v := fun e => h (by rw [e]; exact List.mem_cons_self)
    have h2 : i ∉ vs := fun e => h (List.mem_cons_of_mem _ e)
    show (wipe (σ.set i x) vs).set v none = ((wipe σ vs).set v none).set i x
    rw [wipe_over h2, List.set_comm _ _ h1]
theorem wipe_in {σ : L2.St} {i : Nat} {x : Option V} : ∀ {vs : List Nat}, i ∈ vs → wipe (σ.set i x) vs = wipe σ vs
  | [], h => by cases h
  | v :: vs, h => by
    show (wipe (σ.set i x) vs).set v none = (wipe σ vs).set v none
    by_cases h2 : i ∈ vs
    · rw [wipe_in h2]
    · have e : v = i := by
        rcases List.mem_cons.mp h with e | e
        · exact e.symm
        · exact absurd e h2
      subst e
      rw [wipe_over h2, List.set_set]
theorem Outside.refl (σ : L2.St) : Outside [] σ σ := fun _ _ => rfl
theorem Outside.one (σ : L2.St) (i : Nat) (x : Option V) : Outside [i] σ (σ.set i x) := fun vs h => wipe_in (h i List.mem_cons_self)
theorem Outside.app {L L' : List Nat} {σ σ' σ'' : L2.St} (a : Outside L σ σ') (b : Outside L' σ' σ'') : Outside (L ++ L') σ σ'' := fun vs h =>
  (b vs fun i hi => h i (List.mem_append_right _ hi)).trans (a vs fun i hi => h i (List.mem_append_left _ hi))
def PostG (K : PySem.W.Frag) (F H : Hp) (ι : List Addr) (r : SR) (σ : L2.St) (L : List Nat) (Q : L2.St → Hp → Prop) : Prop := match r with
  | .nx s => ∀ F' H' ι' σ', Rel K F' H' ι' s σ' → Ext F H ι F' H' ι' → Outside L σ σ' → Q σ' H'
  | _ => False
def tGt (K : PySem.W.Frag) (L : List Nat) (f : VG) : TG := fun v σ H Q => ∃ F ι s d, Rel K F H ι s σ ∧ Rp K F ι v d ∧ PostG K F H ι (f d s) σ L Q
def tGts (K : PySem.W.Frag) (L : List Nat) (f : VGs) : TGs := fun vs σ H Q => ∃ F ι s ds, Rel K F H ι s σ ∧ Rps K F ι vs ds ∧ PostG K F H ι (f ds s) σ L Q
abbrev G' (X : Cx) (e : Expr) (L : List Nat) (f : VG) : Prop := PG X e (tGt X.K L f)
abbrev Gs' (X : Cx) (e : List Expr) (L : List Nat) (f : VGs) : Prop := PGs X e (tGts X.K L f)
def gNm (i : Nat) (d : D) (s : S) : SR := .nx (s.put i d)
def gNil' (ds : List D) (s : S) : SR := match ds with
  | [] => .nx s
  | _ => .bad
def gCons' (f : VG) (g : VGs) (ds : List D) (s : S) : SR := match ds with
  | d :: ds => (match f d s with
    | .nx s => g ds s
    | _ => .bad)
  | _ => .bad
def gTup' (n : Nat) (g : VGs) (d : D) (s : S) : SR := match d with
  | .tup ds => if ds.length = n then g ds s else .bad
  | _ => .bad
section
variable {X : Cx} {W : WX} {pos : Pos}
theorem imG {e : Expr} {t t' : TG} (h : PG X e t) (i : ∀ v σ H Q, t' v σ H Q → t v σ H Q) : PG X e t' := ⟨fun pins s σ H v u Q I r q => h.run pins s σ H v u Q I r (i v σ H Q q)⟩
theorem imGs {e : List Expr} {t t' : TGs} (h : PGs X e t) (i : ∀ v σ H Q, t' v σ H Q → t v σ H Q) : PGs X e t' := ⟨fun pins s σ H v u Q I r q => h.run pins s σ H v u Q I r (i v σ H Q q)⟩
theorem PostG.ref {K : PySem.W.Frag} {F H F1 H1 : Hp} {ι ι₁ : List Addr} {r : SR} {σ : L2.St} {L : List Nat} {Q : L2.St → Hp → Prop} (h : PostG K F H ι r σ L Q) (e : Ext F H ι F1 H1 ι₁) : PostG K F1 H1 ι₁ r σ L Q := by
  cases r with
  | nx s => exact fun F' H' ι' σ' r x o => h F' H' ι' σ' r (e.trans x) o
  | _ => exact h
theorem g_nm (hN : X.N.Nodup) (i : Nat) {x : Str} (hi : X.N[i]? = some x := by rfl) (hx : Loc X.env.scope x := by first | exact Or.inl rfl | exact Or.inr rfl) (hf : X.fn x = true ∨ X.env.scope.names.lookup x = some .local := by first | exact .inl rfl | exact .inr rfl | assumption) : G' X (.Name x pos) [i] (gNm i) :=
  imG (pg_name hN hi hx hf) fun v σ H Q ⟨F, ι, s, d, R, p, h⟩ => h F H ι _ (R.put i p) (.refl _ _ _) (.one σ i _)
theorem g_nil : Gs' X [] [] gNil' := imGs pgs_nil fun v σ H Q ⟨F, ι, s, d, R, p, h⟩ => by
  cases p with
  | nil => exact ⟨rfl, h F H ι σ R (.refl _ _ _) (.refl σ)⟩
  | cons _ _ => exact h.elim
theorem g_cons {e : Expr} {es : List Expr} {L M : List Nat} {f : VG} {g : VGs} (h1 : G' X e L f) (h2 : Gs' X es M g)
    (hs : (assignEach (e :: es) X.env).map (·.2) = assign e X.env :: (assignEach es X.env).map (·.2) := by rfl) : Gs' X (e :: es) (L ++ M) (gCons' f g) := by
  refine imGs (pgs_cons h1 h2 hs) fun v σ H Q ⟨F, ι, s, d, R, p, h⟩ => ?_
  cases p with
  | nil => exact h.elim
  | @cons v0 vs d0 ds p t =>
    refine ⟨v0, vs, rfl, F, ι, s, d0, R, p, ?_⟩
    unfold gCons' at h
    dsimp only at h
    cases q : f d0 s with
    | nx s1 =>
      rw [q] at h
      intro F' H' ι' σ' R' x o
      refine ⟨F', ι', s1, ds, R', t.mono x.sub x.grow, ?_⟩
      dsimp only at h
      cases q2 : g ds s1 with
      | nx s2 => rw [q2] at h; exact fun F2 H2 ι₂ σ2 R2 x2 o2 => h F2 H2 ι₂ σ2 R2 (x.trans x2) (o.app o2)
      | bk s2 => rw [q2] at h; exact h.elim
      | ct s2 => rw [q2] at h; exact h.elim
      | rt d s2 => rw [q2] at h; exact h.elim
      | exc C fs s2 => rw [q2] at h; exact h.elim
      | bad => rw [q2] at h; exact h.elim
    | bk s1 => rw [q] at h; exact h.elim
    | ct s1 => rw [q] at h; exact h.elim
    | rt d s1 => rw [q] at h; exact h.elim
    | exc C fs s1 => rw [q] at h; exact h.elim
    | bad => rw [q] at h; exact h.elim
theorem g_tup {es : List Expr} {k : Nat} {L : List Nat} {g : VGs} {n : Nat} (hc : X.calm = true) (h : Gs' X es L g)
    (hn : (assignEach es X.env).length = n := by rfl) (hst : (assignEach es X.env).findIdx? (·.1) = none := by rfl) : G' X (.Tuple es k pos) L (gTup' n g) := by
  refine imG (pg_tup hc h hn hst) fun v σ H Q ⟨F, ι, s, d, R, p, h⟩ => ?_
  cases p <;> first | exact h.elim | skip
  rename_i a vs ds hs r _
  unfold gTup' at h
  dsimp only at h
  split at h
  · rename_i hl
    exact ⟨a, vs, rfl, sqT_mono R.same hs, by rw [r.length]; exact hl, F, ι, s, ds, R, r, h⟩
  · exact h.elim
/-- target = value -/
def sAsg (g : VG) (f : VE) (s : S) : SR := (f s).bindS fun d s => match g d s with
  | .nx s => .nx s
  | _ => .bad
theorem s_asg {tg e : Expr} {L : List Nat} {f : VE} {g : VG} (he : E' X W e f) (hg : G' X tg L g) (hs : swapsWithSole [tg] e pos.line X.env = pure false := by rfl) (hw : swappedStores [tg] e X.env = pure none := by rfl)
    (h1 : (assignEach [tg] X.env).map (·.2) = [assign tg X.env] := by rfl) : S' X W (.Assign [tg] e pos) (sAsg g f) := by
  refine imS (ps_asg he hg hs hw h1) fun D σ H ⟨F, ι, s, R, h⟩ => ?_
  refine PostS.run R h fun F1 H1 ι₁ s1 v d R1 x1 q1 h1 => ?_
  refine ⟨F1, ι₁, s1, d, R1, q1, ?_⟩
  cases q : g d s1 with
  | nx s2 => rw [q] at h1; exact fun F' H' ι' σ' R' x _ => h1 F' H' ι' σ' R' x
  | _ => rw [q] at h1; exact h1.elim
end

/-! ### for over items that stand -/
def loopF (g : VG) (body : VS) : List D → S → SR
  | [], s => .nx s
  | d :: r, s => match g d s with
    | .nx s => (match body s with
      | .nx s => loopF g body r s
      | .ct s => loopF g body r s
      | .bk s => .nx s
      | .rt d s => .rt d s
      | .exc C fs s => .exc C fs s
      | .bad => .bad)
    | _ => .bad
/-- one turn of it -/
theorem loop_turn {K : PySem.W.Frag} {W : WX} {L : List Nat} {g : VG} {body : VS} {r : List D} {d : D} {v : V} {F H F0 H0 : Hp} {ι ι0 : List Addr} {s : S} {σ : L2.St} {Dn : Ends} {N : L2.St → Hp → Prop}
    (R : Rel K F H ι s σ) (x0 : Ext F0 H0 ι0 F H ι) (p : Rp K F ι v d) (h : PostS K W F0 H0 ι0 (loopF g body (d :: r) s) Dn)
    (hN : ∀ F' H' ι' s' σ', Rel K F' H' ι' s' σ' → Ext F0 H0 ι0 F' H' ι' → Ext F H ι F' H' ι' → PostS K W F0 H0 ι0 (loopF g body r s') Dn → N σ' H') :
    tGt K L g v σ H fun σ2 H2 => tS K W body { Dn with nx := N, ct := N, bk := Dn.nx } σ2 H2 := by
  refine ⟨F, ι, s, d, R, p, ?_⟩
  unfold loopF at h
  cases q : g d s with
  | nx s1 =>
    rw [q] at h
    dsimp only at h
    refine fun F1 H1 ι₁ σ1 R1 x1 _ => ⟨F1, ι₁, s1, R1, ?_⟩
    cases q2 : body s1 with
    | nx s2 => rw [q2] at h; exact fun F' H' ι' σ' R' x => hN F' H' ι' s2 σ' R' (x0.trans (x1.trans x)) (x1.trans x) h
    | ct s2 => rw [q2] at h; exact fun F' H' ι' σ' R' x => hN F' H' ι' s2 σ' R' (x0.trans (x1.trans x)) (x1.trans x) h
    | bk s2 => rw [q2] at h; exact fun F' H' ι' σ' R' x => h F' H' ι' σ' R' (x0.trans (x1.trans x))
    | rt d s2 => rw [q2] at h; exact fun F' H' ι' σ' v R' x z => h F' H' ι' σ' v R' (x0.trans (x1.trans x)) z
    | exc C fs s2 => rw [q2] at h; exact fun F' H' ι' σ' cls dx R' x z => h F' H' ι' σ' cls dx R' (x0.trans (x1.trans x)) z
    | bad => rw [q2] at h; exact h.elim
  | _ => rw [q] at h; exact h.elim
/-- what an iterator will yield, whatever is done meanwhile -/
def Items (K : PySem.W.Frag) (F1 : Hp) (ι₁ : List Addr) (J : It) (ds : List D) : Prop :=
  ∀ (i : Nat) F H ι s σ, Rel K F H ι s σ → Same F1 F → Grow ι₁ ι → (i < ds.length → J.go i H) ∧ (ds.length ≤ i → J.stop i H) ∧
    ∀ x H', J.yld i H x H' → i < ds.length → ∃ F' ι' d, Rel K F' H' ι' s σ ∧ Ext F H ι F' H' ι' ∧ ds[i]? = some d ∧ Rp K F' ι' x d
abbrev tI (K : PySem.W.Frag) (W : WX) (it : VA) : TI := tG K W (fun F ι (J : It) (ds : List D) => Items K F ι J ds) it
abbrev I' (X : Cx) (W : WX) (tg iter : Expr) (it : VA) : Prop := PI X tg iter (tI X.K W it)
theorem imI {X : Cx} {tg iter : Expr} {t t' : TI} (h : PI X tg iter t) (i : ∀ σ H Q, t' σ H Q → t σ H Q) : PI X tg iter t' := ⟨fun pins s σ H R I q => h.run pins s σ H R I (i σ H R q)⟩
def sFor (g : VG) (it : VA) (body : VS) (s : S) : SR := (it s).bindS fun ds s => loopF g body ds s
section
variable {X : Cx} {W : WX} {pos : Pos} {tg iter : Expr} {bs : List Stmt} {L : List Nat} {g : VG} {f : VE} {it : VA} {body : VS}
theorem s_for (hp : PassesOwn (model X.prog X.w) X.A X.env X.xe) (hc : X.calm = true) (hi : I' X W tg iter it) (hg : G' X tg L g) (hb : B' X W bs body)
    (hs : ∀ x, foldedSetIterable iter X.env x = pure x := by intro _; rfl) : S' X W (.For tg iter bs [] pos) (sFor g it body) := by
  refine imS (ps_for hp hc hi hg hb hs) fun Dn σ H ⟨F, ι, s, R, h⟩ => ?_
  refine PostS.run R h fun F1 H1 ι₁ s1 J ds R1 x1 q1 h1 => ?_
  let I : Nat → L2.St → Hp → Prop := fun i σ H => ∃ F ι s, Rel X.K F H ι s σ ∧ Ext F1 H1 ι₁ F H ι ∧ PostS X.K W F1 H1 ι₁ (loopF g body (ds.drop i) s) Dn
  refine ⟨fun i m σ H => m = ds.length - i ∧ i ≤ ds.length ∧ I i σ H, ⟨_, rfl, Nat.zero_le _, F1, ι₁, s1, R1, .refl _ _ _, h1⟩, ?_⟩
  rintro i m σ2 H2 ⟨rfl, hi, F, ι, s, R2, x2, h2⟩
  obtain ⟨go, st, yl⟩ := q1 i F H2 ι s σ2 R2 x2.sub x2.grow
  by_cases hlt : i < ds.length
  · refine .inr ⟨go hlt, I (i + 1), fun σ' H' p' => ⟨ds.length - (i + 1), by omega, rfl, hlt, p'⟩, fun x H' y => ?_⟩
    obtain ⟨F', ι', d, R', x', e1, e2⟩ := yl x H' y hlt
    have ed : ds.drop i = d :: ds.drop (i + 1) := by
      rw [List.drop_eq_getElem_cons hlt]
      rw [List.getElem?_eq_getElem hlt] at e1
      rw [Option.some.inj e1]
    rw [ed] at h2
    exact loop_turn R' (x2.trans x') e2 h2 fun F' H' ι' s' σ' R' x' _ h' => ⟨F', ι', s', R', x', h'⟩
  · have e : i = ds.length := by omega
    subst e
    refine .inl ⟨st (Nat.le_refl _), ?_⟩
    rw [List.drop_length] at h2
    exact h2 F H2 ι σ2 R2 x2
/-! what is walked -/
def itL (f : VE) (s : S) : Res (List D) := (f s).bind fun d s => match d with
  | .lst ds => .ok ds s
  | _ => .bad
def itT (f : VE) (s : S) : Res (List D) := (f s).bind fun d s => match d with
  | .tup ds => .ok ds s
  | _ => .bad
theorem i_list (he : E' X W iter f) : I' X W tg iter (itL f) := by
  refine imI (pi_list he) fun σ H Q ⟨F, ι, s, R, h⟩ => ?_
  refine Post.run R h fun F1 H1 ι₁ s1 v d R1 x1 q1 h1 => ?_
  cases q1 with
  | @lst a vs ds hs r =>
    refine ⟨a, rfl, ⟨vs, .of (R1.same _ _ hs)⟩, Post.fin h1 R1 fun i F2 H2 ι₂ s2 σ2 R2 sF gr => ?_⟩
    have hs2 : SqL X.K H2 a vs := .of (R2.same _ _ (sF _ _ hs))
    have hl := r.length
    refine ⟨fun hi => ?_, fun hi => ⟨vs, hs2, by omega⟩, fun x H' y hi => ?_⟩
    · exact ⟨vs, vs[i]'(by omega), hs2, List.getElem?_eq_getElem _⟩
    · obtain ⟨rfl, y⟩ := y
      obtain ⟨d, e1, e2⟩ := r.get' (y vs hs2)
      exact ⟨F2, ι₂, d, R2, .refl _ _ _, e1, e2.mono sF gr⟩
  | _ => exact h1.elim
theorem i_tup (he : E' X W iter f) : I' X W tg iter (itT f) := by
  refine imI (pi_tup he) fun σ H Q ⟨F, ι, s, R, h⟩ => ?_
  refine Post.run R h fun F1 H1 ι₁ s1 v d R1 x1 q1 h1 => ?_
  cases q1 with
  | @tup a vs ds hs r =>
    refine ⟨a, rfl, ⟨vs, sqT_mono R1.same hs⟩, Post.fin h1 R1 fun i F2 H2 ι₂ s2 σ2 R2 sF gr => ?_⟩
    have hs2 : SqT X.K H2 a vs := sqT_mono R2.same (sqT_mono sF hs)
    have hl := r.length
    refine ⟨fun hi => ?_, fun hi => ⟨vs, hs2, by omega⟩, fun x H' y hi => ?_⟩
    · exact ⟨vs, vs[i]'(by omega), hs2, List.getElem?_eq_getElem _⟩
    · obtain ⟨rfl, y⟩ := y
      obtain ⟨d, e1, e2⟩ := r.get' (y vs hs2)
      exact ⟨F2, ι₂, d, R2, .refl _ _ _, e1, e2.mono sF gr⟩
  | _ => exact h1.elim
/-- lo, lo + 1, .. -/
def rgD (lo : Int) (n : Nat) : List D := (List.range n).map fun i => .int (lo + (i : Nat))
def small62 (i : Int) : Prop := -(2 ^ 62) ≤ i ∧ i < 2 ^ 62
open Classical in
def itR1 (f : VA) (s : S) : Res (List D) := (f s).bind fun d s => match d with
  | [.int j] => if small62 j then .ok (rgD 0 j.toNat) s else .bad
  | _ => .bad
open Classical in
def itR2 (f : VA) (s : S) : Res (List D) := (f s).bind fun d s => match d with
  | [.int i, .int j] => if small62 i ∧ small62 j then .ok (rgD i (j - i).toNat) s else .bad
  | _ => .bad
def aNil (s : S) : Res (List D) := .ok [] s
def aCons (f : VE) (g : VA) (s : S) : Res (List D) := (f s).bind fun d s => (g s).bind fun ds s => .ok (d :: ds) s
theorem a_nil : A' X W [] aNil := imA pa_nil fun σ H Q ⟨F, ι, s, R, h⟩ => Post.fin h R .nil
theorem a_cons {a : Expr} {es : List Expr} {g : VA} (ha : E' X W a f) (hr : A' X W es g) (hs : starEach (a :: es) X.env = (false, eval a X.env) :: starEach es X.env := by rfl) : A' X W (a :: es) (aCons f g) := by
  refine imA (pa_cons ha hr hs) fun σ H Q ⟨F, ι, s, R, h⟩ => ?_
  refine Post.run R h fun F1 H1 ι₁ s1 v d R1 x1 q1 h1 => ?_
  refine Post.run R1 h1 fun F2 H2 ι₂ s2 w e R2 x2 q2 h2 => ?_
  exact Post.fin h2 R2 (.cons (q1.mono x2.sub x2.grow) q2)
theorem Rps.one_inv {K : PySem.W.Frag} {F : Hp} {ι : List Addr} {vs : List V} {d : D} (h : Rps K F ι vs [d]) : ∃ v, vs = [v] ∧ Rp K F ι v d := by
  cases h with
  | cons r t => cases t; exact ⟨_, rfl, r⟩
theorem Rps.two_inv {K : PySem.W.Frag} {F : Hp} {ι : List Addr} {vs : List V} {d e : D} (h : Rps K F ι vs [d, e]) : ∃ v w, vs = [v, w] ∧ Rp K F ι v d ∧ Rp K F ι w e := by
  cases h with
  | cons r t => obtain ⟨w, rfl, q⟩ := t.one_inv; exact ⟨_, w, rfl, r, q⟩
theorem items_rg {K : PySem.W.Frag} {F1 : Hp} {ι₁ : List Addr} {lo : Int} {n : Nat} : Items K F1 ι₁ (Itr lo n) (rgD lo n) := by
  intro i F2 H2 ι₂ s2 σ2 R2 sF gr
  have hl : (rgD lo n).length = n := by unfold rgD; rw [List.length_map, List.length_range]
  rw [hl]
  refine ⟨fun hi => hi, fun hi => hi, fun x H' y hi => ?_⟩
  obtain ⟨rfl, rfl⟩ := y
  exact ⟨F2, ι₂, .int (lo + (i : Nat)), R2, .refl _ _ _, by unfold rgD; rw [List.getElem?_map, List.getElem?_range hi]; rfl, .int _⟩
theorem i_rg1 {a : Expr} {p : Pos} {fa : VA} (hg : Gl X "range") (hm : X.mg "range" = none) (ha : A' X W [a] fa) (hs : starEach [a] X.env = [(false, eval a X.env)] := by rfl) : I' X W tg (.Call (.Name "range" p) [a] [] pos) (itR1 fa) := by
  refine imI (pi_range1 hg hm ha hs) fun σ H Q ⟨F, ι, s, R, h⟩ => ?_
  refine Post.run R h fun F1 H1 ι₁ s1 v d R1 x1 q1 h1 => ?_
  split at h1
  · rename_i j
    obtain ⟨w, rfl, r⟩ := q1.one_inv
    cases r
    split at h1
    · rename_i hc
      exact ⟨j, rfl, hc.1, hc.2, Post.fin h1 R1 items_rg⟩
    · exact h1.elim
  · exact h1.elim
theorem i_rg2 {a b : Expr} {p : Pos} {fa : VA} (hg : Gl X "range") (hm : X.mg "range" = none) (ha : A' X W [a, b] fa) (hs : starEach [a, b] X.env = [(false, eval a X.env), (false, eval b X.env)] := by rfl) (hs2 : starEach [b] X.env = [(false, eval b X.env)] := by rfl) :
    I' X W tg (.Call (.Name "range" p) [a, b] [] pos) (itR2 fa) := by
  refine imI (pi_range2 hg hm ha hs hs2) fun σ H Q ⟨F, ι, s, R, h⟩ => ?_
  refine Post.run R h fun F1 H1 ι₁ s1 v d R1 x1 q1 h1 => ?_
  split at h1
  · rename_i i j
    obtain ⟨w, w', rfl, r, r'⟩ := q1.two_inv
    cases r
    cases r'
    split at h1
    · rename_i hc
      obtain ⟨⟨c1, c2⟩, c3, c4⟩ := hc
      exact ⟨i, j, rfl, ⟨c1, c2, c3, c4⟩, Post.fin h1 R1 items_rg⟩
    · exact h1.elim
  · exact h1.elim
end

/-! ### while -/
/-- n turns at most -/
def turns (c : VB) (body : VS) : Nat → S → Option SR
  | 0, _ => none
  | n + 1, s => match c s with
    | .ok true s => (match body s with
      | .nx s => turns c body n s
      | .ct s => turns c body n s
      | .bk s => some (.nx s)
      | .rt d s => some (.rt d s)
      | .exc C fs s => some (.exc C fs s)
      | .bad => some .bad)
    | .ok false s => some (.nx s)
    | .exc C fs s => some (.exc C fs s)
    | .bad => some .bad
theorem turns_more {c : VB} {body : VS} : ∀ {n : Nat} {s : S} {r : SR}, turns c body n s = some r → turns c body (n + 1) s = some r
  | 0, _, _, h => by cases h
  | n + 1, s, r, h => by
    unfold turns at h ⊢
    cases q : c s with
    | ok b s1 =>
      rw [q] at h
      cases b with
      | false => exact h
      | true =>
        dsimp only at h ⊢
        cases q2 : body s1 with
        | nx s2 => rw [q2] at h; exact turns_more h
        | ct s2 => rw [q2] at h; exact turns_more h
        | bk s2 => rw [q2] at h; exact h
        | rt d s2 => rw [q2] at h; exact h
        | exc C fs s2 => rw [q2] at h; exact h
        | bad => rw [q2] at h; exact h
    | exc C fs s1 => rw [q] at h; exact h
    | bad => rw [q] at h; exact h
theorem turns_le {c : VB} {body : VS} {n m : Nat} {s : S} {r : SR} (h : turns c body n s = some r) (hm : n ≤ m) : turns c body m s = some r := by
  obtain ⟨k, rfl⟩ := Nat.exists_eq_add_of_le hm
  clear hm
  induction k with
  | zero => exact h
  | succ k ih => exact turns_more ih
open Classical in
/-- as many turns as it takes; bad where it never ends -/
def sWhile (c : VB) (body : VS) (s : S) : SR := if h : ∃ n r, turns c body n s = some r then h.choose_spec.choose else .bad
theorem while_is {c : VB} {body : VS} {n : Nat} {s : S} {r : SR} (h : turns c body n s = some r) : sWhile c body s = r := by
  have hx : ∃ n r, turns c body n s = some r := ⟨n, r, h⟩
  unfold sWhile
  rw [dif_pos hx]
  have e := hx.choose_spec.choose_spec
  have e1 := turns_le e (Nat.le_max_left hx.choose n)
  have e2 := turns_le h (Nat.le_max_right hx.choose n)
  rw [e1] at e2
  exact Option.some.inj e2
/-- one turn of it -/
theorem while_eq (c : VB) (body : VS) (s : S) : sWhile c body s = match c s with
    | .ok true s => (match body s with
      | .nx s => sWhile c body s
      | .ct s => sWhile c body s
      | .bk s => .nx s
      | .rt d s => .rt d s
      | .exc C fs s => .exc C fs s
      | .bad => .bad)
    | .ok false s => .nx s
    | .exc C fs s => .exc C fs s
    | .bad => .bad := by
  have one : ∀ s1 : S, (∀ n r, turns c body n s1 = some r → ∃ m, turns c body m s = some r) → (∀ n r, turns c body (n + 1) s = some r → turns c body n s1 = some r) → sWhile c body s = sWhile c body s1 := fun s1 h1 h2 => by
    by_cases hx : ∃ n r, turns c body n s1 = some r
    · obtain ⟨n, r, h⟩ := hx
      obtain ⟨m, h'⟩ := h1 n r h
      rw [while_is h, while_is h']
    · have hy : ¬ ∃ n r, turns c body n s = some r := fun ⟨n, r, h⟩ => hx ⟨n, r, h2 n r (turns_more h)⟩
      unfold sWhile
      rw [dif_neg hx, dif_neg hy]
  cases q : c s with
  | ok b s1 =>
    cases b with
    | false => exact while_is (n := 1) (by unfold turns; rw [q])
    | true =>
      dsimp only
      cases q2 : body s1 with
      | nx s2 => exact one s2 (fun n r h => ⟨n + 1, by unfold turns; rw [q]; dsimp only; rw [q2]; exact h⟩) fun n r h => by unfold turns at h; rw [q] at h; dsimp only at h; rw [q2] at h; exact h
      | ct s2 => exact one s2 (fun n r h => ⟨n + 1, by unfold turns; rw [q]; dsimp only; rw [q2]; exact h⟩) fun n r h => by unfold turns at h; rw [q] at h; dsimp only at h; rw [q2] at h; exact h
      | bk s2 => exact while_is (n := 1) (by unfold turns; rw [q]; dsimp only; rw [q2])
      | rt d s2 => exact while_is (n := 1) (by unfold turns; rw [q]; dsimp only; rw [q2])
      | exc C fs s2 => exact while_is (n := 1) (by unfold turns; rw [q]; dsimp only; rw [q2])
      | bad => exact while_is (n := 1) (by unfold turns; rw [q]; dsimp only; rw [q2])
  | exc C fs s1 => exact while_is (n := 1) (by unfold turns; rw [q])
  | bad => exact while_is (n := 1) (by unfold turns; rw [q])
section
variable {X : Cx} {W : WX} {pos : Pos} {e : Expr} {bs : List Stmt} {c : VB} {body : VS}
theorem s_while (hp : PassesOwn (model X.prog X.w) X.A X.env X.xe) (hc : T' X W e c) (hb : B' X W bs body) : S' X W (.While e bs [] pos) (sWhile c body) := by
  refine imS (ps_while hp hc hb) fun Dn σ H ⟨F, ι, s, R, h⟩ => ?_
  let I : Nat → L2.St → Hp → Prop := fun m σ' H' => ∃ F' ι' s' r, Rel X.K F' H' ι' s' σ' ∧ Ext F H ι F' H' ι' ∧ turns c body m s' = some r ∧ PostS X.K W F H ι r Dn
  have hx : ∃ n r, turns c body n s = some r := by
    apply Classical.byContradiction
    intro hn
    unfold sWhile at h
    rw [dif_neg hn] at h
    exact h
  obtain ⟨n, r, hr⟩ := hx
  refine ⟨I, ⟨n, F, ι, s, r, R, .refl _ _ _, hr, by rw [← while_is hr]; exact h⟩, ?_⟩
  rintro m σ1 H1 ⟨F1, ι₁, s1, r1, R1, x1, e1, p1⟩
  cases m with
  | zero => cases e1
  | succ m =>
    refine ⟨F1, ι₁, s1, R1, ?_⟩
    unfold turns at e1
    cases q : c s1 with
    | ok b s2 =>
      rw [q] at e1
      cases b with
      | false =>
        cases e1
        intro F2 H2 ι₂ v R2 x2 e2
        subst e2
        exact iteF (p1 F2 H2 ι₂ σ1 R2 (x1.trans x2))
      | true =>
        intro F2 H2 ι₂ v R2 x2 e2
        subst e2
        refine iteT ⟨I m, fun σ' H' i' => ⟨m, Nat.lt_succ_self _, i'⟩, F2, ι₂, s2, R2, ?_⟩
        dsimp only at e1
        cases q2 : body s2 with
        | nx s3 => rw [q2] at e1; exact fun F' H' ι' σ' R' x' => ⟨F', ι', s3, r1, R', x1.trans (x2.trans x'), e1, p1⟩
        | ct s3 => rw [q2] at e1; exact fun F' H' ι' σ' R' x' => ⟨F', ι', s3, r1, R', x1.trans (x2.trans x'), e1, p1⟩
        | bk s3 => rw [q2] at e1; cases e1; exact fun F' H' ι' σ' R' x' => p1 F' H' ι' σ' R' (x1.trans (x2.trans x'))
        | rt d s3 => rw [q2] at e1; cases e1; exact fun F' H' ι' σ' v R' x' z => p1 F' H' ι' σ' v R' (x1.trans (x2.trans x')) z
        | exc C fs s3 => rw [q2] at e1; cases e1; exact fun F' H' ι' σ' cls dx R' x' z => p1 F' H' ι' σ' cls dx R' (x1.trans (x2.trans x')) z
        | bad => rw [q2] at e1; cases e1; exact p1.elim
    | exc C fs s2 =>
      rw [q] at e1
      cases e1
      exact fun F' H' ι' cls dx R' x' z => p1 F' H' ι' σ1 cls dx R' (x1.trans x') z
    | bad =>
      rw [q] at e1
      cases e1
      exact p1.elim
end
end
end VL

set_option Elab.async false
set_option linter.all false
set_option maxRecDepth 20000
/-! Displays, items, slices, calls, comprehensions, what a def promises. -/
namespace VL
open PySem PyProof.Rows PySem.Spec L2
noncomputable section

/-! ### new lists, tuples -/
/-- a new list: m: it will be changed -/
def newL (m : Bool) (ds : List D) (s : S) : Res D := if m = true then .ok (.ptr s.η.length) ⟨s.ρ, s.η ++ [.lst ds]⟩ else .ok (.lst ds) s
section
variable {K : PySem.W.Frag} {W : WX} {F H : Hp} {ι : List Addr} {s : S} {σ : L2.St} {Q : VK}
theorem new_lst {m : Bool} {vs : List V} {ds : List D} (R : Rel K F H ι s σ) (r : Rps K F ι vs ds) (h : PostE K W F H ι σ (newL m ds s) Q) : ∀ p, H p = none → Q (.ref p) (upd H p (.lst vs)) := fun p hp => by
  unfold newL at h
  cases m with
  | false =>
    rw [if_neg Bool.false_ne_true] at h
    obtain ⟨R', x⟩ := R.allocF (o := .lst vs) hp
    exact Post.fin' h R' x (.lst upd_same (r.mono x.sub (.refl ι)))
  | true =>
    rw [if_pos rfl] at h
    obtain ⟨R', x⟩ := R.allocM (o := .lst vs) (c := .lst ds) hp ⟨(R.new hp).1, vs, upd_same, r.mono (.refl F) (.app ι [p])⟩
    refine Post.fin' h R' x (.ptr ?_)
    rw [← R.ilen, List.getElem?_append_right (Nat.le_refl _), Nat.sub_self]
    rfl
theorem new_tup {vs : List V} {ds : List D} (R : Rel K F H ι s σ) (r : Rps K F ι vs ds) (h : PostE K W F H ι σ (.ok (.tup ds) s) Q) : ∀ p, H p = none → Q (.ref p) (upd H p (.tup vs)) := fun p hp => by
  obtain ⟨R', x⟩ := R.allocF (o := .tup vs) hp
  exact Post.fin' h R' x (.tup (.of upd_same) (r.mono x.sub (.refl ι)))
end
open Classical in
def eTup (f : VA) (s : S) : Res D := (f s).bind fun ds s => if ds.length ≤ sizeLine then .ok (.tup ds) s else .bad
open Classical in
def eLst (m : Bool) (f : VA) (s : S) : Res D := (f s).bind fun ds s => if ds.length ≤ sizeLine then newL m ds s else .bad
section
variable {X : Cx} {W : WX} {pos : Pos} {es : List Expr} {f : VA}
theorem v_tup {k} (h : A' X W es f) : E' X W (.Tuple es k pos) (eTup f) := by
  refine imE (pe_tup h) fun σ H Q ⟨F, ι, s, R, h⟩ => ?_
  refine Post.run R h fun F1 H1 ι₁ s1 vs ds R1 x1 q1 h1 => ?_
  split at h1
  · rename_i hl
    exact ⟨by rw [q1.length]; exact hl, new_tup R1 q1 h1⟩
  · exact h1.elim
theorem v_lst (m : Bool) (h : A' X W es f) : E' X W (.List es pos) (eLst m f) := by
  refine imE (pe_lst h) fun σ H Q ⟨F, ι, s, R, h⟩ => ?_
  refine Post.run R h fun F1 H1 ι₁ s1 vs ds R1 x1 q1 h1 => ?_
  split at h1
  · rename_i hl
    exact ⟨by rw [q1.length]; exact hl, new_lst R1 q1 h1⟩
  · exact h1.elim
end

/-! ### items, slices -/
theorem Rps.atI {K : PySem.W.Frag} {F : Hp} {ι : List Addr} {vs : List V} {ds : List D} {i : Int} {d : D} (r : Rps K F ι vs ds) (h : atI ds i = some d) : ∃ v, L2.atI vs i = some v ∧ Rp K F ι v d := by
  unfold L2.atI at h ⊢
  rw [r.length]
  cases e : ixN ds.length i with
  | none => rw [e] at h; cases h
  | some j =>
    rw [e] at h
    exact r.get h
open Classical in
def kIx (a b : D) (s : S) : Res D := match look s a, b with
  | .lst ds, .int i => (match atI ds i with
    | some d => .ok d s
    | none => .bad)
  | .tup ds, .int i => (match atI ds i with
    | some d => .ok d s
    | none => .bad)
  | .str z, .int i => if z.length ≤ sizeLine then (match atI z.cps.toList i with
    | some c => .ok (.str ⟨#[c]⟩) s
    | none => .bad) else .bad
  | _, _ => .bad
section
variable {X : Cx} {W : WX} {pos : Pos} {a b : Expr} {f g : VE}
theorem o_ix : Op2 X W (rIx X.K) kIx := by
  intro F H ι σ s v w a b Q R p q z
  have y := R.at p
  unfold kIx at z
  split at z
  · rename_i ds i e
    rw [e] at y
    cases q
    obtain ⟨t, vs, rfl, hs, r⟩ := y.lstD R.same
    split at z
    · rename_i d e2
      obtain ⟨u, e3, r3⟩ := r.atI e2
      exact .inl ⟨t, vs, i, u, rfl, rfl, .of hs, e3, Post.fin z R r3⟩
    · exact z.elim
  · rename_i ds i e
    rw [e] at y
    cases q
    obtain ⟨t, vs, rfl, hs, r⟩ := y.tupD R.same
    split at z
    · rename_i d e2
      obtain ⟨u, e3, r3⟩ := r.atI e2
      exact .inr (.inl ⟨t, vs, i, u, rfl, rfl, hs, e3, Post.fin z R r3⟩)
    · exact z.elim
  · rename_i x i e
    rw [e] at y
    cases q
    rw [y.strD]
    split at z
    · rename_i hl
      split at z
      · rename_i c e2
        exact .inr (.inr ⟨x, i, c, rfl, rfl, hl, e2, Post.fin z R (.str _)⟩)
      · exact z.elim
    · exact z.elim
  · exact z.elim
theorem v_ix (ha : E' X W a f) (hb : E' X W b g) (hs : PlainIx b := by intro _ _; rfl) : E' X W (.Subscript a b pos) (e2 kIx f g) :=
  imE (pe_ix ix_seq ha hb hs) fun σ H Q h => two_run h fun F H ι s v w a b R p q z => o_ix F H ι σ s v w a b Q R p q z
/-- a slice's part -/
def VO := S → Res (Option Int)
abbrev O' (X : Cx) (W : WX) (e : Option Expr) (f : S → Res (Option Int)) : Prop := PO X e (tG X.K W (fun _ _ (v : Option Int) (d : Option Int) => v = d) f)
def oNone (s : S) : Res (Option Int) := .ok none s
def oSome (f : VE) (s : S) : Res (Option Int) := (f s).bind fun d s => match d with
  | .int i => .ok (some i) s
  | _ => .bad
theorem imO {e : Option Expr} {t t' : TO} (h : PO X e t) (i : ∀ σ H Q, t' σ H Q → t σ H Q) : PO X e t' := ⟨fun pins s σ H Q I q => h.run pins s σ H Q I (i σ H Q q)⟩
theorem o_none : O' X W none oNone := imO po_none fun σ H Q ⟨F, ι, s, R, h⟩ => Post.fin h R rfl
theorem o_some (h : E' X W a f) : O' X W (some a) (oSome f) := by
  refine imO (po_some h) fun σ H Q ⟨F, ι, s, R, h⟩ => ?_
  refine Post.run R h fun F1 H1 ι₁ s1 v d R1 x1 q1 h1 => ?_
  cases q1 <;> first | exact h1.elim | exact ⟨_, rfl, Post.fin h1 R1 rfl⟩
def cutD {α : Type} (xs : List α) (lo hi : Option Int) : List α := (xs.drop (HT.sIx xs.length 0 lo)).take (HT.sIx xs.length xs.length hi - HT.sIx xs.length 0 lo)
theorem Rps.cut {K : PySem.W.Frag} {F : Hp} {ι : List Addr} {vs : List V} {ds : List D} (r : Rps K F ι vs ds) (lo hi : Option Int) : Rps K F ι (cutV vs lo hi) (cutD ds lo hi) := by
  unfold cutV cutD
  rw [r.length]
  exact (r.drop _).take _
open Classical in
def kSl (m : Bool) (a : D) (lo hi : Option Int) (s : S) : Res D := match look s a with
  | .lst ds => newL m (cutD ds lo hi) s
  | .scr ds => newL m (cutD ds lo hi) s
  | .str z => if z.length ≤ sizeLine then .ok (.str (cutS z lo hi)) s else .bad
  | .tup ds => if (cutD ds lo hi).length < ds.length then .ok (.tup (cutD ds lo hi)) s else .bad
  | _ => .bad
def eSl (m : Bool) (f : VE) (l h : S → Res (Option Int)) (s : S) : Res D := (f s).bind fun d s => (l s).bind fun lo s => (h s).bind fun hi s => kSl m d lo hi s
abbrev rSl3 (K : PySem.W.Frag) : V → Option Int → Option Int → Hp → VK → Prop := fun x lo hi H Q => rSlL K x lo hi H Q ∨ (rSlS x lo hi H Q ∨ rSlT K x lo hi H Q)
theorem v_sl (m : Bool) {lo hi : Option Expr} {p2 : Pos} {l h : S → Res (Option Int)} (ha : E' X W a f) (hl : O' X W lo l) (hh : O' X W hi h) : E' X W (.Subscript a (.Slice lo hi none p2) pos) (eSl m f l h) := by
  refine imE (pe_slice (sl_list.or (sl_str.or sl_tup)) ha hl hh) fun σ H Q ⟨F, ι, s, R, z⟩ => ?_
  refine Post.run R z fun F1 H1 ι₁ s1 v d R1 x1 q1 h1 => ?_
  refine Post.run R1 h1 fun F2 H2 ι₂ s2 lo' lo R2 x2 q2 h2 => ?_
  refine Post.run R2 h2 fun F3 H3 ι₃ s3 hi' hi R3 x3 q3 h3 => ?_
  subst q2 q3
  have x23 := x2.trans x3
  have y := R3.at (q1.mono x23.sub x23.grow)
  unfold kSl at h3
  split at h3
  · rename_i ds e
    rw [e] at y
    obtain ⟨t, vs, rfl, hs, r⟩ := y.lstD R3.same
    exact .inl ⟨t, vs, rfl, .of hs, new_lst R3 (r.cut _ _) h3⟩
  · rename_i ds e
    rw [e] at y
    obtain ⟨t, vs, rfl, hs, r⟩ := y.scrD R3.same
    exact .inl ⟨t, vs, rfl, hs, new_lst R3 (r.cut _ _) h3⟩
  · rename_i x e
    rw [e] at y
    rw [y.strD]
    split at h3
    · rename_i hl
      exact .inr (.inl ⟨x, rfl, hl, Post.fin h3 R3 (.str _)⟩)
    · exact h3.elim
  · rename_i ds e
    rw [e] at y
    obtain ⟨t, vs, rfl, hs, r⟩ := y.tupD R3.same
    split at h3
    · rename_i hlt
      have hr := r.cut lo' hi'
      refine .inr (.inr ⟨t, vs, rfl, hs, ?_⟩)
      have hlt2 : (cutV vs lo' hi').length < vs.length := by rw [hr.length, r.length]; exact hlt
      exact ⟨fun ⟨c1, c2⟩ => absurd hlt2 (by unfold cutV; rw [c1, c2]; simp), new_tup R3 hr h3⟩
    · exact h3.elim
  · exact h3.elim
end

/-! ### built-in functions and methods -/
/-- what a built-in gives for data -/
def OpN (X : Cx) (W : WX) (r : List V → Hp → VK → Prop) (k : List D → S → Res D) : Prop := ∀ F H ι σ s vs ds Q, Rel X.K F H ι s σ → Rps X.K F ι vs ds → PostE X.K W F H ι σ (k ds s) Q → r vs H Q
def eCall (k : List D → S → Res D) (f : VA) (s : S) : Res D := (f s).bind k
section
variable {X : Cx} {W : WX} {pos p : Pos} {x : Str} {e : Expr} {es : List Expr} {f : VA} {id T : String} {r : List V → Hp → VK → Prop} {k : List D → S → Res D}
theorem v_callB (hc : CallR X (.builtin id) r) (hk : OpN X W r k) (hm : X.mg x = none) (ha : A' X W (e :: es) f) (hg : Gl X x := by rfl) (hv : bootBuiltins x = some (.builtin id) := by decide +kernel) (hn : x ≠ "__name__" := by decide) (hdb : (x == ("__debug__" : Str)) = false := by decide)
    (he : starEach (e :: es) X.env = (false, eval e X.env) :: starEach es X.env := by rfl) (hpl : (backTo pos (starEach es X.env)).any (·.1) = false := by rfl) : E' X W (.Call (.Name x p) (e :: es) [] pos) (eCall k f) := by
  refine imE (pe_callB hc hg hm hv ha hn hdb he hpl) fun σ H Q ⟨F, ι, s, R, z⟩ => ?_
  exact Post.run R z fun F1 H1 ι₁ s1 vs ds R1 x1 q1 h1 => hk F1 H1 ι₁ σ s1 vs ds Q R1 q1 h1
theorem v_callTy (hc : CallR X (.type T) r) (hk : OpN X W r k) (hm : X.mg x = none) (ha : A' X W (e :: es) f) (hg : Gl X x := by rfl) (hv : bootBuiltins x = some (.type T) := by decide +kernel) (hn : x ≠ "__name__" := by decide) (hdb : (x == ("__debug__" : Str)) = false := by decide)
    (he : starEach (e :: es) X.env = (false, eval e X.env) :: starEach es X.env := by rfl) (hpl : (backTo pos (starEach es X.env)).any (·.1) = false := by rfl) : E' X W (.Call (.Name x p) (e :: es) [] pos) (eCall k f) := by
  refine imE (pe_callTy hc hg hm hv ha hn hdb he hpl) fun σ H Q ⟨F, ι, s, R, z⟩ => ?_
  exact Post.run R z fun F1 H1 ι₁ s1 vs ds R1 x1 q1 h1 => hk F1 H1 ι₁ σ s1 vs ds Q R1 q1 h1
end
open Classical in
def kLen (ds : List D) (s : S) : Res D := match ds with
  | [d] => (match look s d with
    | .lst xs => .ok (.int xs.length) s
    | .scr xs => .ok (.int xs.length) s
    | .tup xs => .ok (.int xs.length) s
    | .str z => if z.length ≤ sizeLine then .ok (.int z.length) s else .bad
    | _ => .bad)
  | _ => .bad
def kAbs (ds : List D) (s : S) : Res D := match ds with
  | [.int i] => .ok (.int (if i < 0 then -i else i)) s
  | _ => .bad
def kMax2 (ds : List D) (s : S) : Res D := match ds with
  | [.int i, .int j] => .ok (.int (if j > i then j else i)) s
  | _ => .bad
def kMin2 (ds : List D) (s : S) : Res D := match ds with
  | [.int i, .int j] => .ok (.int (if j < i then j else i)) s
  | _ => .bad
def kIntOf (ds : List D) (s : S) : Res D := match ds with
  | [.int i] => .ok (.int i) s
  | [.bl b] => .ok (.int (if b then 1 else 0)) s
  | _ => .bad
section
variable {X : Cx} {W : WX} {pos p : Pos} {e : Expr} {es : List Expr} {f : VA}
theorem o_len : OpN X W (fun xs H Q => ∃ x n, xs = [x] ∧ LenV X.K x H n ∧ Q (.int n) H) kLen := by
  intro F H ι σ s vs ds Q R q z
  unfold kLen at z
  split at z
  · rename_i d
    obtain ⟨v, rfl, q1⟩ := q.one_inv
    have y := R.at q1
    split at z
    · rename_i xs e
      rw [e] at y
      obtain ⟨t, vs, rfl, hs, r⟩ := y.lstD R.same
      exact ⟨_, xs.length, rfl, .inl ⟨vs, .of hs, r.length.symm⟩, Post.fin z R (.int _)⟩
    · rename_i xs e
      rw [e] at y
      obtain ⟨t, vs, rfl, hs, r⟩ := y.scrD R.same
      exact ⟨_, xs.length, rfl, .inl ⟨vs, hs, r.length.symm⟩, Post.fin z R (.int _)⟩
    · rename_i xs e
      rw [e] at y
      obtain ⟨t, vs, rfl, hs, r⟩ := y.tupD R.same
      exact ⟨_, xs.length, rfl, .inr ⟨vs, hs, r.length.symm⟩, Post.fin z R (.int _)⟩
    · rename_i x e
      rw [e] at y
      rw [y.strD]
      split at z
      · rename_i hl
        exact ⟨_, x.length, rfl, ⟨hl, rfl⟩, Post.fin z R (.int _)⟩
      · exact z.elim
    · exact z.elim
  · exact z.elim
theorem v_len (hm : X.mg "len" = none) (ha : A' X W [e] f) (hg : Gl X "len" := by rfl) (he : starEach [e] X.env = (false, eval e X.env) :: starEach [] X.env := by rfl) : E' X W (.Call (.Name "len" p) [e] [] pos) (eCall kLen f) := v_callB call_len o_len hm ha hg (he := he)
theorem v_abs (hm : X.mg "abs" = none) (ha : A' X W [e] f) (hg : Gl X "abs" := by rfl) (he : starEach [e] X.env = (false, eval e X.env) :: starEach [] X.env := by rfl) : E' X W (.Call (.Name "abs" p) [e] [] pos) (eCall kAbs f) := by
  refine v_callB call_abs (fun F H ι σ s vs ds Q R q z => ?_) hm ha hg (he := he)
  unfold kAbs at z
  split at z
  · obtain ⟨v, rfl, q1⟩ := q.one_inv
    cases q1
    exact ⟨_, rfl, Post.fin z R (.int _)⟩
  · exact z.elim
theorem v_max2 {e2 : Expr} (hc : X.calm = true) (hm : X.mg "max" = none) (ha : A' X W [e, e2] f) (hg : Gl X "max" := by rfl) (he : starEach [e, e2] X.env = (false, eval e X.env) :: starEach [e2] X.env := by rfl) (hpl : (backTo pos (starEach [e2] X.env)).any (·.1) = false := by rfl) : E' X W (.Call (.Name "max" p) [e, e2] [] pos) (eCall kMax2 f) := by
  refine v_callB (call_max2 hc) (fun F H ι σ s vs ds Q R q z => ?_) hm ha hg (he := he) (hpl := hpl)
  unfold kMax2 at z
  split at z
  · obtain ⟨v, w, rfl, q1, q2⟩ := q.two_inv
    cases q1
    cases q2
    exact ⟨_, _, rfl, Post.fin z R (.int _)⟩
  · exact z.elim
theorem v_min2 {e2 : Expr} (hc : X.calm = true) (hm : X.mg "min" = none) (ha : A' X W [e, e2] f) (hg : Gl X "min" := by rfl) (he : starEach [e, e2] X.env = (false, eval e X.env) :: starEach [e2] X.env := by rfl) (hpl : (backTo pos (starEach [e2] X.env)).any (·.1) = false := by rfl) : E' X W (.Call (.Name "min" p) [e, e2] [] pos) (eCall kMin2 f) := by
  refine v_callB (call_min2 hc) (fun F H ι σ s vs ds Q R q z => ?_) hm ha hg (he := he) (hpl := hpl)
  unfold kMin2 at z
  split at z
  · obtain ⟨v, w, rfl, q1, q2⟩ := q.two_inv
    cases q1
    cases q2
    exact ⟨_, _, rfl, Post.fin z R (.int _)⟩
  · exact z.elim
theorem v_intOf (hm : X.mg "int" = none) (ha : A' X W [e] f) (hg : Gl X "int" := by rfl) (he : starEach [e] X.env = (false, eval e X.env) :: starEach [] X.env := by rfl) : E' X W (.Call (.Name "int" p) [e] [] pos) (eCall kIntOf f) := by
  refine v_callTy call_int1 (fun F H ι σ s vs ds Q R q z => ?_) hm ha hg (he := he)
  unfold kIntOf at z
  split at z
  · obtain ⟨v, rfl, q1⟩ := q.one_inv
    cases q1
    exact .inl ⟨_, rfl, Post.fin z R (.int _)⟩
  · obtain ⟨v, rfl, q1⟩ := q.one_inv
    cases q1
    exact .inr ⟨_, rfl, Post.fin z R (.int _)⟩
  · exact z.elim
end
/-- a built-in type's method -/
def eMeth (k : D → List D → S → Res D) (f : VE) (g : VA) (s : S) : Res D := (f s).bind fun d s => (g s).bind fun ds s => k d ds s
open Classical in
def kApp (d : D) (ds : List D) (s : S) : Res D := match d, ds with
  | .ptr j, [x] => (match s.η[j]? with
    | some (.lst xs) => if xs.length < sizeLine then .ok .non ⟨s.ρ, s.η.set j (.lst (xs ++ [x]))⟩ else .bad
    | _ => .bad)
  | _, _ => .bad
def eApp (f : VE) (g : VA) (s : S) : Res D := (f s).bind fun d s => match look s d with
  | .lst _ => (g s).bind fun ds s => kApp d ds s
  | _ => .bad
section
variable {K : PySem.W.Frag} {W : WX} {F H : Hp} {ι : List Addr} {s : S} {σ : L2.St}
theorem Rel.cellL (R : Rel K F H ι s σ) {v : V} {j : Nat} {xs : List D} (p : Rp K F ι v (.ptr j)) (e : s.η[j]? = some (.lst xs)) : ∃ a vs, v = .ref a ∧ ι[j]? = some a ∧ F a = none ∧ H a = some (.lst vs) ∧ Rps K F ι vs xs := by
  cases p with
  | ptr q =>
    obtain ⟨n, vs, h, r⟩ := R.cell j _ _ q e
    exact ⟨_, vs, rfl, q, n, h, r⟩
end
section
variable {X : Cx} {W : WX} {pos apos : Pos} {o e : Expr} {f : VE} {g : VA}
/-- xs.append(e): xs a cell -/
theorem v_app (ho : E' X W o f) (ha : A' X W [e] g) (hbase : attributeBase o "append" X.env (eval o X.env) = eval o X.env := by rfl)
    (hfew : ((backTo pos (starEach [e] X.env)).all (fun x => !x.1) && (backToKw pos (keywordEach [] X.env)).all (fun x => x.1.isSome)
      && decide (([e] : List Expr).length + ([] : List Keyword).length + (if ([] : List Keyword).isEmpty then 0 else 1) < 30)) = true := by rfl)
    (hline : (apos.endLine == pos.line) = true := by rfl) (hs : starEach [e] X.env = (false, eval e X.env) :: starEach [] X.env := by rfl) (hplain : (backTo pos (starEach [] X.env)).any (·.1) = false := by rfl) :
    E' X W (.Call (.Attribute o "append" apos) [e] [] pos) (eApp f g) := by
  refine imE (pe_bm PySem.F.plainAttrs_list PySem.F.slot_list_append PySem.F.type_list_append mt_append ho ha hbase hfew hline hs hplain) fun σ H Q ⟨F, ι, s, R, z⟩ => ?_
  refine Post.run R z fun F1 H1 ι₁ s1 v d R1 x1 q1 h1 => ?_
  have y := R1.at q1
  split at h1
  · rename_i xs0 e0
    rw [e0] at y
    obtain ⟨t, vs0, rfl, hs0, r0⟩ := y.lstD R1.same
    refine ⟨.inl ⟨rfl, vs0, .of hs0⟩, ?_⟩
    refine Post.run R1 h1 fun F2 H2 ι₂ s2 vs ds R2 x2 q2 h2 => ?_
    unfold kApp at h2
    split at h2
    · rename_i j x
      obtain ⟨w, rfl, q3⟩ := q2.one_inv
      split at h2
      · rename_i xs e
        obtain ⟨a, us, e1, hj, hF, hH, r⟩ := R2.cellL (q1.mono x2.sub x2.grow) e
        cases e1
        split at h2
        · rename_i hl
          refine ⟨t, us, w, rfl, rfl, hH, by rw [r.length]; exact hl, ?_⟩
          obtain ⟨R', x'⟩ := R2.write (o := .lst (us ++ [w])) (c' := .lst (xs ++ [x])) hj hF ⟨hF, _, upd_same, r.app (Rps.one q3)⟩
          exact Post.fin' h2 R' x' .non
        · exact h2.elim
      · exact h2.elim
    · exact h2.elim
  · exact h1.elim
end

end
end VL

set_option Elab.async false
set_option linter.all false
set_option maxRecDepth 20000
/-! Calls of the text's own defs; what a def promises; raise. -/
namespace VL
open PySem PyProof.Rows PySem.Spec L2
noncomputable section

/-! ### a def that changes nothing of its caller's -/
inductive Out where
  | ok (d : D) | exc (C : Str) (fs : List (Str × D)) | bad
abbrev PF := List D → Out
section
variable (K : PySem.W.Frag)
structure Kept (F H F' H' : Hp) : Prop where
  sF : Same F F'
  sH : Same H H'
  sm : Same F' H'
  fr : ∀ a o, F' a = some o → F a = none → H a = none
def PostF (F H : Hp) (r : Out) (Q : VK) (E : XK) : Prop := match r with
  | .ok d => ∀ F' H' v, Kept F H F' H' → Rp K F' [] v d → Q v H'
  | .exc C fs => ∀ F' H' cls dx, Kept F H F' H' → ExcAt K F' H' [] C fs cls dx → E cls dx H'
  | .bad => False
/-- called with data it answers as G says -/
def spP (n : Nat) (G : PF) : Sp := fun vs H Q E => ∃ ds F, ds.length = n ∧ Same F H ∧ Rps K F [] vs ds ∧ PostF K F H (G ds) Q E
end
def runP (n : Nat) (g : VS) (ds : List D) : Out := match g ⟨ds.map some ++ List.replicate (n - ds.length) none, []⟩ with
  | .nx _ => .ok .non
  | .rt d _ => if d.pf = true then .ok d else .bad
  | .exc C fs _ => if pfF fs = true then .exc C fs else .bad
  | _ => .bad
section
variable {K : PySem.W.Frag} {F H F' H' : Hp} {ι : List Addr} {s : S} {σ : L2.St}
theorem Ext.kept (x : Ext F H [] F' H' ι) (R : Rel K F' H' ι s σ) : Kept F H F' H' := ⟨x.sub, fun b o e => x.kp b o e (by simp), R.same, fun a o e n => by
  rcases x.fr a o e n with z | z
  · exact z
  · cases z⟩
theorem Rel.afterK (R : Rel K F H ι s σ) (k : Kept F H F' H') : Rel K F' H' ι s σ ∧ Ext F H ι F' H' ι := by
  obtain ⟨R', x⟩ := R.after k.sF k.sH k.sm k.fr
  refine ⟨R', x fun a n => ?_⟩
  cases q : H a with
  | none => rfl
  | some o => rw [k.sH a o q] at n; cases n
theorem grow_nil : Grow [] ι := fun k a h => by simp at h
theorem ExcAt.free {C : Str} {fs : List (Str × D)} {cls : Value} {dx : Option Addr} (κ : List Addr) (h : ExcAt K F H ι C fs cls dx) (p : pfF fs = true) : ExcAt K F H κ C fs cls dx := by
  obtain ⟨e, z⟩ := h
  refine ⟨e, z.imp id fun ⟨n, a, fv, e1, e2, r⟩ => ⟨n, a, fv, e1, e2, r.free κ p⟩⟩
theorem ExcAt.grow {C : Str} {fs : List (Str × D)} {cls : Value} {dx : Option Addr} {κ : List Addr} (h : ExcAt K F H ι C fs cls dx) (g : Grow ι κ) : ExcAt K F H κ C fs cls dx := by
  obtain ⟨e, z⟩ := h
  refine ⟨e, z.imp id fun ⟨n, a, fv, e1, e2, r⟩ => ⟨n, a, fv, e1, e2, r.mono (.refl F) g⟩⟩
/-- a def's entry -/
theorem Rel.entry {N : List Str} {vs : List V} {ds : List D} (e : Same F H) (r : Rps K F [] vs ds) (hl : ds.length ≤ N.length) : Rel K F H [] ⟨ds.map some ++ List.replicate (N.length - ds.length) none, []⟩ (L2.start N vs) := by
  have hlen := r.length
  refine ⟨e, fun i d q => ?_, ?_, rfl, fun k a c q => by simp at q, List.nodup_nil⟩
  · have q2 : (ds.map some ++ List.replicate (N.length - ds.length) none)[i]? = some (some d) := q
    have hi : i < ds.length := by
      apply Classical.byContradiction
      intro hn
      rw [List.getElem?_append_right (by simpa using hn), List.getElem?_replicate] at q2
      split at q2 <;> cases q2
    rw [List.getElem?_append_left (by simpa using hi), List.getElem?_map] at q2
    obtain ⟨d', e1, e2⟩ := Option.map_eq_some_iff.mp q2
    cases e2
    obtain ⟨v, e3, e4⟩ := r.get e1
    refine ⟨v, ?_, e4⟩
    unfold L2.start
    rw [List.getElem?_append_left (by rw [List.length_map]; omega), List.getElem?_map, e3]
    rfl
  · show (L2.start N vs).length = (ds.map some ++ List.replicate (N.length - ds.length) none).length
    unfold L2.start
    simp only [List.length_append, List.length_map, List.length_replicate]
    omega
end
section
variable {P : Program} {w : World} {K : PySem.W.Frag} {mg : Str → Option Value} {base : Heap} {x qual : Str} {params : Arguments} {body : List Stmt} {scope : Scope} {dvs : List V} {kws : List (Str × V)} {f : Addr} {fd : FuncData}
/-- the wish of a def's own body -/
abbrev wB (E : XK) : WX := fun cls d _ H => E cls d H
theorem tkB {N : List Str} {cdv : Value} {A : Around} {outer : List Env} {s : Shared} {H : Hp} {E : XK} : Takes (cxOf (L2.CX P w) P w K mg base N qual scope f cdv A outer s H E) (wB E) := takes_of rfl rfl rfl rfl
theorem ok_fn {N ps : List Str} {k : Nat} {g : VS} (D₀ : FunD K x qual params body scope dvs kws f fd) (S₀ : FnScope N ps scope)
    (hb : ∀ (cdv : Value) (A : Around) (outer : List Env) (s : Shared) (H : Hp) (E : XK), Room k (A.deeper (envOfC qual scope s.heap.objs.size f cdv)) → B' (cxOf (L2.CX P w) P w K mg base N qual scope f cdv A outer s H E) (wB E) body g) :
    FnOk P w K mg base (L2.CX P w) (k + 1) f fd ps (spP K ps.length (runP N.length g)) := by
  refine D₀.ok S₀ (fun vs H Q E h => ?_) (fun cdv A outer s H vs Q E hr h => ?_)
  · obtain ⟨ds, F, hl, _, r, _⟩ := h
    rw [r.length, hl]
  · obtain ⟨ds, F, hl, sm, r, p⟩ := h
    have hpl : ps.length ≤ N.length := by
      have := congrArg List.length S₀.pre
      rw [List.length_take] at this
      omega
    refine ⟨_, hb cdv A outer s H E hr, F, [], _, Rel.entry sm r (by omega), ?_⟩
    unfold runP at p
    generalize g ⟨ds.map some ++ List.replicate (N.length - ds.length) none, []⟩ = o at p
    cases o with
    | nx s' => exact fun F' H' ι' σ' R' x' => p F' H' .non (x'.kept R') .non
    | rt d s' =>
      dsimp only at p
      split at p
      · rename_i hp
        exact fun F' H' ι' σ' v R' x' q => p F' H' v (x'.kept R') (q.free [] hp)
      · exact p.elim
    | exc C fs s' =>
      dsimp only at p
      split at p
      · rename_i hp
        exact fun F' H' ι' σ' cls dx R' x' q => p F' H' cls dx (x'.kept R') (q.free [] hp)
      · exact p.elim
    | bk s' => exact p.elim
    | ct s' => exact p.elim
    | bad => exact p.elim
end
def callP (G : PF) (f : VA) (s : S) : Res D := (f s).bind fun ds s => if pfs ds = true then (match G ds with
  | .ok d => .ok d s
  | .exc C fs => .exc C fs s
  | .bad => .bad) else .bad
theorem pfs_app : ∀ {a b : List D}, pfs (a ++ b) = true → pfs a = true ∧ pfs b = true
  | [], b, h => ⟨rfl, h⟩
  | d :: a, b, h => by
    have h2 : (d.pf && pfs (a ++ b)) = true := h
    obtain ⟨h3, h4⟩ := and_t h2
    obtain ⟨h5, h6⟩ := pfs_app h4
    exact ⟨by show (d.pf && pfs a) = true; rw [h3, h5]; rfl, h6⟩
section
variable {X : Cx} {W : WX} {k n : Nat} {f : Addr} {fd : FuncData} {ps : List Str} {ds : List Value} {dvs : List V} {dds : List D} {x : Str} {p pos : Pos} {e : Expr} {es : List Expr} {fa : VA} {G : PF}
/-- f(e, ..); dds: the defaults that stand for what is not given -/
theorem v_callD (F₀ : FnOk X.prog X.w X.K X.mg X.base (L2.CX X.prog X.w) k f fd ps (spP X.K ps.length G)) (hr : Room k X.A) (hm : X.mg x = some (.ref f)) (hk : PySem.W.keepIn X.K (.ref f) = true) (hb : L2.Binds X.K fd ps ds) (hd : Vals dvs ds)
    (hdd : ∀ F, Rps X.K F [] dvs dds) (tk : Takes X W) (ha : A' X W (e :: es) fa) (hn : ∀ s ls s', fa s = .ok ls s' → (ls ++ dds).length = ps.length) (hg : Gl X x := by rfl)
    (hdb : (x == ("__debug__" : Str)) = false := by decide) (he : starEach (e :: es) X.env = (false, eval e X.env) :: starEach es X.env := by rfl) (hpl : (backTo pos (starEach es X.env)).any (·.1) = false := by rfl) :
    E' X W (.Call (.Name x p) (e :: es) [] pos) (callP (fun ls => G (ls ++ dds)) fa) := by
  refine imE (pe_callSD F₀ hr hg hm hk hb hd (passAt tk) ha hdb he hpl) fun σ H Q ⟨F, ι, s, R, z⟩ => ?_
  refine ⟨F, ι, s, R, ?_⟩
  have hz : PostE X.K W F H ι σ (callP (fun ls => G (ls ++ dds)) fa s) Q := z
  unfold callP at hz
  cases q : fa s with
  | ok ls s1 =>
    rw [q, bind_ok] at hz
    intro F1 H1 ι₁ vs R1 x1 q1
    have z1 := Post.ref hz x1
    split at z1
    · rename_i hp
      refine ⟨ls ++ dds, F1, hn s ls s1 q, R1.same, (q1.free [] hp).app (hdd F1), ?_⟩
      dsimp only at z1
      cases e : G (ls ++ dds) with
      | ok d =>
        rw [e] at z1
        intro F' H' v kp r
        obtain ⟨R', x'⟩ := R1.afterK kp
        exact Post.fin' z1 R' x' (r.mono (.refl F') grow_nil)
      | exc C fs =>
        rw [e] at z1
        intro F' H' cls dx kp r
        obtain ⟨R', x'⟩ := R1.afterK kp
        exact z1 F' H' ι₁ cls dx R' x' (r.grow grow_nil)
      | bad => rw [e] at z1; exact z1.elim
    · exact z1.elim
  | exc C fs s1 => rw [q, bind_exc] at hz; exact hz
  | bad => rw [q, bind_bad] at hz; exact hz
/-- how many arguments stand there -/
def ArgN (fa : VA) (n : Nat) : Prop := ∀ s ls s', fa s = .ok ls s' → ls.length = n
theorem argN_nil : ArgN aNil 0 := fun s ls s' h => by cases h; rfl
theorem argN_cons {fe : VE} {n : Nat} (h : ArgN fa n) : ArgN (aCons fe fa) (n + 1) := fun s ls s' q => by
  unfold aCons at q
  cases e1 : fe s with
  | ok d s1 =>
    rw [e1, bind_ok] at q
    cases e2 : fa s1 with
    | ok l2 s2 => rw [e2, bind_ok] at q; cases q; rw [List.length_cons, h _ _ _ e2]
    | exc C fs s2 => rw [e2] at q; cases q
    | bad => rw [e2] at q; cases q
  | exc C fs s1 => rw [e1] at q; cases q
  | bad => rw [e1] at q; cases q
theorem v_call (F₀ : FnOk X.prog X.w X.K X.mg X.base (L2.CX X.prog X.w) k f fd ps (spP X.K ps.length G)) (hr : Room k X.A) (hm : X.mg x = some (.ref f)) (hk : PySem.W.keepIn X.K (.ref f) = true) (hb : L2.Binds X.K fd ps [])
    (tk : Takes X W) (ha : A' X W (e :: es) fa) (hn : ArgN fa ps.length) (hg : Gl X x := by rfl)
    (hdb : (x == ("__debug__" : Str)) = false := by decide) (he : starEach (e :: es) X.env = (false, eval e X.env) :: starEach es X.env := by rfl) (hpl : (backTo pos (starEach es X.env)).any (·.1) = false := by rfl) :
    E' X W (.Call (.Name x p) (e :: es) [] pos) (callP G fa) := by
  have z := v_callD (p := p) (dds := []) F₀ hr hm hk hb .nil (fun _ => .nil) tk ha (fun s ls s' q => by rw [List.append_nil]; exact hn s ls s' q) hg hdb he hpl
  have e : callP (fun ls => G (ls ++ [])) fa = callP G fa := by
    unfold callP
    simp only [List.append_nil]
  rw [e] at z
  exact z
end

/-! ### raise X('..') -/
def sRaise (C : Str) (s : S) : SR := .exc C [] s
section
variable {X : Cx} {W : WX} {pos : Pos} {e : Expr}
theorem s_raise {C : Str} (hc : X.calm = true) (tk : Takes X W) (he : PMk X e (fun _ H Q => Q (.ref (He.ga X.K C)) none H)) : S' X W (.Raise (some e) none pos) (sRaise C) :=
  imS (ps_raise hc tk he) fun Dn σ H ⟨F, ι, s, R, z⟩ => z F H ι σ _ none R (.refl _ _ _) ⟨rfl, .inl ⟨rfl, rfl⟩⟩
end

/-! ### comprehensions -/
def wipeD (ρ : List (Option D)) : List Nat → List (Option D)
  | [] => ρ
  | v :: vs => (wipeD ρ vs).set v none
section
variable {K : PySem.W.Frag} {F H F' H' : Hp} {ι ι' : List Addr} {s s' : S} {σ σ' : L2.St}
theorem Rel.drop (R : Rel K F H ι s σ) (i : Nat) : Rel K F H ι ⟨s.ρ.set i none, s.η⟩ (σ.set i none) := by
  refine ⟨R.same, fun j e q => ?_, by simp [R.len], R.ilen, R.cell, R.inj⟩
  have q2 : (s.ρ.set i none)[j]? = some (some e) := q
  by_cases hj : j = i
  · subst hj
    have hl : j < s.ρ.length := by
      have h2 := (List.getElem?_eq_some_iff.mp q2).1
      simpa using h2
    rw [List.getElem?_set_self hl] at q2
    cases q2
  · rw [List.getElem?_set_ne (Ne.symm hj)] at q2
    obtain ⟨w, e1, e2⟩ := R.env j e q2
    exact ⟨w, by rw [List.getElem?_set_ne (Ne.symm hj)]; exact e1, e2⟩
theorem Rel.wiped (R : Rel K F H ι s σ) : ∀ vs : List Nat, Rel K F H ι ⟨wipeD s.ρ vs, s.η⟩ (wipe σ vs)
  | [] => R
  | v :: vs => (Rel.wiped R vs).drop v
/-- back to the names as they stood -/
theorem Rel.back (R : Rel K F H ι s σ) (x : Ext F H ι F' H' ι') (R' : Rel K F' H' ι' s' σ') : Rel K F' H' ι' ⟨s.ρ, s'.η⟩ σ := by
  refine ⟨R'.same, fun i d q => ?_, R.len, R'.ilen, R'.cell, R'.inj⟩
  obtain ⟨v, e1, e2⟩ := R.env i d q
  exact ⟨v, e1, e2.mono x.sub x.grow⟩
/-- an object of H that is neither data nor a cell changes -/
theorem Rel.aside (R : Rel K F H ι s σ) {p : Addr} {o : HO} (hF : F p = none) (hp : p ∉ ι) : Rel K F (upd H p o) ι s σ := by
  refine ⟨fun b u e => by rw [upd_ne (ne_of_none e hF)]; exact R.same b u e, R.env, R.len, R.ilen, fun k a c e1 e2 => ?_, R.inj⟩
  have ne : a ≠ p := fun z => hp (z ▸ List.mem_of_getElem? e1)
  exact (R.cell k a c e1 e2).move (.refl F) (.refl ι) (upd_ne ne) (fun q => q)
theorem Ext.aside {F0 H0 : Hp} {ι0 : List Addr} (x : Ext F0 H0 ι0 F H ι) {p : Addr} {o : HO} (h : H0 p = none) : Ext F0 H0 ι0 F (upd H p o) ι := by
  refine ⟨x.sub, x.grow, fun b u e n => ?_, x.fr, x.nw, fun a n => ?_⟩
  · rw [upd_ne (ne_of_none e h)]; exact x.kp b u e n
  · by_cases hb : a = p
    · subst hb; exact h
    · rw [upd_ne hb] at n; exact x.al a n
/-- it becomes data; it becomes a cell -/
theorem Rel.adoptF (R : Rel K F H ι s σ) {p : Addr} {o : HO} (hH : H p = some o) (hF : F p = none) (hp : p ∉ ι) : Rel K (upd F p o) H ι s σ := by
  have sF : Same F (upd F p o) := fun b u e => by rw [upd_ne (ne_of_none e hF)]; exact e
  refine ⟨fun b u e => ?_, fun i d e => ?_, R.len, R.ilen, fun k a c e1 e2 => ?_, R.inj⟩
  · by_cases hb : b = p
    · subst hb; rw [upd_same] at e; rw [hH]; exact e
    · rw [upd_ne hb] at e; exact R.same b u e
  · obtain ⟨v, q, r⟩ := R.env i d e
    exact ⟨v, q, r.mono sF (.refl ι)⟩
  · have ne : a ≠ p := fun z => hp (z ▸ List.mem_of_getElem? e1)
    exact (R.cell k a c e1 e2).move sF (.refl ι) rfl (fun q => by rw [upd_ne ne]; exact q)
theorem Ext.adoptF {F0 H0 : Hp} {ι0 : List Addr} (x : Ext F0 H0 ι0 F H ι) {p : Addr} {o : HO} (h : H0 p = none) (hF : F p = none) : Ext F0 H0 ι0 (upd F p o) H ι := by
  refine ⟨fun b u e => ?_, x.grow, x.kp, fun a u e n => ?_, x.nw, x.al⟩
  · have := x.sub b u e
    rw [upd_ne (ne_of_none this hF)]; exact this
  · by_cases hb : a = p
    · subst hb; exact .inl h
    · rw [upd_ne hb] at e; exact x.fr a u e n
theorem Rel.adoptM (R : Rel K F H ι s σ) {p : Addr} {c : Cell} (hp : p ∉ ι) (hc : CellOk K F H (ι ++ [p]) p c) : Rel K F H (ι ++ [p]) ⟨s.ρ, s.η ++ [c]⟩ σ := by
  have g := Grow.app ι [p]
  refine ⟨R.same, fun i d e => ?_, R.len, by simp [R.ilen], fun k a c' e1 e2 => ?_, ?_⟩
  · obtain ⟨v, q, r⟩ := R.env i d e
    exact ⟨v, q, r.mono (.refl F) g⟩
  · by_cases hk : k < ι.length
    · rw [List.getElem?_append_left hk] at e1
      rw [List.getElem?_append_left (by rw [← R.ilen]; exact hk)] at e2
      exact (R.cell k a c' e1 e2).move (.refl F) g rfl (fun q => q)
    · rw [List.getElem?_append_right (by omega)] at e1
      rw [List.getElem?_append_right (by rw [← R.ilen]; omega), ← R.ilen] at e2
      have hk0 : k - ι.length = 0 := by
        cases q : k - ι.length with
        | zero => rfl
        | succ n => rw [q] at e1; simp at e1
      rw [hk0] at e1 e2
      simp at e1 e2
      subst e1 e2
      exact hc
  · refine List.nodup_append.mpr ⟨R.inj, by simp, fun a ha b hb => ?_⟩
    have : b = p := by simpa using hb
    subst this
    exact fun z => hp (z ▸ ha)
theorem Ext.adoptM {F0 H0 : Hp} {ι0 : List Addr} (x : Ext F0 H0 ι0 F H ι) {p : Addr} (h : H0 p = none) : Ext F0 H0 ι0 F H (ι ++ [p]) := by
  refine ⟨x.sub, x.grow.trans (.app ι [p]), x.kp, x.fr, fun a m => ?_, x.al⟩
  rcases List.mem_append.mp m with m | m
  · exact x.nw a m
  · have : a = p := by simpa using m
    subst this
    exact .inr h
end
end
end VL

set_option Elab.async false
set_option linter.all false
set_option maxRecDepth 20000
/-! List comprehensions. -/
namespace VL
open PySem PyProof.Rows PySem.Spec L2
noncomputable section
open Classical in
def lcGo (g : VG) (tt : VB) (fe : VE) (ρ : List (Option D)) : List D → List D → List Cell → Res (List D)
  | [], acc, η => .ok acc ⟨ρ, η⟩
  | d :: r, acc, η => match g d ⟨ρ, η⟩ with
    | .nx s1 => (match tt s1 with
      | .ok true s2 => (match fe s2 with
        | .ok x s3 => if acc.length < sizeLine then lcGo g tt fe ρ r (acc ++ [x]) s3.η else .bad
        | _ => .bad)
      | .ok false s2 => lcGo g tt fe ρ r acc s2.η
      | _ => .bad)
    | _ => .bad
/-- [elt for target in iter if test]; vs: the slots of its own names -/
def eLc (m : Bool) (vs : List Nat) (g : VG) (it : VA) (tt : VB) (fe : VE) (s : S) : Res D := (it s).bind fun ds s1 => (lcGo g tt fe (wipeD s1.ρ vs) ds [] s1.η).bind fun acc s2 => newL m acc ⟨s1.ρ, s2.η⟩
def tYes' (s : S) : Res Bool := .ok true s
/-- nothing is raised in a block -/
abbrev W0 : WX := fun _ _ _ _ => False
abbrev Ts' (X : Cx) (W : WX) (ifs : List Expr) (f : VB) : Prop := PTs X ifs (tT X.K W f)
section
variable {X : Cx} {W : WX}
theorem imTs {ifs : List Expr} {t t' : TT} (h : PTs X ifs t) (i : ∀ σ H Q, t' σ H Q → t σ H Q) : PTs X ifs t' := ⟨fun pins s σ H Q I q => h.run pins s σ H Q I (i σ H Q q)⟩
theorem ts_nil : Ts' X W [] tYes' := imTs pts_nil fun σ H Q ⟨F, ι, s, R, h⟩ => Post.fin h R rfl
theorem ts_one {c : Expr} {f : VB} (h : T' X W c f) : Ts' X W [c] f := pts_one h
/-- the reading of a comprehension -/
theorem lc_run {m : Bool} {vs L : List Nat} {g : VG} {it : VA} {tt : VB} {fe : VE} {K : PySem.W.Frag} {σ : L2.St} {H : Hp} {Q : VK} (hL : ∀ i ∈ L, i ∈ vs) (h : tE K W (eLc m vs g it tt fe) σ H Q) :
    tLc (tI K W it) (tGt K L g) (tT K W0 tt) (tE K W0 fe) vs σ H Q := by
  obtain ⟨F, ι, s, R, h⟩ := h
  refine Post.run R h fun F1 H1 ι₁ s1 J ds R1 x1 q1 h1 => ?_
  intro D hD
  obtain ⟨hFD, hιD⟩ := R1.new hD
  let I : Nat → Hp → Prop := fun i H' => ∃ F' ι' η acc dacc, Rel K F' H' ι' ⟨wipeD s1.ρ vs, η⟩ (wipe σ vs) ∧ Ext F1 H1 ι₁ F' H' ι' ∧ F' D = none ∧ D ∉ ι' ∧ H' D = some (.lst acc) ∧ Rps K F' ι' acc dacc ∧
    PostE K W F1 H1 ι₁ σ ((lcGo g tt fe (wipeD s1.ρ vs) (ds.drop i) dacc η).bind fun acc s2 => newL m acc ⟨s1.ρ, s2.η⟩) Q
  refine ⟨fun i k H' => k = ds.length - i ∧ i ≤ ds.length ∧ I i H', ⟨_, rfl, Nat.zero_le _, F1, ι₁, s1.η, [], [], ?_, ?_, hFD, hιD, upd_same, .nil, h1⟩, ?_⟩
  · exact ((R1.wiped vs).aside hFD hιD)
  · exact (Ext.refl F1 H1 ι₁).aside hD
  rintro i k H2 ⟨rfl, hi, F2, ι₂, η, acc, dacc, R2, x2, f2, n2, e2, r2, p2⟩
  obtain ⟨go, st, yl⟩ := q1 i F2 H2 ι₂ _ _ R2 x2.sub x2.grow
  by_cases hlt : i < ds.length
  · refine .inr ⟨go hlt, I (i + 1), fun H' p' => ⟨ds.length - (i + 1), by omega, rfl, hlt, p'⟩, fun x H3 y => ?_⟩
    obtain ⟨F3, ι₃, d, R3, x3, ed, rd⟩ := yl x H3 y hlt
    have eds : ds.drop i = d :: ds.drop (i + 1) := by
      rw [List.drop_eq_getElem_cons hlt]
      rw [List.getElem?_eq_getElem hlt] at ed
      rw [Option.some.inj ed]
    rw [eds] at p2
    unfold lcGo at p2
    -- what stands aside stays aside
    have aside : ∀ {F H ι}, Ext F2 H2 ι₂ F H ι → F D = none ∧ D ∉ ι ∧ H D = some (.lst acc) := fun {F H ι} x => by
      refine ⟨?_, fun mm => ?_, x.kp D _ e2 n2⟩
      · cases q : F D with
        | none => rfl
        | some o =>
          rcases x.fr D o q f2 with z | z
          · rw [e2] at z; cases z
          · exact absurd z n2
      · rcases x.nw D mm with z | z
        · exact n2 z
        · rw [e2] at z; cases z
    refine ⟨F3, ι₃, _, d, R3, rd, ?_⟩
    cases qg : g d ⟨wipeD s1.ρ vs, η⟩ with
    | nx s4 =>
      rw [qg] at p2
      dsimp only at p2
      intro F4 H4 ι₄ σ4 R4 x4 o4
      refine ⟨?_, F4, ι₄, s4, R4, ?_⟩
      · have e := o4 vs hL
        have ww : ∀ (l : List Nat) (τ : L2.St), wipe (wipe τ l) l = wipe τ l := fun l => by
          induction l with
          | nil => intro τ; rfl
          | cons v l ih =>
            intro τ
            show (wipe ((wipe τ l).set v none) l).set v none = (wipe τ l).set v none
            by_cases hv : v ∈ l
            · rw [wipe_in hv, ih]
            · rw [wipe_over hv, ih, List.set_set]
        rw [e, ww]
      · cases qt : tt s4 with
        | ok b s5 =>
          rw [qt] at p2
          intro F5 H5 ι₅ b' R5 x5 eb
          subst eb
          have x25 := (x3.trans x4).trans x5
          cases b' with
          | false =>
            refine iteF ?_
            obtain ⟨a1, a2, a3⟩ := aside x25
            exact ⟨F5, ι₅, s5.η, acc, dacc, R2.back x25 R5, x2.trans x25, a1, a2, a3, r2.mono x25.sub x25.grow, p2⟩
          | true =>
            refine iteT ⟨F5, ι₅, s5, R5, ?_⟩
            dsimp only at p2
            cases qe : fe s5 with
            | ok y s6 =>
              rw [qe] at p2
              dsimp only at p2
              intro F6 H6 ι₆ v R6 x6 rv
              have x26 := x25.trans x6
              obtain ⟨a1, a2, a3⟩ := aside x26
              split at p2
              · rename_i hl
                refine ⟨acc, a3, by rw [r2.length]; exact hl, F6, ι₆, s6.η, acc ++ [v], dacc ++ [y], (R2.back x26 R6).aside a1 a2, (x2.trans x26).aside hD, a1, a2, upd_same, (r2.mono x26.sub x26.grow).app (Rps.one rv), p2⟩
              · exact p2.elim
            | exc C fs s6 => rw [qe] at p2; exact p2.elim
            | bad => rw [qe] at p2; exact p2.elim
        | exc C fs s5 => rw [qt] at p2; exact p2.elim
        | bad => rw [qt] at p2; exact p2.elim
    | bk s4 => rw [qg] at p2; exact p2.elim
    | ct s4 => rw [qg] at p2; exact p2.elim
    | rt d s4 => rw [qg] at p2; exact p2.elim
    | exc C fs s4 => rw [qg] at p2; exact p2.elim
    | bad => rw [qg] at p2; exact p2.elim
  · have ei : i = ds.length := by omega
    subst ei
    refine .inl ⟨st (Nat.le_refl _), ?_⟩
    rw [List.drop_length] at p2
    unfold lcGo at p2
    rw [bind_ok] at p2
    have R3 := R1.back x2 R2
    unfold newL at p2
    cases m with
    | false =>
      rw [if_neg Bool.false_ne_true] at p2
      have x3 : Ext F1 H1 ι₁ (upd F2 D (.lst acc)) H2 ι₂ := x2.adoptF hD f2
      refine Post.fin' p2 (R3.adoptF e2 f2 n2) x3 (.lst upd_same (r2.mono (fun b u e => ?_) (.refl ι₂)))
      rw [upd_ne (ne_of_none e f2)]
      exact e
    | true =>
      rw [if_pos rfl] at p2
      refine Post.fin' p2 (R3.adoptM (c := .lst dacc) n2 ⟨f2, acc, e2, r2.mono (.refl F2) (.app ι₂ [D])⟩) (x2.adoptM hD) (.ptr ?_)
      rw [← R3.ilen, List.getElem?_append_right (Nat.le_refl _), Nat.sub_self]
      rfl
variable {elt tg iter : Expr} {ifs : List Expr} {scope : Scope} {own : List (Str × Nat)} {pos spos : Pos} {L : List Nat} {g : VG} {it : VA} {tt : VB} {fe : VE}
theorem v_lc (m : Bool) (hc : X.calm = true) (hN : X.N.Nodup) (hi : I' X W tg iter it) (ok : BlkOk X.N X.env.scope scope own) (hL : ∀ i ∈ L, i ∈ own.map (·.2))
    (hg : ∀ (s : Shared) (H : Hp) (C : Addr) (cl : List (Str × Addr)) (fp : List Addr), G' (X.blk s H scope (compEnvC scope cl C X.env) fp) tg L g) (ht : ∀ (s : Shared) (H : Hp) (C : Addr) (cl : List (Str × Addr)) (fp : List Addr), Ts' (X.blk s H scope (compEnvC scope cl C X.env) fp) W0 ifs tt)
    (he : ∀ (s : Shared) (H : Hp) (C : Addr) (cl : List (Str × Addr)) (fp : List Addr), E' (X.blk s H scope (compEnvC scope cl C X.env) fp) W0 elt fe) (hs : ∀ x, foldedSetIterable iter X.env x = pure x := by intro _; rfl) :
    E' X W (.ListComp elt [⟨tg, iter, ifs, 0⟩] scope pos) (eLc m (own.map (·.2)) g it tt fe) :=
  imE (pe_lc (g := tGt X.K L g) (tt := tT X.K W0 tt) (te := tE X.K W0 fe) hc hN hi ok hg ht he hs) fun σ H Q h => lc_run hL h
/-- name = [..] -/
theorem s_setLc (m : Bool) {i : Nat} {y : Str} {py : Pos} (hc : X.calm = true) (hN : X.N.Nodup) (hyl : X.env.scope.names.lookup y = some .local) (hsw : swapsWith (.ListComp elt [⟨tg, iter, ifs, 0⟩] scope pos) (some (.Name y py)) spos.line X.env = pure true)
    (hi : I' X W tg iter it) (ok : BlkOk X.N X.env.scope scope own) (hL : ∀ i ∈ L, i ∈ own.map (·.2))
    (hg : ∀ (s : Shared) (H : Hp) (C : Addr) (cl : List (Str × Addr)) (fp : List Addr), G' (X.blk s H scope (compEnvC scope cl C X.env) fp) tg L g) (ht : ∀ (s : Shared) (H : Hp) (C : Addr) (cl : List (Str × Addr)) (fp : List Addr), Ts' (X.blk s H scope (compEnvC scope cl C X.env) fp) W0 ifs tt)
    (he : ∀ (s : Shared) (H : Hp) (C : Addr) (cl : List (Str × Addr)) (fp : List Addr), E' (X.blk s H scope (compEnvC scope cl C X.env) fp) W0 elt fe) (hy : X.N[i]? = some y := by rfl) (hs : ∀ x, foldedSetIterable iter X.env x = pure x := by intro _; rfl) :
    S' X W (.Assign [.Name y py] (.ListComp elt [⟨tg, iter, ifs, 0⟩] scope pos) spos) (sSet i (eLc m (own.map (·.2)) g it tt fe)) := by
  refine imS (ps_setLc (g := tGt X.K L g) (tt := tT X.K W0 tt) (te := tE X.K W0 fe) hc hN hy hyl hsw hi ok hg ht he hs) fun Dn σ H ⟨F, ι, s, R, h⟩ => ?_
  refine lc_run (m := m) (Q := fun x H1 => gName i x σ H1 Dn.nx) hL ⟨F, ι, s, R, ?_⟩
  exact Post.bindS h fun F1 H1 ι₁ s1 v d R1 x1 q1 h1 => h1 F1 H1 ι₁ _ (R1.put i q1) (.refl _ _ _)
end
end
end VL

set_option Elab.async false
set_option linter.all false
set_option maxRecDepth 20000
/-! Equality, membership, isinstance, sorted, more built-ins. -/
namespace VL
open PySem PyProof.Rows PySem.Spec L2
noncomputable section

/-! ### plain data -/
mutual
def D.py : D → Bool
  | .non => true
  | .bl _ => true
  | .int _ => true
  | .str _ => true
  | .tup xs => pys xs
  | .lst xs => pys xs
  | .scr xs => pys xs
  | _ => false
def pys : List D → Bool
  | [] => true
  | d :: ds => d.py && pys ds
end
mutual
def toPy : D → PyData
  | .bl b => .bool b
  | .int i => .int i
  | .str x => .str x
  | .tup xs => .tuple (toPys xs)
  | .lst xs => .list (toPys xs)
  | .scr xs => .list (toPys xs)
  | _ => .none
def toPys : List D → List PyData
  | [] => []
  | d :: ds => toPy d :: toPys ds
end
theorem toPys_map : ∀ ds : List D, toPys ds = ds.map toPy
  | [] => rfl
  | d :: ds => by rw [toPys, toPys_map ds]; rfl
section
variable {K : PySem.W.Frag} {F H : Hp} {ι : List Addr}
mutual
theorem Rp.dp (e : Same F H) : ∀ {v : V} {d : D}, Rp K F ι v d → d.py = true → Dp K H v (toPy d)
  | _, _, .non, _ => by rw [toPy] <;> first | exact Dp.non | (intros; exact D.noConfusion) | simp
  | _, _, .bl b, _ => by rw [toPy]; exact .bl b
  | _, _, .int i, _ => by rw [toPy]; exact .int i
  | _, _, .str x, _ => by rw [toPy]; exact .str x
  | _, _, .ty n, h => by rw [D.py] at h <;> first | cases h | simp
  | _, _, .tup s r, h => by rw [toPy]; rw [D.py] at h; exact .tup (sqT_mono e s) (Rps.dp e r h)
  | _, _, .lst s r, h => by rw [toPy]; rw [D.py] at h; exact .lst (.of (e _ _ s)) (Rps.dp e r h)
  | _, _, .scr s r, h => by rw [toPy]; rw [D.py] at h; exact .lst (sqL_mono e s) (Rps.dp e r h)
  | _, _, .dK s r, h => by rw [D.py] at h <;> first | cases h | simp
  | _, _, .dT s r, h => by rw [D.py] at h <;> first | cases h | simp
  | _, _, .obj s r, h => by rw [D.py] at h <;> first | cases h | simp
  | _, _, .ptr q, h => by rw [D.py] at h <;> first | cases h | simp
theorem Rps.dp (e : Same F H) : ∀ {v : List V} {d : List D}, Rps K F ι v d → pys d = true → DpAll K H v (toPys d)
  | _, _, .nil, _ => by rw [toPys]; exact .nil
  | _, _, .cons r t, h => by
    rw [toPys]
    rw [pys] at h
    exact .cons (Rp.dp e r (and_t h).1) (Rps.dp e t (and_t h).2)
end
theorem At.dp (e : Same F H) {v : V} {d : D} (h : At K F H ι v d) (p : d.py = true) : Dp K H v (toPy d) := by
  cases h with
  | sc h => exact h.dp e p
  | lst h r => rw [toPy]; rw [D.py] at p; exact .lst (.of h) (r.dp e p)
  | dK h r => rw [D.py] at p <;> first | cases p | simp
  | dT h r => rw [D.py] at p <;> first | cases p | simp
  | obj h r => rw [D.py] at p <;> first | cases p | simp
end
/-- fit for == -/
def okEq (d : D) : Bool := d.py && SeqAt.shaped (toPy d)
def kEq (a b : D) (s : S) : Res D := if (okEq (look s a) && okEq (look s b)) = true then .ok (.bl (PyData.eqv (toPy (look s a)) (toPy (look s b)))) s else .bad
def kNe (a b : D) (s : S) : Res D := if (okEq (look s a) && okEq (look s b)) = true then .ok (.bl (!PyData.eqv (toPy (look s a)) (toPy (look s b)))) s else .bad
/-- x in xs: xs a list of plain data, or a tuple of flat ones -/
def flatD : D → Bool
  | .non => true
  | .bl _ => true
  | .int _ => true
  | .str _ => true
  | _ => false
section
variable {X : Cx} {W : WX} {pos : Pos} {a b : Expr} {f g : VE}
theorem o_eq : Op2 X W (rEqD X.K) kEq := by
  intro F H ι σ s v w a b Q R p q z
  unfold kEq at z
  split at z
  · rename_i hc
    obtain ⟨h1, h2⟩ := and_t hc
    obtain ⟨h3, h4⟩ := and_t h1
    obtain ⟨h5, h6⟩ := and_t h2
    exact ⟨_, _, (R.at p).dp R.same h3, (R.at q).dp R.same h5, h4, h6, Post.fin z R (.bl _)⟩
  · exact z.elim
theorem o_ne : Op2 X W (rNeD X.K) kNe := by
  intro F H ι σ s v w a b Q R p q z
  unfold kNe at z
  split at z
  · rename_i hc
    obtain ⟨h1, h2⟩ := and_t hc
    obtain ⟨h3, h4⟩ := and_t h1
    obtain ⟨h5, h6⟩ := and_t h2
    exact ⟨_, _, (R.at p).dp R.same h3, (R.at q).dp R.same h5, h4, h6, Post.fin z R (.bl _)⟩
  · exact z.elim
theorem v_eq (hu : X.A.units + 64 < cLine) (ha : E' X W a f) (hb : E' X W b g) : E' X W (.Compare a [.Eq] [b] pos) (e2 kEq f g) := v_cmp (op_eqD hu) o_eq ha hb (nomark _)
theorem t_eq (hu : X.A.units + 64 < cLine) (ha : E' X W a f) (hb : E' X W b g) : T' X W (.Compare a [.Eq] [b] pos) (bOf (e2 kEq f g)) := t_cmp (op_eqD hu) o_eq ha hb (nomark _)
theorem v_ne (hu : X.A.units + 64 < cLine) (ha : E' X W a f) (hb : E' X W b g) : E' X W (.Compare a [.NotEq] [b] pos) (e2 kNe f g) := v_cmp (op_neD hu) o_ne ha hb (nomark _)
theorem t_ne (hu : X.A.units + 64 < cLine) (ha : E' X W a f) (hb : E' X W b g) : T' X W (.Compare a [.NotEq] [b] pos) (bOf (e2 kNe f g)) := t_cmp (op_neD hu) o_ne ha hb (nomark _)
end

/-! ### all, any -/
def blsOf : List D → Option (List Bool)
  | [] => some []
  | .bl b :: r => (blsOf r).map (b :: ·)
  | _ => none
theorem blsOf_map : ∀ {ds : List D} {bs : List Bool}, blsOf ds = some bs → ds = bs.map D.bl
  | [], bs, h => by cases h; rfl
  | d :: r, bs, h => by
    cases d <;> first | (cases h; done) | skip
    rename_i b
    rw [blsOf] at h
    obtain ⟨cs, h1, h2⟩ := Option.map_eq_some_iff.mp h
    subst h2
    rw [blsOf_map h1]
    rfl
@[simp] theorem blsOf_bl (bs : List Bool) : blsOf (bs.map D.bl) = some bs := by
  induction bs with
  | nil => rfl
  | cons b r ih => rw [List.map_cons, blsOf, ih]; rfl
def kAll (ds : List D) (s : S) : Res D := match ds with
  | [d] => (match look s d with
    | .lst xs => (match blsOf xs with
      | some bs => .ok (.bl (bs.all id)) s
      | none => .bad)
    | _ => .bad)
  | _ => .bad
def kAny (ds : List D) (s : S) : Res D := match ds with
  | [d] => (match look s d with
    | .lst xs => (match blsOf xs with
      | some bs => .ok (.bl (bs.any id)) s
      | none => .bad)
    | _ => .bad)
  | _ => .bad
section
variable {X : Cx} {W : WX} {pos p : Pos} {e : Expr} {f : VA}
theorem v_all (hc : X.calm = true) (hm : X.mg "all" = none) (ha : A' X W [e] f) (hg : Gl X "all" := by rfl) (he : starEach [e] X.env = (false, eval e X.env) :: starEach [] X.env := by rfl) : E' X W (.Call (.Name "all" p) [e] [] pos) (eCall kAll f) := by
  refine v_callB (cr_all hc) (fun F H ι σ s vs ds Q R q z => ?_) hm ha hg (he := he)
  unfold kAll at z
  split at z
  · obtain ⟨v, rfl, q1⟩ := q.one_inv
    have y := R.at q1
    split at z
    · rename_i xs e
      rw [e] at y
      obtain ⟨t, us, rfl, hs, r⟩ := y.lstD R.same
      split at z
      · rename_i bs eb
        rw [blsOf_map eb] at r
        rw [r.bls] at hs
        exact ⟨_, _, rfl, .of hs, Post.fin z R (.bl _)⟩
      · exact z.elim
    · exact z.elim
  · exact z.elim
theorem v_any (hc : X.calm = true) (hm : X.mg "any" = none) (ha : A' X W [e] f) (hg : Gl X "any" := by rfl) (he : starEach [e] X.env = (false, eval e X.env) :: starEach [] X.env := by rfl) : E' X W (.Call (.Name "any" p) [e] [] pos) (eCall kAny f) := by
  refine v_callB (cr_any hc) (fun F H ι σ s vs ds Q R q z => ?_) hm ha hg (he := he)
  unfold kAny at z
  split at z
  · obtain ⟨v, rfl, q1⟩ := q.one_inv
    have y := R.at q1
    split at z
    · rename_i xs e
      rw [e] at y
      obtain ⟨t, us, rfl, hs, r⟩ := y.lstD R.same
      split at z
      · rename_i bs eb
        rw [blsOf_map eb] at r
        rw [r.bls] at hs
        exact ⟨_, _, rfl, .of hs, Post.fin z R (.bl _)⟩
      · exact z.elim
    · exact z.elim
  · exact z.elim
/-! tuple(..), list(..) -/
def kTupOf (ds : List D) (s : S) : Res D := match ds with
  | [d] => (match look s d with
    | .lst xs => .ok (.tup xs) s
    | .tup xs => .ok (.tup xs) s
    | _ => .bad)
  | _ => .bad
def kLstOf (m : Bool) (ds : List D) (s : S) : Res D := match ds with
  | [d] => (match look s d with
    | .lst xs => newL m xs s
    | .scr xs => newL m xs s
    | .tup xs => newL m xs s
    | _ => .bad)
  | _ => .bad
theorem v_tupOf (hm : X.mg "tuple" = none) (ha : A' X W [e] f) (hg : Gl X "tuple" := by rfl) (he : starEach [e] X.env = (false, eval e X.env) :: starEach [] X.env := by rfl) : E' X W (.Call (.Name "tuple" p) [e] [] pos) (eCall kTupOf f) := by
  refine v_callTy call_tuple_of (fun F H ι σ s vs ds Q R q z => ?_) hm ha hg (he := he)
  unfold kTupOf at z
  split at z
  · obtain ⟨v, rfl, q1⟩ := q.one_inv
    have y := R.at q1
    split at z
    · rename_i xs e
      rw [e] at y
      obtain ⟨t, us, rfl, hs, r⟩ := y.lstD R.same
      exact ⟨t, us, rfl, .inl ⟨.of hs, new_tup R r z⟩⟩
    · rename_i xs e
      rw [e] at y
      obtain ⟨t, us, rfl, hs, r⟩ := y.tupD R.same
      refine ⟨t, us, rfl, .inr ⟨hs, ?_⟩⟩
      refine Post.fin z R ?_
      cases y with
      | sc y => exact y
    · exact z.elim
  · exact z.elim
theorem v_lstOf (m : Bool) (hm : X.mg "list" = none) (ha : A' X W [e] f) (hg : Gl X "list" := by rfl) (he : starEach [e] X.env = (false, eval e X.env) :: starEach [] X.env := by rfl) : E' X W (.Call (.Name "list" p) [e] [] pos) (eCall (kLstOf m) f) := by
  refine v_callTy call_list_of (fun F H ι σ s vs ds Q R q z => ?_) hm ha hg (he := he)
  unfold kLstOf at z
  split at z
  · obtain ⟨v, rfl, q1⟩ := q.one_inv
    have y := R.at q1
    split at z
    · rename_i xs e
      rw [e] at y
      obtain ⟨t, us, rfl, hs, r⟩ := y.lstD R.same
      exact ⟨t, us, rfl, .inl (.of hs), new_lst R r z⟩
    · rename_i xs e
      rw [e] at y
      obtain ⟨t, us, rfl, hs, r⟩ := y.scrD R.same
      exact ⟨t, us, rfl, .inl hs, new_lst R r z⟩
    · rename_i xs e
      rw [e] at y
      obtain ⟨t, us, rfl, hs, r⟩ := y.tupD R.same
      exact ⟨t, us, rfl, .inr hs, new_lst R r z⟩
    · exact z.elim
  · exact z.elim
end

/-! ### isinstance with a built-in class -/
/-- the name of a value's type -/
def tyD : D → Option String
  | .non => some "NoneType"
  | .bl _ => some "bool"
  | .int _ => some "int"
  | .str _ => some "str"
  | .tup _ => some "tuple"
  | .lst _ => some "list"
  | .scr _ => some "list"
  | .dK _ => some "dict"
  | .dT _ => some "dict"
  | _ => none
theorem At.ty {K : PySem.W.Frag} {F H : Hp} {ι : List Addr} (e : Same F H) {v : V} {d : D} {n : String} (h : At K F H ι v d) (p : tyD d = some n) : TyX K H v (.type n) := by
  cases h with
  | lst h r => cases p; exact .base (.lst h)
  | dK h r => cases p; exact .base (.dK h)
  | dT h r => cases p; exact .base (.dT h)
  | obj h r => cases p
  | sc h =>
    cases h with
    | non => cases p; exact .base .non
    | bl b => cases p; exact .base (.bl b)
    | int i => cases p; exact .base (.int i)
    | str x => cases p; exact .base (.str x)
    | ty n => cases p
    | tup s r =>
      cases p
      rcases s with (s | ⟨o, s⟩) | ⟨o, its, n, hk, hc, _⟩
      · exact .base (.tup (e _ _ s))
      · exact .fTuple (e _ _ s)
      · exact .kTuple hk hc
    | lst s r => cases p; exact .base (.lst (e _ _ s))
    | scr s r =>
      cases p
      rcases s with (s | ⟨o, s⟩) | ⟨o, its, n, hk, hc, _⟩
      · exact .base (.lst (e _ _ s))
      · exact .base (.frz (e _ _ s))
      · exact .kList hk hc
    | dK s r => cases p; exact .base (.dK (e _ _ s))
    | dT s r => cases p; exact .base (.dT (e _ _ s))
    | obj s r => cases p
    | ptr q => cases p
def kIsi (ds : List D) (s : S) : Res D := match ds with
  | [d, .ty c] => (match tyD (look s d) with
    | some n => (match kitB n c with
      | some b => .ok (.bl b) s
      | none => .bad)
    | none => .bad)
  | _ => .bad
section
variable {X : Cx} {W : WX} {pos p : Pos} {e e2 : Expr} {f : VA}
theorem v_ty {x : Str} {n : String} (hm : X.mg x = none) (hv : bootBuiltins x = some (.type n) := by decide +kernel) (hg : Gl X x := by rfl) (hn : x ≠ "__name__" := by decide) (hd : (x == ("__debug__" : Str)) = false := by decide) : E' X W (.Name x pos) (eC (.ty n)) :=
  v_const (v := .ty n) (pe_bltn hg hm hv rfl hn hd) fun _ _ => .ty n
theorem v_isi (hm : X.mg "isinstance" = none) (ha : A' X W [e, e2] f) (hg : Gl X "isinstance" := by rfl) (he : starEach [e, e2] X.env = (false, eval e X.env) :: starEach [e2] X.env := by rfl) (hpl : (backTo pos (starEach [e2] X.env)).any (·.1) = false := by rfl) : E' X W (.Call (.Name "isinstance" p) [e, e2] [] pos) (eCall kIsi f) := by
  refine v_callB call_isi (fun F H ι σ s vs ds Q R q z => ?_) hm ha hg (he := he) (hpl := hpl)
  unfold kIsi at z
  split at z
  · obtain ⟨v, w, rfl, q1, q2⟩ := q.two_inv
    cases q2
    split at z
    · rename_i n e1
      split at z
      · rename_i b e2
        exact ⟨_, _, _, _, b, rfl, .ty _, (R.at q1).ty R.same e1, kit_ty e2, Post.fin z R (.bl _)⟩
      · exact z.elim
    · exact z.elim
  · exact z.elim
end

/-! ### a name op= e -/
def sAug (i : Nat) (k : D → D → S → Res D) (f : VE) (s : S) : SR := match s.ρ[i]? with
  | some (some a) => (f s).bindS fun b s => (k a b s).bindS fun d s => .nx (s.put i d)
  | _ => .bad
section
variable {X : Cx} {W : WX} {pos : Pos} {e : Expr} {f : VE}
theorem s_aug {i : Nat} {x : Str} {op : Operator} {r : R2} {k : D → D → S → Res D} {pos' : Pos} (hN : X.N.Nodup) (ho : OpR X (inplaceOp op) r) (hk : ∀ F H ι σ s v w a b Q, Rel X.K F H ι s σ → Rp X.K F ι v a → Rp X.K F ι w b → PostE X.K W F H ι σ (k a b s) Q → r v w H Q) (he : E' X W e f)
    (hi : X.N[i]? = some x := by rfl) (hx : Loc X.env.scope x := by first | exact Or.inl rfl | exact Or.inr rfl) (hf : X.fn x = true ∨ X.env.scope.names.lookup x = some .local := by first | exact .inl rfl | exact .inr rfl | assumption) :
    S' X W (.AugAssign (.Name x pos') op e pos) (sAug i k f) := by
  refine imS (ps_aug (ti := r) hN hi hx he (fun pins s σ H x y v u Q I r1 r2 h => ho pins s σ H x y v u Q I r1 r2 h) hf) fun Dn σ H ⟨F, ι, s, R, h⟩ => ?_
  unfold sAug at h
  split at h
  · rename_i a ea
    obtain ⟨v, e1, r1⟩ := R.env i a ea
    refine ⟨v, e1, ?_⟩
    refine PostS.run R h fun F1 H1 ι₁ s1 w b R1 x1 q1 h1 => ?_
    refine hk F1 H1 ι₁ σ s1 v w a b _ R1 (r1.mono x1.sub x1.grow) q1 ?_
    exact Post.bindS h1 fun F2 H2 ι₂ s2 u d R2 x2 q2 h2 => h2 F2 H2 ι₂ _ (R2.put i q2) (.refl _ _ _)
  · exact h.elim
theorem s_augAdd {i : Nat} {x : Str} {pos' : Pos} (hN : X.N.Nodup) (he : E' X W e f) (hi : X.N[i]? = some x := by rfl) (hx : Loc X.env.scope x := by first | exact Or.inl rfl | exact Or.inr rfl) (hf : X.fn x = true ∨ X.env.scope.names.lookup x = some .local := by first | exact .inl rfl | exact .inr rfl | assumption) :
    S' X W (.AugAssign (.Name x pos') .Add e pos) (sAug i kAdd f) := s_aug hN iop_add (o_int fun _ _ i j => .int (i + j)) he hi hx hf
theorem s_augSub {i : Nat} {x : Str} {pos' : Pos} (hN : X.N.Nodup) (he : E' X W e f) (hi : X.N[i]? = some x := by rfl) (hx : Loc X.env.scope x := by first | exact Or.inl rfl | exact Or.inr rfl) (hf : X.fn x = true ∨ X.env.scope.names.lookup x = some .local := by first | exact .inl rfl | exact .inr rfl | assumption) :
    S' X W (.AugAssign (.Name x pos') .Sub e pos) (sAug i kSub f) := s_aug hN iop_sub (o_int fun _ _ i j => .int (i - j)) he hi hx hf
theorem s_augMul {i : Nat} {x : Str} {pos' : Pos} (hN : X.N.Nodup) (he : E' X W e f) (hi : X.N[i]? = some x := by rfl) (hx : Loc X.env.scope x := by first | exact Or.inl rfl | exact Or.inr rfl) (hf : X.fn x = true ∨ X.env.scope.names.lookup x = some .local := by first | exact .inl rfl | exact .inr rfl | assumption) :
    S' X W (.AugAssign (.Name x pos') .Mult e pos) (sAug i kMul f) := s_aug hN iop_mul (o_intC fun _ _ i j => .int (i * j)) he hi hx hf
theorem s_augDiv {i : Nat} {x : Str} {pos' : Pos} (hN : X.N.Nodup) (he : E' X W e f) (hi : X.N[i]? = some x := by rfl) (hx : Loc X.env.scope x := by first | exact Or.inl rfl | exact Or.inr rfl) (hf : X.fn x = true ∨ X.env.scope.names.lookup x = some .local := by first | exact .inl rfl | exact .inr rfl | assumption) :
    S' X W (.AugAssign (.Name x pos') .FloorDiv e pos) (sAug i kDiv f) := s_aug hN iop_fdiv (o_intC fun _ _ i j => .int (i / j)) he hi hx hf
end
end
end VL

set_option Elab.async false
set_option linter.all false
set_option maxRecDepth 20000
/-! sorted of a list or a tuple of plain data. -/
namespace VL
open PySem PyProof.Rows PySem.Spec L2 PySem.W
noncomputable section
section
variable {prog : Program} {w : World} {A : Around} {E : Value → Shared → Prop} {s : Shared}
/-- a list or tuple at l, of the values vs -/
def SeqOf (h : Heap) (l : Addr) (vs : List Value) : Prop := ∃ o n, h.get? l = some o ∧ (o.cls = .type "list" ∨ o.cls = .type "tuple") ∧ o.data = .seq vs.toArray n
theorem collect_seq {l : Addr} {vs : List Value} {Q : List Value → Shared → Prop} (hl : SeqOf s.heap l vs) (hz : vs.length ≤ sizeLine)
    (h : Q vs { s with heap := (s.heap.push (seqObj "list" #[] 0)).update s.heap.objs.size (Obj.mapSeq (· ++ vs.toArray)) }) : wpAny (model prog w) A (collect (.ref l)) Q E s := by
  obtain ⟨o, n, e1, e2, e3⟩ := hl
  have there : (s.heap.push (seqObj "list" #[] 0)).get? l = some o := Heap.get?_push_of_some _ e1
  have mine : (s.heap.push (seqObj "list" #[] 0)).get? s.heap.objs.size = some (seqObj "list" #[] 0) := Heap.get?_push_size _ rfl
  unfold collect
  refine wpAny_bind (wpAny_runValue (codeAny_builtin entry_proto_collect' ?_))
  show wpAny _ _ (do again (.builtin "list.__iadd__" ⟨[← newList [], .ref l], []⟩)) _ _ s
  refine wpAny_bind (wpAny_newList (wpAny_pure ⟨Code.quiet_builtin _ (by decide +kernel), codeAny_builtin entry_list_iadd' ?step⟩))
  case step =>
    show wpAny _ _ (Builtin.List.listExtendWith (.ref s.heap.objs.size) (.ref l) (.ref s.heap.objs.size)) _ _ { s with heap := s.heap.push (seqObj "list" #[] 0) }
    unfold Builtin.List.listExtendWith
    have goes : ∀ T : String, (T = "list" ∨ T = "tuple") → (Builtin.List.listSameRef (.ref s.heap.objs.size) (.ref l) || Value.type T == .type "list" || Value.type T == .type "tuple") = true := fun T hT => by
      rcases hT with rfl | rfl <;> simp
    have ty : ∃ T : String, (T = "list" ∨ T = "tuple") ∧ o.cls = .type T := by
      rcases e2 with z | z
      · exact ⟨"list", .inl rfl, z⟩
      · exact ⟨"tuple", .inr rfl, z⟩
    obtain ⟨T, hT, hc⟩ := ty
    refine wpAny_bind (wpAny_typeOf (T := T) ⟨o, there, hc⟩ ?_)
    rw [if_pos (goes T hT)]
    refine wpAny_bind (listItems_at there e3 (wpAny_bind (listItems_at (xs := #[]) (n := 0) mine rfl ?_)))
    rw [if_neg (by simp)]
    refine wpAny_bind (listUpdate_at (xs := #[]) (n := 0) mine rfl ?_ (Nat.zero_le _) (by show (#[] ++ vs.toArray).size ≤ sizeLine + 1; simp only [Array.size_append, List.size_toArray, List.length_nil]; omega))
    refine wpAny_pure ?_
    show wpAny (model prog w) A (do
        let o ← load s.heap.objs.size
        match o.data with
        | .seq xs _ => pure xs.toList
        | _ => unsupported "internal:collect") Q E { s with heap := (s.heap.push (seqObj "list" #[] 0)).update s.heap.objs.size (Obj.mapSeq (· ++ vs.toArray)) }
    refine wpAny_bind (wpAny_load (get?_update_seq mine _) ?_)
    show wpAny _ _ (pure ((#[] : Array Value) ++ vs.toArray).toList) Q E _
    have e : ((#[] : Array Value) ++ vs.toArray).toList = vs := by simp
    rw [e]
    exact wpAny_pure h
theorem sorted_seq {l : Addr} {vs : List Value} {κ : PyProof.Rows.KeyKind} {Q : Value → Shared → Prop} (hl : SeqOf s.heap l vs) (hL : vs.length ≤ sizeLine)
    (S : SortsAt prog w A.in1.in1 { s with heap := sortingHeap (copyHeap s.heap vs) (s.heap.objs.size + 1) vs } κ vs)
    (h : Q (.ref (s.heap.objs.size + 1)) { s with heap := sortedAll s.heap vs (sortVals κ false vs vs).toArray }) : wpAny (model prog w) A (call (.builtin "sorted") [.ref l]) Q E s := by
  refine call_function_entry_kw kind_sorted plain_sorted entry_sorted (args_sorted1 _) ?_
  unfold Builtin.«sorted»
  refine wpAny_bind (m := checkCount "sorted" 1 1 _) (wpAny_pure (wpAny_bind (collect_seq hl hL (wpAny_bind (wpAny_newList ?_ hL)))))
  have size1 : ((s.heap.push (seqObj "list" #[] 0)).update s.heap.objs.size (Obj.mapSeq (· ++ vs.toArray))).objs.size = s.heap.objs.size + 1 := by
    rw [Heap.size_update]
    exact size_push' _ _
  show wpAny _ _ _ _ _ { s with heap := copyHeap s.heap vs }
  rw [size1]
  refine wpAny_bind (wpAny_holding (wpAny_call_entry_kw slot_list_sort ⟨_, copyHeap_at s.heap vs, rfl⟩ entry_list_sort ?go (args_list_sort _)))
  case go =>
    refine list_sort_vals (s := { s with heap := copyHeap s.heap vs }) (copyHeap_at s.heap vs) S hL ?_
    exact ⟨_, rfl, wpAny_pure ⟨_, rfl, h⟩⟩
end
/-! ### over the layer -/
abbrev leD : D → D → Bool := dataLe false toPy
def SortOk (ds : List D) : Prop := AllAlike (ds.map toPy) ∧ Sortable (ds.map toPy) ∧ ∀ d ∈ ds, (toPy d).depth ≤ 60
open Classical in
def kSorted (m : Bool) (ls : List D) (s : S) : Res D := match ls with
  | [d] => (match look s d with
    | .lst ds => if pys ds = true ∧ SortOk ds then newL m (ds.mergeSort leD) s else .bad
    | .tup ds => if pys ds = true ∧ SortOk ds then newL m (ds.mergeSort leD) s else .bad
    | .scr ds => if pys ds = true ∧ SortOk ds then newL m (ds.mergeSort leD) s else .bad
    | _ => .bad)
  | _ => .bad
/-- pairs of a value and its data -/
theorem zip_rel {K : PySem.W.Frag} {F : Hp} {ι : List Addr} : ∀ {vs : List V} {ds : List D}, Rps K F ι vs ds → ∃ zs : List (V × D), zs.map Prod.fst = vs ∧ zs.map Prod.snd = ds ∧ ∀ z ∈ zs, Rp K F ι z.1 z.2
  | _, _, .nil => ⟨[], rfl, rfl, fun _ h => by cases h⟩
  | _, _, .cons (v := v) (d := d) r t => by
    obtain ⟨zs, e1, e2, h⟩ := zip_rel t
    refine ⟨(v, d) :: zs, by rw [List.map_cons, e1], by rw [List.map_cons, e2], fun z hz => ?_⟩
    rcases List.mem_cons.mp hz with rfl | hz
    · exact r
    · exact h z hz
theorem rel_zip {K : PySem.W.Frag} {F : Hp} {ι : List Addr} : ∀ {zs : List (V × D)}, (∀ z ∈ zs, Rp K F ι z.1 z.2) → Rps K F ι (zs.map Prod.fst) (zs.map Prod.snd)
  | [], _ => .nil
  | z :: zs, h => .cons (h z List.mem_cons_self) (rel_zip fun y hy => h y (List.mem_cons_of_mem _ hy))
theorem each_vals : ∀ {zs : List (V × D)} {us : List Value}, Vals (zs.map Prod.fst) us → EachIs (fun u z => RelV z.1 u) us zs
  | [], _, h => by cases h; exact .nil
  | z :: zs, _, h => by
    cases h with
    | cons r t => exact .cons r (each_vals t)
theorem vals_each : ∀ {zs : List (V × D)} {us : List Value}, EachIs (fun u z => RelV z.1 u) us zs → Vals (zs.map Prod.fst) us
  | _, _, .nil => .nil
  | _, _, .cons r t => .cons r (vals_each t)
def rSortD (K : PySem.W.Frag) : List V → Hp → VK → Prop := fun xs H Q => ∃ (a : Addr) (zs : List (V × D)), xs = [V.ref a] ∧ (SqL K H a (zs.map Prod.fst) ∨ SqT K H a (zs.map Prod.fst)) ∧ (∀ z ∈ zs, Dp K H z.1 (toPy z.2)) ∧ SortOk (zs.map Prod.snd) ∧
  ∀ p, H p = none → Q (.ref p) (upd H p (.lst ((zs.mergeSort fun a b => leD a.2 b.2).map Prod.fst)))
theorem cr_sortD {X : Cx} (hu : X.A.units + 64 < cLine) : CallR X (.builtin "sorted") (rSortD X.K) := by
  intro pins s σ H vs us Q I r h
  obtain ⟨a, zs, rfl, hs, hd, ⟨h1, h2, h3⟩, q⟩ := h
  rw [Vals.ref1 r]
  obtain ⟨its, rv, sq, hz⟩ : ∃ its : List Value, Vals (zs.map Prod.fst) its ∧ SeqOf s.heap a its ∧ its.length ≤ sizeLine := by
    rcases hs with hs | hs
    · obtain ⟨its, rv, ⟨o, n, ho, hc, _, hdt⟩, hz⟩ := I.list hs
      exact ⟨its, rv, ⟨o, n, ho, .inl hc, hdt⟩, by rw [← rv.length]; exact hz⟩
    · obtain ⟨its, rv, ⟨o, ho, hc, n, hdt⟩, hz⟩ := I.tuple hs
      exact ⟨its, rv, ⟨o, n, ho, .inr hc, hdt⟩, by rw [← rv.length]; exact hz⟩
  have ea := each_vals rv
  have er : EachIs (fun u (z : V × D) => ∃ as, Reads s.heap u (toPy z.2) as) its zs := by
    have go : ∀ {zs : List (V × D)} {us : List Value}, (∀ z ∈ zs, Dp X.K H z.1 (toPy z.2)) → EachIs (fun u z => RelV z.1 u) us zs → EachIs (fun u (z : V × D) => ∃ as, Reads s.heap u (toPy z.2) as) us zs := by
      intro zs us hz e
      induction e with
      | nil => exact .nil
      | cons r t ih => exact .cons (Dp.reads I _ _ _ (hz _ List.mem_cons_self) r) (ih fun y hy => hz y (List.mem_cons_of_mem _ hy))
    exact go hd ea
  have emap : (zs.map Prod.snd).map toPy = zs.map fun z => toPy z.2 := by rw [List.map_map]; rfl
  rw [emap] at h1 h2
  have eh : EachIs (fun u (z : V × D) => ∃ as, Reads (sortingHeap (copyHeap s.heap its) (s.heap.objs.size + 1) its) u (toPy z.2) as) its zs := er.mono fun _ _ ⟨as, r⟩ => ⟨as, PyProof.Rows.Reads.keeps (fun _ _ => sorting_copy_old) r⟩
  refine sorted_seq sq hz (SortsAt.data (s := { s with heap := sortingHeap (copyHeap s.heap its) (s.heap.objs.size + 1) its }) (each_map (R := fun v d => ∃ as, Reads (sortingHeap (copyHeap s.heap its) (s.heap.objs.size + 1) its) v d as) (fun z : V × D => toPy z.2) eh) h1 h2 ?_) ?_
  · refine bound_map (enc := fun z : V × D => toPy z.2) (A := X.A.in1.in1) fun z hzm => ?_
    have := h3 z.2 (List.mem_map.mpr ⟨z, hzm, rfl⟩)
    have e : X.A.in1.in1.units = X.A.units + 2 := rfl
    omega
  · have eo := sortVals_data (h' := sortingHeap (copyHeap s.heap its) (s.heap.objs.size + 1) its) (R := fun u (z : V × D) => RelV z.1 u) (enc := fun z : V × D => toPy z.2) false ea eh h1
    have ro := vals_each eo
    have hln : ((zs.mergeSort fun a b => leD a.2 b.2).map Prod.fst).length ≤ sizeLine := by
      have := rv.length
      rw [List.length_map] at this ⊢
      rw [List.length_mergeSort]
      omega
    obtain ⟨ep, he'⟩ := sortedAll_at s.heap its (sortVals (dataKind (sortingHeap (copyHeap s.heap its) (s.heap.objs.size + 1) its) (zs.map fun z => toPy z.2)) false its its).toArray
    refine ⟨.ref _, upd H (s.heap.objs.size + 1) (.lst ((zs.mergeSort fun a b => leD a.2 b.2).map Prod.fst)), I.laid (t' := s.toks) (fun _ _ => sortedAll_old) (Nat.le_succ _) ⟨hln, _, ep, ro, he'⟩, rfl, q _ (I.hok.fresh (Nat.le_succ _))⟩
theorem pys_mem : ∀ {ds : List D}, pys ds = true → ∀ d ∈ ds, d.py = true
  | d :: ds, h, e, he => by
    rw [pys] at h
    rcases List.mem_cons.mp he with rfl | he
    · exact (and_t h).1
    · exact pys_mem (and_t h).2 e he
open Classical in
theorem v_sorted {X : Cx} {W : WX} {pos p : Pos} {e : Expr} {f : VA} (m : Bool) (hu : X.A.units + 64 < cLine) (hm : X.mg "sorted" = none) (ha : A' X W [e] f) (hg : Gl X "sorted" := by rfl) (he : starEach [e] X.env = (false, eval e X.env) :: starEach [] X.env := by rfl) : E' X W (.Call (.Name "sorted" p) [e] [] pos) (eCall (kSorted m) f) := by
  refine v_callB (cr_sortD hu) (fun F H ι σ s vs ds Q R q z => ?_) hm ha hg (he := he)
  have go : ∀ {a : Addr} {us : List V} {xs : List D}, (SqL X.K H a us ∨ SqT X.K H a us) → Rps X.K F ι us xs → PostE X.K W F H ι σ (if pys xs = true ∧ SortOk xs then newL m (xs.mergeSort leD) s else .bad) Q → rSortD X.K [.ref a] H Q := fun {a us xs} hs r z => by
    split at z
    · rename_i hc
      obtain ⟨c1, c2⟩ := hc
      obtain ⟨zs, e1, e2, hz⟩ := zip_rel r
      subst e1 e2
      refine ⟨a, zs, rfl, hs, fun y hy => (hz y hy).dp R.same (pys_mem c1 y.2 (List.mem_map.mpr ⟨y, hy, rfl⟩)), c2, ?_⟩
      have e3 : (zs.map Prod.snd).mergeSort leD = (zs.mergeSort fun a b => leD a.2 b.2).map Prod.snd := (sort_maps Prod.snd fun _ _ _ _ => rfl).symm
      rw [e3] at z
      exact new_lst R (rel_zip fun y hy => hz y ((List.mem_mergeSort).mp hy)) z
    · exact z.elim
  unfold kSorted at z
  split at z
  · obtain ⟨v, rfl, q1⟩ := q.one_inv
    have y := R.at q1
    split at z
    · rename_i xs e
      rw [e] at y
      obtain ⟨t, us, rfl, hs, r⟩ := y.lstD R.same
      exact go (.inl (.of hs)) r z
    · rename_i xs e
      rw [e] at y
      obtain ⟨t, us, rfl, hs, r⟩ := y.tupD R.same
      exact go (.inr hs) r z
    · rename_i xs e
      rw [e] at y
      obtain ⟨t, us, rfl, hs, r⟩ := y.scrD R.same
      exact go (.inl hs) r z
    · exact z.elim
  · exact z.elim
end
end VL

set_option Elab.async false
set_option linter.all false
set_option maxRecDepth 20000
/-! Defs that work on the store; more walks; more operators. -/
namespace VL
open PySem PyProof.Rows PySem.Spec L2
noncomputable section

/-! ### a def that sees and changes its caller's store -/
inductive OutS where
  | ok (d : D) (η : List Cell) | exc (C : Str) (fs : List (Str × D)) (η : List Cell) | bad
abbrev SF := List D → List Cell → OutS
section
variable (K : PySem.W.Frag)
abbrev Rel0 (F H : Hp) (ι : List Addr) (η : List Cell) : Prop := Rel K F H ι ⟨[], η⟩ []
def PostFS (F H : Hp) (ι : List Addr) (r : OutS) (Q : VK) (E : XK) : Prop := match r with
  | .ok d η => ∀ F' H' ι' v, Rel0 K F' H' ι' η → Ext F H ι F' H' ι' → Rp K F' ι' v d → Q v H'
  | .exc C fs η => ∀ F' H' ι' cls dx, Rel0 K F' H' ι' η → Ext F H ι F' H' ι' → ExcAt K F' H' ι' C fs cls dx → E cls dx H'
  | .bad => False
def spS (n : Nat) (G : SF) : Sp := fun vs H Q E => ∃ ds F ι η, ds.length = n ∧ Rel0 K F H ι η ∧ Rps K F ι vs ds ∧ PostFS K F H ι (G ds η) Q E
end
def runS (n : Nat) (g : VS) (ds : List D) (η : List Cell) : OutS := match g ⟨ds.map some ++ List.replicate (n - ds.length) none, η⟩ with
  | .nx s => .ok .non s.η
  | .rt d s => .ok d s.η
  | .exc C fs s => .exc C fs s.η
  | _ => .bad
theorem Rel.bare {K : PySem.W.Frag} {F H : Hp} {ι : List Addr} {s : S} {σ : L2.St} (R : Rel K F H ι s σ) : Rel0 K F H ι s.η :=
  ⟨R.same, fun i d q => by simp at q, rfl, R.ilen, R.cell, R.inj⟩
theorem Rel.entryS {K : PySem.W.Frag} {F H : Hp} {ι : List Addr} {η : List Cell} {N : List Str} {vs : List V} {ds : List D} (R : Rel0 K F H ι η) (r : Rps K F ι vs ds) (hl : ds.length ≤ N.length) :
    Rel K F H ι ⟨ds.map some ++ List.replicate (N.length - ds.length) none, η⟩ (L2.start N vs) := by
  have hlen := r.length
  refine ⟨R.same, fun i d q => ?_, ?_, R.ilen, R.cell, R.inj⟩
  · have q2 : (ds.map some ++ List.replicate (N.length - ds.length) none)[i]? = some (some d) := q
    have hi : i < ds.length := by
      apply Classical.byContradiction
      intro hn
      rw [List.getElem?_append_right (by simpa using hn), List.getElem?_replicate] at q2
      split at q2 <;> cases q2
    rw [List.getElem?_append_left (by simpa using hi), List.getElem?_map] at q2
    obtain ⟨d', e1, e2⟩ := Option.map_eq_some_iff.mp q2
    cases e2
    obtain ⟨v, e3, e4⟩ := r.get e1
    refine ⟨v, ?_, e4⟩
    unfold L2.start
    rw [List.getElem?_append_left (by rw [List.length_map]; omega), List.getElem?_map, e3]
    rfl
  · show (L2.start N vs).length = (ds.map some ++ List.replicate (N.length - ds.length) none).length
    unfold L2.start
    simp only [List.length_append, List.length_map, List.length_replicate]
    omega
section
variable {P : Program} {w : World} {K : PySem.W.Frag} {mg : Str → Option Value} {base : Heap} {x qual : Str} {params : Arguments} {body : List Stmt} {scope : Scope} {dvs : List V} {kws : List (Str × V)} {f : Addr} {fd : FuncData}
theorem ok_fnS {N ps : List Str} {k : Nat} {g : VS} (D₀ : FunD K x qual params body scope dvs kws f fd) (S₀ : FnScope N ps scope)
    (hb : ∀ (cdv : Value) (A : Around) (outer : List Env) (s : Shared) (H : Hp) (E : XK), Room k (A.deeper (envOfC qual scope s.heap.objs.size f cdv)) → B' (cxOf (L2.CX P w) P w K mg base N qual scope f cdv A outer s H E) (wB E) body g) :
    FnOk P w K mg base (L2.CX P w) (k + 1) f fd ps (spS K ps.length (runS N.length g)) := by
  refine D₀.ok S₀ (fun vs H Q E h => ?_) (fun cdv A outer s H vs Q E hr h => ?_)
  · obtain ⟨ds, F, ι, η, hl, _, r, _⟩ := h
    rw [r.length, hl]
  · obtain ⟨ds, F, ι, η, hl, R, r, p⟩ := h
    have hpl : ps.length ≤ N.length := by
      have := congrArg List.length S₀.pre
      rw [List.length_take] at this
      omega
    refine ⟨_, hb cdv A outer s H E hr, F, ι, _, Rel.entryS R r (by omega), ?_⟩
    unfold runS at p
    generalize g ⟨ds.map some ++ List.replicate (N.length - ds.length) none, η⟩ = o at p
    cases o with
    | nx s' => exact fun F' H' ι' σ' R' x' => p F' H' ι' .non R'.bare x' .non
    | rt d s' => exact fun F' H' ι' σ' v R' x' q => p F' H' ι' v R'.bare x' q
    | exc C fs s' => exact fun F' H' ι' σ' cls dx R' x' q => p F' H' ι' cls dx R'.bare x' q
    | bk s' => exact p.elim
    | ct s' => exact p.elim
    | bad => exact p.elim
end
def callS (G : SF) (f : VA) (s : S) : Res D := (f s).bind fun ds s => match G ds s.η with
  | .ok d η => .ok d ⟨s.ρ, η⟩
  | .exc C fs η => .exc C fs ⟨s.ρ, η⟩
  | .bad => .bad
section
variable {X : Cx} {W : WX} {k n : Nat} {f : Addr} {fd : FuncData} {ps : List Str} {ds : List Value} {dvs : List V} {dds : List D} {x : Str} {p pos : Pos} {e : Expr} {es : List Expr} {fa : VA} {G : SF}
theorem v_callS (F₀ : FnOk X.prog X.w X.K X.mg X.base (L2.CX X.prog X.w) k f fd ps (spS X.K ps.length G)) (hr : Room k X.A) (hm : X.mg x = some (.ref f)) (hk : PySem.W.keepIn X.K (.ref f) = true) (hb : L2.Binds X.K fd ps [])
    (tk : Takes X W) (ha : A' X W (e :: es) fa) (hn : ArgN fa ps.length) (hg : Gl X x := by rfl)
    (hdb : (x == ("__debug__" : Str)) = false := by decide) (he : starEach (e :: es) X.env = (false, eval e X.env) :: starEach es X.env := by rfl) (hpl : (backTo pos (starEach es X.env)).any (·.1) = false := by rfl) :
    E' X W (.Call (.Name x p) (e :: es) [] pos) (callS G fa) := by
  refine imE (pe_callSD F₀ hr hg hm hk hb .nil (passAt tk) ha hdb he hpl) fun σ H Q ⟨F, ι, s, R, z⟩ => ?_
  refine ⟨F, ι, s, R, ?_⟩
  have hz : PostE X.K W F H ι σ (callS G fa s) Q := z
  unfold callS at hz
  cases q : fa s with
  | ok ls s1 =>
    rw [q, bind_ok] at hz
    intro F1 H1 ι₁ vs R1 x1 q1
    have z1 := Post.ref hz x1
    refine ⟨ls, F1, ι₁, s1.η, hn s ls s1 q, R1.bare, by rw [List.append_nil]; exact q1, ?_⟩

    cases e : G ls s1.η with
    | ok d η =>
      rw [e] at z1
      intro F' H' ι' v R' x' r
      exact z1 F' H' ι' v (R1.back x' R') x' r
    | exc C fs η =>
      rw [e] at z1
      intro F' H' ι' cls dx R' x' r
      exact z1 F' H' ι' cls dx (R1.back x' R') x' r
    | bad => rw [e] at z1; exact z1.elim
  | exc C fs s1 => rw [q, bind_exc] at hz; exact hz
  | bad => rw [q, bind_bad] at hz; exact hz
end

/-! ### a list or a tuple is walked, whichever it is -/
def itS (f : VE) (s : S) : Res (List D) := (f s).bind fun d s => match d with
  | .lst ds => .ok ds s
  | .tup ds => .ok ds s
  | _ => .bad
section
variable {X : Cx} {W : WX} {pos : Pos} {tg iter a b : Expr} {f g : VE}
theorem pi_or {w1 w2 : TI} (h1 : PI X tg iter w1) (h2 : PI X tg iter w2) : PI X tg iter (fun σ H R => w1 σ H R ∨ w2 σ H R) := ⟨fun pins s σ H R I h => h.elim (h1.run pins s σ H R I) (h2.run pins s σ H R I)⟩
theorem i_seq (he : E' X W iter f) : I' X W tg iter (itS f) := by
  refine imI (pi_or (i_list he) (i_tup he)) fun σ H Q ⟨F, ι, s, R, h⟩ => ?_
  unfold itS at h
  cases q : f s with
  | ok d s1 =>
    rw [q, bind_ok] at h
    cases d with
    | lst ds => exact .inl ⟨F, ι, s, R, by unfold itL; rw [q, bind_ok]; exact h⟩
    | tup ds => exact .inr ⟨F, ι, s, R, by unfold itT; rw [q, bind_ok]; exact h⟩
    | _ => exact h.elim
  | exc C fs s1 => rw [q, bind_exc] at h; exact .inl ⟨F, ι, s, R, by unfold itL; rw [q, bind_exc]; exact h⟩
  | bad => rw [q, bind_bad] at h; exact h.elim

/-! ### the rules by name, for chains; minus -/
theorem ol_lt : Op2 X W (rI0 fun i j => .bl (decide (i < j))) kLt := o_int fun _ _ i j => .bl _
theorem ol_le : Op2 X W (rI0 fun i j => .bl (decide (i ≤ j))) kLe := o_int fun _ _ i j => .bl _
theorem ol_gt : Op2 X W (rI0 fun i j => .bl (decide (j < i))) kGt := o_int fun _ _ i j => .bl _
theorem ol_ge : Op2 X W (rI0 fun i j => .bl (decide (j ≤ i))) kGe := o_int fun _ _ i j => .bl _
def e1 (k : D → S → Res D) (f : VE) (s : S) : Res D := (f s).bind k
def kNeg (d : D) (s : S) : Res D := match d with
  | .int i => .ok (.int (-i)) s
  | _ => .bad
theorem v_neg (ha : E' X W a f) : E' X W (.UnaryOp .USub a pos) (e1 kNeg f) := by
  refine imE (pe_un un_neg ha) fun σ H Q ⟨F, ι, s, R, h⟩ => ?_
  refine Post.run R h fun F1 H1 ι₁ s1 v d R1 x1 q1 h1 => ?_
  unfold kNeg at h1
  split at h1
  · cases q1; exact ⟨_, rfl, Post.fin h1 R1 (.int _)⟩
  · exact h1.elim
end
/-! ### what is a cell becomes data (no step of the program) -/
def eFrz (f : VE) (s : S) : Res D := (f s).bind fun d s => match d with
  | .ptr k => (match s.η[k]? with
    | some (.lst xs) => .ok (.lst xs) ⟨s.ρ, s.η.set k (.fwd (.lst xs))⟩
    | some (.dK xs) => .ok (.dK xs) ⟨s.ρ, s.η.set k (.fwd (.dK xs))⟩
    | some (.dT xs) => .ok (.dT xs) ⟨s.ρ, s.η.set k (.fwd (.dT xs))⟩
    | some (.fwd d) => .ok d s
    | _ => .bad)
  | d => .ok d s
theorem v_frz {X : Cx} {W : WX} {e : Expr} {f : VE} (h : E' X W e f) : E' X W e (eFrz f) := by
  refine imE h fun σ H Q ⟨F, ι, s, R, z⟩ => ?_
  refine Post.run R z fun F1 H1 ι₁ s1 v d R1 x1 q1 h1 => ?_
  have same : ∀ {a : Addr} {o : HO}, F1 a = none → Same F1 (upd F1 a o) := fun {a o} n b u e => by rw [upd_ne (ne_of_none e n)]; exact e
  cases q1 with
  | @ptr k a e =>
    dsimp only at h1
    have hk : k < s1.η.length := by rw [← R1.ilen]; exact (List.getElem?_eq_some_iff.mp e).1
    have hc := R1.cell k a _ e (List.getElem?_eq_getElem hk)
    rw [List.getElem?_eq_getElem hk] at h1
    cases q : s1.η[k] with
    | lst xs =>
      rw [q] at hc h1
      obtain ⟨n, vs, hH, r⟩ := hc
      have rp : Rp X.K (upd F1 a (.lst vs)) ι₁ (.ref a) (.lst xs) := .lst upd_same (r.mono (same n) (.refl ι₁))
      obtain ⟨R2, x2⟩ := R1.freeze e hH n rp
      exact Post.fin' h1 R2 x2 rp
    | dK xs =>
      rw [q] at hc h1
      obtain ⟨n, vs, hH, r⟩ := hc
      have rp : Rp X.K (upd F1 a (.dK vs)) ι₁ (.ref a) (.dK xs) := .dK upd_same (r.mono (same n) (.refl ι₁))
      obtain ⟨R2, x2⟩ := R1.freeze e hH n rp
      exact Post.fin' h1 R2 x2 rp
    | dT xs =>
      rw [q] at hc h1
      obtain ⟨n, vs, hH, r⟩ := hc
      have rp : Rp X.K (upd F1 a (.dT vs)) ι₁ (.ref a) (.dT xs) := .dT upd_same (r.mono (same n) (.refl ι₁))
      obtain ⟨R2, x2⟩ := R1.freeze e hH n rp
      exact Post.fin' h1 R2 x2 rp
    | ins C fs => rw [q] at h1; exact h1.elim
    | fwd d =>
      rw [q] at hc h1
      exact Post.fin h1 R1 hc.2
  | non => exact Post.fin h1 R1 .non
  | bl b => exact Post.fin h1 R1 (.bl b)
  | int i => exact Post.fin h1 R1 (.int i)
  | str x => exact Post.fin h1 R1 (.str x)
  | ty n => exact Post.fin h1 R1 (.ty n)
  | tup h r => exact Post.fin h1 R1 (.tup h r)
  | lst h r => exact Post.fin h1 R1 (.lst h r)
  | scr h r => exact Post.fin h1 R1 (.scr h r)
  | dK h r => exact Post.fin h1 R1 (.dK h r)
  | dT h r => exact Post.fin h1 R1 (.dT h r)
  | obj h r => exact Post.fin h1 R1 (.obj h r)
end
end VL

set_option Elab.async false
set_option linter.all false
set_option maxRecDepth 20000
/-! The end of a law. -/
namespace VL
open PySem PyProof.Rows PySem.Spec L2
theorem fn_calm {P : Program} {w : World} {K : PySem.W.Frag} {mg : Str → Option Value} {base : Heap} {k : Nat} {f : Addr} {fd : FuncData} {ps : List Str} {sp : Sp} (F : FnOk P w K mg base (L2.CX P w) k f fd ps sp) :
    FnOk P w K mg base CX0 k f fd ps (fun vs H Q _ => sp vs H Q E0) := by
  refine ⟨fun vs H Q E h => F.len _ _ _ _ h, fun A outer s H args us vs Q E hr e0 hb r h => ?_⟩
  refine codeAny_mono (F.run A outer s H args us vs Q E0 hr e0 hb r h) fun r s' hq => ?_
  cases r with
  | error e =>
    obtain ⟨_, _, _, _, _, _, _, _, _, _, _, _, z⟩ := hq
    exact z.elim
  | ok fl => cases fl <;> exact hq
/-- the script as data -/
def scrD (ns : List Int) : D := .scr (ns.map D.int)
/-- what the law's own call is worth -/
theorem law_end {P : Program} {w : World} {K : PySem.W.Frag} {mg : Str → Option Value} {base : Heap} {k : Nat} {f : Addr} {fd : FuncData} {G : PF} {x : Str} (hG : ∀ ns : List Int, ns.length ≤ 63 → G [scrD ns] = .ok (.bl true)) :
    ∀ (H : Hp) (a : Addr) (ns : List Int), ns.length ≤ 63 → Only H → SqL K H a (ns.map V.int) → (fun vs H Q _ => spP K 1 G vs H Q E0 : Sp) [.ref a] H (fun v _ => v = .bl true) fun _ _ _ => False := by
  intro H a ns hl _ hS
  refine ⟨[scrD ns], H, rfl, .refl H, Rps.one (.scr hS (Rps.of_ints ns)), ?_⟩
  rw [hG ns hl]
  intro F' H' v _ r
  cases r
  rfl
end VL

set_option Elab.async false
set_option linter.all false
set_option maxRecDepth 20000
/-! Plain facts about the data level. -/
namespace VL
open PySem PyProof.Rows PySem.Spec L2 PySem.W
theorem eqI (i j : Int) (s : S) : kEq (.int i) (.int j) s = .ok (.bl (decide (i = j))) s := by
  simp [kEq, look, okEq, D.py, toPy, SeqAt.shaped, PyData.canLay0, PyData.depth, PyData.eqv]
  by_cases h : i = j <;> simp [h]
theorem neI (i j : Int) (s : S) : kNe (.int i) (.int j) s = .ok (.bl (!decide (i = j))) s := by
  simp [kNe, look, okEq, D.py, toPy, SeqAt.shaped, PyData.canLay0, PyData.depth, PyData.eqv]
  by_cases h : i = j <;> simp [h]
/-- fit to be data of a text -/
theorem eqS {x y : Str} (hx : PyData.canLay0 (.str x) = true) (hy : PyData.canLay0 (.str y) = true) (s : S) : kEq (.str x) (.str y) s = .ok (.bl (decide (x = y))) s := by
  simp [kEq, look, okEq, D.py, toPy, SeqAt.shaped, PyData.depth, PyData.eqv, hx, hy]
  by_cases h : x = y <;> simp [h]
theorem neS {x y : Str} (hx : PyData.canLay0 (.str x) = true) (hy : PyData.canLay0 (.str y) = true) (s : S) : kNe (.str x) (.str y) s = .ok (.bl (!decide (x = y))) s := by
  simp [kNe, look, okEq, D.py, toPy, SeqAt.shaped, PyData.depth, PyData.eqv, hx, hy]
  by_cases h : x = y <;> simp [h]
theorem pf_non : D.pf .non = true := by simp only [D.pf]
theorem pf_bl (b : Bool) : D.pf (.bl b) = true := by simp only [D.pf]
theorem pf_int (i : Int) : D.pf (.int i) = true := by simp only [D.pf]
theorem pf_str (x : Str) : D.pf (.str x) = true := by simp only [D.pf]
theorem pf_tup (ds : List D) : D.pf (.tup ds) = pfs ds := by simp only [D.pf]
theorem pf_lst (ds : List D) : D.pf (.lst ds) = pfs ds := by simp only [D.pf]
theorem pf_scr (ds : List D) : D.pf (.scr ds) = pfs ds := by simp only [D.pf]
theorem pfs_nil : pfs [] = true := by simp only [pfs]
theorem pfs_cons (d : D) (ds : List D) : pfs (d :: ds) = (d.pf && pfs ds) := by simp only [pfs]
theorem py_int (i : Int) : D.py (.int i) = true := by simp only [D.py]
theorem py_tup (ds : List D) : D.py (.tup ds) = pys ds := by simp only [D.py]
theorem py_lst (ds : List D) : D.py (.lst ds) = pys ds := by simp only [D.py]
theorem pys_nil : pys [] = true := by simp only [pys]
theorem pys_cons (d : D) (ds : List D) : pys (d :: ds) = (d.py && pys ds) := by simp only [pys]
/-! ### loops -/
theorem loopF_nil (g : VG) (body : VS) (s : S) : loopF g body [] s = .nx s := rfl
theorem loopF_cons (g : VG) (body : VS) (d : D) (r : List D) (s : S) : loopF g body (d :: r) s = match g d s with
    | .nx s => (match body s with
      | .nx s => loopF g body r s
      | .ct s => loopF g body r s
      | .bk s => .nx s
      | .rt d s => .rt d s
      | .exc C fs s => .exc C fs s
      | .bad => .bad)
    | _ => .bad := by
  rw [loopF] <;> rfl
/-- a loop that runs to its end, by what holds between its turns -/
theorem loopF_inv {g : VG} {body : VS} (I : Nat → S → Prop) : ∀ (ds : List D) (i : Nat) (s : S), I i s →
    (∀ j d s, ds[j]? = some d → I (i + j) s → ∃ s1 s2, g d s = .nx s1 ∧ (body s1 = .nx s2 ∨ body s1 = .ct s2) ∧ I (i + j + 1) s2) → ∃ s', loopF g body ds s = .nx s' ∧ I (i + ds.length) s'
  | [], i, s, h, _ => ⟨s, rfl, h⟩
  | d :: r, i, s, h, hs => by
    obtain ⟨s1, s2, e1, e2, h2⟩ := hs 0 d s rfl h
    have h2 : I (i + 1) s2 := h2
    obtain ⟨s', e3, h3⟩ := loopF_inv I r (i + 1) s2 h2 fun j d s e q => by
      have := hs (j + 1) d s e (by rw [Nat.add_assoc, Nat.add_comm 1 j] at q; exact q)
      rw [Nat.add_assoc i 1 j, Nat.add_comm 1 j]
      exact this
    refine ⟨s', ?_, by rw [List.length_cons, Nat.add_comm r.length 1, ← Nat.add_assoc]; exact h3⟩
    rw [loopF_cons, e1]
    rcases e2 with e2 | e2 <;> (dsimp only; rw [e2]; exact e3)
/-- a comprehension whose turns leave the store -/
theorem lcGo_map {g : VG} {tt : VB} {fe : VE} {ρ : List (Option D)} {η : List Cell} (p : D → Bool) (h : D → D) : ∀ (ds acc : List D), acc.length + ds.length ≤ sizeLine →
    (∀ d ∈ ds, ∃ s1 s2, g d ⟨ρ, η⟩ = .nx s1 ∧ tt s1 = .ok (p d) s2 ∧ s2.η = η ∧ (p d = true → ∃ s3, fe s2 = .ok (h d) s3 ∧ s3.η = η)) → lcGo g tt fe ρ ds acc η = .ok (acc ++ (ds.filter p).map h) ⟨ρ, η⟩
  | [], acc, _, _ => by rw [lcGo]; simp
  | d :: r, acc, hl, H => by
    obtain ⟨s1, s2, e1, e2, e3, e4⟩ := H d List.mem_cons_self
    rw [List.length_cons] at hl
    rw [lcGo, e1]
    dsimp only
    rw [e2]
    cases hp : p d with
    | false =>
      dsimp only
      rw [e3, lcGo_map p h r acc (by omega) fun d hd => H d (List.mem_cons_of_mem _ hd)]
      rw [List.filter_cons, hp]
      simp
    | true =>
      obtain ⟨s3, e5, e6⟩ := e4 hp
      dsimp only
      rw [e5]
      dsimp only
      rw [if_pos (by omega), e6, lcGo_map p h r (acc ++ [h d]) (by simp; omega) fun d hd => H d (List.mem_cons_of_mem _ hd)]
      rw [List.filter_cons, hp]
      simp
theorem rgD_len (lo : Int) (n : Nat) : (rgD lo n).length = n := by unfold rgD; rw [List.length_map, List.length_range]
theorem rgD_get {lo : Int} {n i : Nat} {d : D} (h : (rgD lo n)[i]? = some d) : i < n ∧ d = .int (lo + (i : Nat)) := by
  unfold rgD at h
  rw [List.getElem?_map] at h
  obtain ⟨j, h1, h2⟩ := Option.map_eq_some_iff.mp h
  obtain ⟨h3, h4⟩ := List.getElem?_eq_some_iff.mp h1
  rw [List.length_range] at h3
  rw [List.getElem_range] at h4
  subst h4
  exact ⟨h3, h2.symm⟩
theorem rgD_mem {lo : Int} {n : Nat} {d : D} (h : d ∈ rgD lo n) : ∃ i, i < n ∧ d = .int (lo + (i : Nat)) := by
  obtain ⟨i, e⟩ := List.mem_iff_getElem?.mp h
  exact ⟨i, rgD_get e⟩
theorem small62_of {i : Int} (h : -4611686018427387904 ≤ i ∧ i < 4611686018427387904) : small62 i := ⟨by omega, by omega⟩
/-! ### sorting -/
theorem le_int (a b : Int) : leD (.int a) (.int b) = decide (a ≤ b) := by
  have e := congrFun (congrFun (dataLe_int (fun x : Int => x)) a) b
  rw [← e]
  show dataLe false toPy (.int a) (.int b) = _
  rw [dataLe_eq, dataLe_eq]
  rfl
theorem sort_ints (ns : List Int) : (ns.map D.int).mergeSort leD = (ns.mergeSort fun a b => decide (a ≤ b)).map D.int :=
  (sort_maps D.int fun a _ b _ => (le_int a b).symm).symm
theorem sortOk_ints (ns : List Int) : SortOk (ns.map D.int) := by
  have e : (ns.map D.int).map toPy = ns.map PyData.int := by rw [List.map_map]; rfl
  refine ⟨?_, ?_, fun d hd => ?_⟩
  · rw [e]; exact AllAlike.of fun _ _ => rfl
  · rw [e]; exact Sortable.others fun _ => ⟨fun z => (nomatch z), fun _ z => (nomatch z)⟩
  · obtain ⟨n, _, rfl⟩ := List.mem_map.mp hd
    exact Nat.zero_le _
theorem pys_ints (ns : List Int) : pys (ns.map D.int) = true := by
  induction ns with
  | nil => rfl
  | cons n r ih => rw [List.map_cons, pys, ih]; rfl
theorem pfs_ints (ns : List Int) : pfs (ns.map D.int) = true := by
  induction ns with
  | nil => rfl
  | cons n r ih => rw [List.map_cons, pfs, ih]; rfl
/-- two of them -/
theorem sort_two (a b : Int) : [D.int a, D.int b].mergeSort leD = if a ≤ b then [D.int a, D.int b] else [D.int b, D.int a] := by
  have e := sort_ints [a, b]
  simp only [List.map_cons, List.map_nil] at e
  rw [e]
  by_cases h : a ≤ b <;> simp [List.mergeSort, List.MergeSort.Internal.splitInTwo, List.merge, h]
theorem sortOk_two (a b : Int) : SortOk [D.int a, D.int b] := sortOk_ints [a, b]
end VL

set_option Elab.async false
set_option linter.all false
set_option maxRecDepth 20000
/-! The numbers that a law draws from its script: what every law begins with. -/
namespace VL
open PySem PyProof.Rows PySem.Spec L2 PySem.W
noncomputable section
theorem while_inv {c : VB} {body : VS} {Q : S → Prop} (I : S → Prop) (μ : S → Nat)
    (step : ∀ s, I s → (∃ s1, c s = .ok false s1 ∧ Q s1) ∨ ∃ s1 s2, c s = .ok true s1 ∧ (body s1 = .nx s2 ∨ body s1 = .ct s2) ∧ I s2 ∧ μ s2 < μ s) : ∀ s, I s → ∃ s', sWhile c body s = .nx s' ∧ Q s' := by
  have go : ∀ (n : Nat) (s : S), μ s ≤ n → I s → ∃ s', sWhile c body s = .nx s' ∧ Q s' := by
    intro n
    induction n with
    | zero =>
      intro s hn hI
      rcases step s hI with ⟨s1, e, q⟩ | ⟨s1, s2, _, _, _, h⟩
      · exact ⟨s1, by rw [while_eq, e], q⟩
      · omega
    | succ n ih =>
      intro s hn hI
      rcases step s hI with ⟨s1, e, q⟩ | ⟨s1, s2, e, e2, hI2, h⟩
      · exact ⟨s1, by rw [while_eq, e], q⟩
      · obtain ⟨s', e3, q⟩ := ih s2 (by omega) hI2
        refine ⟨s', ?_, q⟩
        rw [while_eq, e]
        rcases e2 with e2 | e2 <;> (dsimp only; rw [e2]; exact e3)
  exact fun s => go (μ s) s (Nat.le_refl _)
theorem cmulR (i j : Int) (h : -1000000000000 ≤ j ∧ j ≤ 1000000000000) : CMul i j := .inr (by omega)
theorem cmulL (i j : Int) (h : -1000000000000 ≤ i ∧ i ≤ 1000000000000) : CMul i j := .inl (by omega)
theorem cdiv_of (i j : Int) (h : 0 < j ∧ j < 1073741824) : CDiv i j := h
theorem cpow_of : CPow 10 18 := ⟨by decide, by decide, by decide⟩

/-! ### _law_row -/
def lrBody : VS := (sSeq (sSet 4 (e2 kMod (eCall kIntOf (aCons (e2 kAdd (e2 kMul (eVar 4) (eC (D.int 16807))) (e2 kMul (eC (D.int 271)) (e2 kAdd (eVar 5) (eC (D.int 3))))) aNil)) (eC (D.int 2147483629))))
    (sIf (bOf (e2 kGe (eCall kAbs (aCons (eVar 0) aNil)) (e2 kPow (eC (D.int 10)) (eC (D.int 18))))) (sSeq (sExpr (eApp (eVar 2) (aCons (e2 kMod (eCall kIntOf (aCons (eVar 3) aNil)) (eC (D.int 1009))) aNil)))
    (sSet 3 (e2 kDiv (eVar 3) (eC (D.int 1009))))) (sExpr (eApp (eVar 2) (aCons (e2 kMod (eCall kIntOf (aCons (e2 kDiv (eVar 4) (eC (D.int 7))) aNil)) (eC (D.int 1009))) aNil)))))
def lawRow : PF := runP 6 (sSeq (sSet 2 (eLst true aNil))
    (sSeq (sSet 3 (eCall kAbs (aCons (eVar 0) aNil)))
    (sSeq (sSet 4 (e2 kMod (eCall kIntOf (aCons (e2 kAdd (e2 kMul (eVar 3) (eC (D.int 48271))) (eC (D.int 69621))) aNil)) (eC (D.int 2147483647))))
    (sSeq (sFor (gNm 5) (itR1 (aCons (eVar 1) aNil)) lrBody)
    (sRet (eFrz (eVar 2)))))))
/-- numbers below 1009 -/
def Nums (l : List Int) : Prop := ∀ x ∈ l, 0 ≤ x ∧ x < 1009
theorem Nums.app {l m : List Int} (h : Nums l) (k : Nums m) : Nums (l ++ m) := fun x hx => (List.mem_append.mp hx).elim (h x) (k x)
theorem Nums.one {x : Int} (h : 0 ≤ x ∧ x < 1009) : Nums [x] := fun y hy => by
  have : y = x := by simpa using hy
  subst this
  exact h
theorem mod1009 (x : Int) : 0 ≤ x % 1009 ∧ x % 1009 < 1009 := ⟨Int.emod_nonneg _ (by decide), Int.emod_lt_of_pos _ (by decide)⟩
def lrSt (c : Int) (m : Nat) (rest mixed : Int) (k : Option D) (row : List Int) : S := ⟨[some (.int c), some (.int m), some (.ptr 0), some (.int rest), some (.int mixed), k], [.lst (row.map D.int)]⟩
theorem lr_turn (c : Int) (m : Nat) (rest mixed : Int) (k : Int) (row : List Int) (hl : row.length < 100000) :
    ∃ rest' mixed' x, lrBody (lrSt c m rest mixed (some (.int k)) row) = .nx (lrSt c m rest' mixed' (some (.int k)) (row ++ [x])) ∧ 0 ≤ x ∧ x < 1009 := by
  have hs : row.length < sizeLine := by rw [sizeLine_eq]; omega
  by_cases hc : (10 : Int) ^ (18 : Nat) ≤ (if c < 0 then -c else c)
  · refine ⟨rest / 1009, (mixed * 16807 + 271 * (k + 3)) % 2147483629, rest % 1009, ?_, mod1009 rest⟩
    have hc2 : (1000000000000000000 : Int) ≤ (if c < 0 then -c else c) := hc
    simp [lrBody, lrSt, runP, runS, sSeq, sExpr, sRet, sRetN, sSet, sIf, sNil, sRaise, sBrk, sCnt, sFor, sAsg, sAug, eVar, eC, e2, e1, eChain, bOf, tAnd', tOr', tNot', eAnd, eOr, eNot, eIf, callP, callS, aCons, aNil, eTup, eLst, newL, eCall, tTru, truD, kInt, kIntC, S.put, gNm, gTup', gCons', gNil', itS, itL, itT, itR1, itR2, kIx, kSl, eSl, oNone, oSome, kLen, kAbs, kMax2, kMin2, kIntOf, kAll, kAny, kTupOf, kLstOf, kIsi, eApp, kApp, eFrz, look, tYes', kNeg, kIs, kIsNot, wipeD, Res.bind, Res.bindS, pf_non, pf_bl, pf_int, pf_str, pf_tup, pf_lst, pf_scr, pfs_nil, pfs_cons, pfF, eqI, neI, eqS, neS, decide_eq_true_eq, cmulR, cmulL, cdiv_of, cpow_of, hs, hc2]
  · refine ⟨rest, (mixed * 16807 + 271 * (k + 3)) % 2147483629, (mixed * 16807 + 271 * (k + 3)) % 2147483629 / 7 % 1009, ?_, mod1009 _⟩
    have hc2 : ¬ (1000000000000000000 : Int) ≤ (if c < 0 then -c else c) := hc
    simp [lrBody, lrSt, runP, runS, sSeq, sExpr, sRet, sRetN, sSet, sIf, sNil, sRaise, sBrk, sCnt, sFor, sAsg, sAug, eVar, eC, e2, e1, eChain, bOf, tAnd', tOr', tNot', eAnd, eOr, eNot, eIf, callP, callS, aCons, aNil, eTup, eLst, newL, eCall, tTru, truD, kInt, kIntC, S.put, gNm, gTup', gCons', gNil', itS, itL, itT, itR1, itR2, kIx, kSl, eSl, oNone, oSome, kLen, kAbs, kMax2, kMin2, kIntOf, kAll, kAny, kTupOf, kLstOf, kIsi, eApp, kApp, eFrz, look, tYes', kNeg, kIs, kIsNot, wipeD, Res.bind, Res.bindS, pf_non, pf_bl, pf_int, pf_str, pf_tup, pf_lst, pf_scr, pfs_nil, pfs_cons, pfF, eqI, neI, eqS, neS, decide_eq_true_eq, cmulR, cmulL, cdiv_of, cpow_of, hs, hc2]
theorem lawRow_ok (c : Int) (m : Nat) (hm : m ≤ 10000) : ∃ row : List Int, row.length = m ∧ Nums row ∧ lawRow [.int c, .int m] = .ok (.lst (row.map D.int)) := by
  obtain ⟨s', e, rest, mixed, k, row, e2, h1, h2⟩ := loopF_inv (g := gNm 5) (body := lrBody) (fun i s => ∃ rest mixed k row, s = lrSt c m rest mixed k row ∧ row.length = i ∧ Nums row) (rgD 0 m) 0
    (lrSt c m (if c < 0 then -c else c) (((if c < 0 then -c else c) * 48271 + 69621) % 2147483647) none []) ⟨_, _, _, [], rfl, rfl, fun _ h => by cases h⟩ fun j d s hd ⟨rest, mixed, k, row, es, hl, hn⟩ => by
      obtain ⟨hj, rfl⟩ := rgD_get hd
      subst es
      obtain ⟨rest', mixed', x, e, hx⟩ := lr_turn c m rest mixed (0 + (j : Nat)) row (by omega)
      exact ⟨_, _, rfl, .inl e, rest', mixed', _, row ++ [x], rfl, by rw [List.length_append, List.length_singleton]; omega, hn.app (.one hx)⟩
  subst e2
  rw [rgD_len] at h1
  refine ⟨row, by omega, h2, ?_⟩
  have e3 : loopF (gNm 5) lrBody (rgD 0 m) ⟨[some (.int c), some (.int m), some (.ptr 0), some (.int (if c < 0 then -c else c)), some (.int (((if c < 0 then -c else c) * 48271 + 69621) % 2147483647)), none], [.lst []]⟩ = .nx (lrSt c m rest mixed k row) := e
  have hs : small62 (m : Int) := small62_of (by omega)
  simp [lawRow, runP, runS, sSeq, sExpr, sRet, sRetN, sSet, sIf, sNil, sRaise, sBrk, sCnt, sFor, sAsg, sAug, eVar, eC, e2, e1, eChain, bOf, tAnd', tOr', tNot', eAnd, eOr, eNot, eIf, callP, callS, aCons, aNil, eTup, eLst, newL, eCall, tTru, truD, kInt, kIntC, S.put, gNm, gTup', gCons', gNil', itS, itL, itT, itR1, itR2, kIx, kSl, eSl, oNone, oSome, kLen, kAbs, kMax2, kMin2, kIntOf, kAll, kAny, kTupOf, kLstOf, kIsi, eApp, kApp, eFrz, look, tYes', kNeg, kIs, kIsNot, wipeD, Res.bind, Res.bindS, pf_non, pf_bl, pf_int, pf_str, pf_tup, pf_lst, pf_scr, pfs_nil, pfs_cons, pfF, eqI, neI, eqS, neS, decide_eq_true_eq, cmulR, sizeLine_eq, hs, e3, lrSt, pfs_ints]

/-! ### _law_numbers -/
def lnIn : VS := (sExpr (eApp (eVar 4) (aCons (eVar 6) aNil)))
def lnOut : VS := (sFor (gNm 6) (itS (callP lawRow (aCons (eVar 5) (aCons (eVar 3) aNil)))) lnIn)
def lnC : VB := (bOf (e2 kLt (eCall kLen (aCons (eVar 4) aNil)) (eVar 1)))
def lnB : VS := (sExpr (eApp (eVar 4) (aCons (eC (D.int 0)) aNil)))
def lawNumbers : PF := runP 7 (sSeq (sSet 2 (eSl false (eVar 0) oNone (oSome (eC (D.int 63)))))
    (sSeq (sSet 3 (e2 kAdd (eC (D.int 1)) (e2 kDiv (eVar 1) (eCall kMax2 (aCons (eC (D.int 1)) (aCons (eCall kLen (aCons (eVar 2) aNil)) aNil))))))
    (sSeq (sSet 4 (eLst true aNil))
    (sSeq (sFor (gNm 5) (itS (eVar 2)) lnOut)
    (sSeq (sWhile lnC lnB)
    (sRet (eSl false (eVar 4) oNone (oSome (eVar 1)))))))))
def lnSt (scr : D) (m : Nat) (cs : List Int) (each : Nat) (c k : Option D) (l : List Int) : S := ⟨[some scr, some (.int m), some (.lst (cs.map D.int)), some (.int each), some (.ptr 0), c, k], [.lst (l.map D.int)]⟩
theorem ln_in (scr : D) (m : Nat) (cs : List Int) (each : Nat) (c : Option D) (x : Int) (l : List Int) (hl : l.length < 10000000) : lnIn (lnSt scr m cs each c (some (.int x)) l) = .nx (lnSt scr m cs each c (some (.int x)) (l ++ [x])) := by
  have hs : l.length < sizeLine := by rw [sizeLine_eq]; omega
  simp [lnIn, lnSt, runP, runS, sSeq, sExpr, sRet, sRetN, sSet, sIf, sNil, sRaise, sBrk, sCnt, sFor, sAsg, sAug, eVar, eC, e2, e1, eChain, bOf, tAnd', tOr', tNot', eAnd, eOr, eNot, eIf, callP, callS, aCons, aNil, eTup, eLst, newL, eCall, tTru, truD, kInt, kIntC, S.put, gNm, gTup', gCons', gNil', itS, itL, itT, itR1, itR2, kIx, kSl, eSl, oNone, oSome, kLen, kAbs, kMax2, kMin2, kIntOf, kAll, kAny, kTupOf, kLstOf, kIsi, eApp, kApp, eFrz, look, tYes', kNeg, kIs, kIsNot, wipeD, Res.bind, Res.bindS, pf_non, pf_bl, pf_int, pf_str, pf_tup, pf_lst, pf_scr, pfs_nil, pfs_cons, pfF, eqI, neI, eqS, neS, decide_eq_true_eq, hs]
theorem ln_out (scr : D) (m : Nat) (cs : List Int) (each : Nat) (he : each ≤ 10000) (c : Int) (k : Option D) (l : List Int) (hl : l.length ≤ 1000000) (hn : Nums l) :
    ∃ k' l', lnOut (lnSt scr m cs each (some (.int c)) k l) = .nx (lnSt scr m cs each (some (.int c)) k' l') ∧ l'.length = l.length + each ∧ Nums l' := by
  obtain ⟨row, r1, r2, r3⟩ := lawRow_ok c each he
  obtain ⟨s', e, k', l', e2, h1, h2⟩ := loopF_inv (g := gNm 6) (body := lnIn) (fun i s => ∃ k l', s = lnSt scr m cs each (some (.int c)) k l' ∧ l'.length = l.length + i ∧ Nums l') (row.map D.int) 0
    (lnSt scr m cs each (some (.int c)) k l) ⟨k, l, rfl, rfl, hn⟩ fun j d s hd ⟨k, l', es, hl', hn'⟩ => by
      rw [List.getElem?_map] at hd
      obtain ⟨x, hx, rfl⟩ := Option.map_eq_some_iff.mp hd
      have hj := (List.getElem?_eq_some_iff.mp hx).1
      subst es
      exact ⟨_, _, rfl, .inl (ln_in scr m cs each _ x l' (by omega)), _, _, rfl, by rw [List.length_append, List.length_singleton]; omega, hn'.app (.one (r2 x (List.mem_of_getElem? hx)))⟩
  subst e2
  rw [List.length_map] at h1
  refine ⟨k', l', ?_, by omega, h2⟩
  have e3 : loopF (gNm 6) lnIn (row.map D.int) ⟨[some scr, some (.int m), some (.lst (cs.map D.int)), some (.int each), some (.ptr 0), some (.int c), k], [.lst (l.map D.int)]⟩ = .nx (lnSt scr m cs each (some (.int c)) k' l') := e
  simp [lnOut, lnSt, runP, runS, sSeq, sExpr, sRet, sRetN, sSet, sIf, sNil, sRaise, sBrk, sCnt, sFor, sAsg, sAug, eVar, eC, e2, e1, eChain, bOf, tAnd', tOr', tNot', eAnd, eOr, eNot, eIf, callP, callS, aCons, aNil, eTup, eLst, newL, eCall, tTru, truD, kInt, kIntC, S.put, gNm, gTup', gCons', gNil', itS, itL, itT, itR1, itR2, kIx, kSl, eSl, oNone, oSome, kLen, kAbs, kMax2, kMin2, kIntOf, kAll, kAny, kTupOf, kLstOf, kIsi, eApp, kApp, eFrz, look, tYes', kNeg, kIs, kIsNot, wipeD, Res.bind, Res.bindS, pf_non, pf_bl, pf_int, pf_str, pf_tup, pf_lst, pf_scr, pfs_nil, pfs_cons, pfF, eqI, neI, eqS, neS, decide_eq_true_eq, r3]
  rw [e3]
  rfl
theorem ln_while (scr : D) (m : Nat) (hm : m ≤ 10000) (cs : List Int) (each : Nat) (c k : Option D) (l : List Int) (hl : l.length ≤ 10000000 / 2) (hn : Nums l) :
    ∃ l', sWhile lnC lnB (lnSt scr m cs each c k l) = .nx (lnSt scr m cs each c k l') ∧ m ≤ l'.length ∧ l'.length ≤ 10000000 / 2 ∧ Nums l' := by
  obtain ⟨s', e, l', e2, h⟩ := while_inv (c := lnC) (body := lnB) (Q := fun s => ∃ l', s = lnSt scr m cs each c k l' ∧ m ≤ l'.length ∧ l'.length ≤ 10000000 / 2 ∧ Nums l') (fun s => ∃ l', s = lnSt scr m cs each c k l' ∧ l'.length ≤ 10000000 / 2 ∧ Nums l')
    (fun s => match s.η with
      | [.lst ds] => m - ds.length
      | _ => 0) (fun s ⟨l', es, hl', hn'⟩ => by
      subst es
      have hs : l'.length ≤ sizeLine := by rw [sizeLine_eq]; omega
      have hs2 : l'.length < sizeLine := by rw [sizeLine_eq]; omega
      by_cases hc : l'.length < m
      · refine .inr ⟨lnSt scr m cs each c k l', lnSt scr m cs each c k (l' ++ [0]), ?_, .inl ?_, ⟨_, rfl, by rw [List.length_append, List.length_singleton]; omega, hn'.app (.one (by omega))⟩, ?_⟩
        · simp [lnC, lnSt, runP, runS, sSeq, sExpr, sRet, sRetN, sSet, sIf, sNil, sRaise, sBrk, sCnt, sFor, sAsg, sAug, eVar, eC, e2, e1, eChain, bOf, tAnd', tOr', tNot', eAnd, eOr, eNot, eIf, callP, callS, aCons, aNil, eTup, eLst, newL, eCall, tTru, truD, kInt, kIntC, S.put, gNm, gTup', gCons', gNil', itS, itL, itT, itR1, itR2, kIx, kSl, eSl, oNone, oSome, kLen, kAbs, kMax2, kMin2, kIntOf, kAll, kAny, kTupOf, kLstOf, kIsi, eApp, kApp, eFrz, look, tYes', kNeg, kIs, kIsNot, wipeD, Res.bind, Res.bindS, pf_non, pf_bl, pf_int, pf_str, pf_tup, pf_lst, pf_scr, pfs_nil, pfs_cons, pfF, eqI, neI, eqS, neS, decide_eq_true_eq, hc]
        · simp [lnB, lnSt, runP, runS, sSeq, sExpr, sRet, sRetN, sSet, sIf, sNil, sRaise, sBrk, sCnt, sFor, sAsg, sAug, eVar, eC, e2, e1, eChain, bOf, tAnd', tOr', tNot', eAnd, eOr, eNot, eIf, callP, callS, aCons, aNil, eTup, eLst, newL, eCall, tTru, truD, kInt, kIntC, S.put, gNm, gTup', gCons', gNil', itS, itL, itT, itR1, itR2, kIx, kSl, eSl, oNone, oSome, kLen, kAbs, kMax2, kMin2, kIntOf, kAll, kAny, kTupOf, kLstOf, kIsi, eApp, kApp, eFrz, look, tYes', kNeg, kIs, kIsNot, wipeD, Res.bind, Res.bindS, pf_non, pf_bl, pf_int, pf_str, pf_tup, pf_lst, pf_scr, pfs_nil, pfs_cons, pfF, eqI, neI, eqS, neS, decide_eq_true_eq, hs2]
        · simp [lnSt]
          omega
      · refine .inl ⟨lnSt scr m cs each c k l', ?_, l', rfl, by omega, hl', hn'⟩
        simp [lnC, lnSt, runP, runS, sSeq, sExpr, sRet, sRetN, sSet, sIf, sNil, sRaise, sBrk, sCnt, sFor, sAsg, sAug, eVar, eC, e2, e1, eChain, bOf, tAnd', tOr', tNot', eAnd, eOr, eNot, eIf, callP, callS, aCons, aNil, eTup, eLst, newL, eCall, tTru, truD, kInt, kIntC, S.put, gNm, gTup', gCons', gNil', itS, itL, itT, itR1, itR2, kIx, kSl, eSl, oNone, oSome, kLen, kAbs, kMax2, kMin2, kIntOf, kAll, kAny, kTupOf, kLstOf, kIsi, eApp, kApp, eFrz, look, tYes', kNeg, kIs, kIsNot, wipeD, Res.bind, Res.bindS, pf_non, pf_bl, pf_int, pf_str, pf_tup, pf_lst, pf_scr, pfs_nil, pfs_cons, pfF, eqI, neI, eqS, neS, decide_eq_true_eq, hc]) _ ⟨l, rfl, hl, hn⟩
  subst e2
  exact ⟨l', e, h⟩
theorem lawNumbers_ok (ns : List Int) (m : Nat) (hm : m ≤ 1000) (h63 : ns.length ≤ 63) : ∃ l : List Int, l.length = m ∧ Nums l ∧ lawNumbers [scrD ns, .int m] = .ok (.lst (l.map D.int)) := by
  have hmax : ∀ n : Nat, (0 : Int) < (if 1 < (n : Int) then (n : Int) else 1) := fun n => by split <;> omega
  obtain ⟨each, he, he2⟩ : ∃ each : Nat, (1 + (m : Int) / (if 1 < (ns.length : Int) then (ns.length : Int) else 1)) = each ∧ each ≤ 1001 := by
    have h1 : 0 ≤ (m : Int) / (if 1 < (ns.length : Int) then (ns.length : Int) else 1) := Int.ediv_nonneg (by omega) (Int.le_of_lt (hmax _))
    have h2 : (m : Int) / (if 1 < (ns.length : Int) then (ns.length : Int) else 1) ≤ m := Int.ediv_le_self _ (by omega)
    exact ⟨(1 + (m : Int) / (if 1 < (ns.length : Int) then (ns.length : Int) else 1)).toNat, by omega, by omega⟩
  obtain ⟨s', e, c, k, l, e2, h1, h2⟩ := loopF_inv (g := gNm 5) (body := lnOut) (fun i s => ∃ c k l, s = lnSt (scrD ns) m ns each c k l ∧ l.length = i * each ∧ Nums l) (ns.map D.int) 0
    (lnSt (scrD ns) m ns each none none []) ⟨_, _, [], rfl, by simp, fun _ h => by cases h⟩ fun j d s hd ⟨c, k, l, es, hl, hn⟩ => by
      rw [List.getElem?_map] at hd
      obtain ⟨x, hx, rfl⟩ := Option.map_eq_some_iff.mp hd
      have hj := (List.getElem?_eq_some_iff.mp hx).1
      subst es
      have hle : l.length ≤ 1000000 := by
        rw [hl]
        exact Nat.le_trans (Nat.mul_le_mul (show 0 + j ≤ 63 by omega) he2) (by decide)
      obtain ⟨k', l', e, q1, q2⟩ := ln_out (scrD ns) m ns each (by omega) x k l hle hn
      exact ⟨_, _, rfl, .inl e, _, _, _, rfl, by rw [q1, hl, Nat.add_mul _ 1, Nat.one_mul], q2⟩
  subst e2
  rw [List.length_map, Nat.zero_add] at h1
  have hle : l.length ≤ 10000000 / 2 := by
    rw [h1]
    exact Nat.le_trans (Nat.mul_le_mul h63 he2) (by decide)
  obtain ⟨l', e4, q1, q2, q3⟩ := ln_while (scrD ns) m (by omega) ns each c k l hle h2
  refine ⟨l'.take m, by rw [List.length_take]; omega, fun x hx => q3 x (List.mem_of_mem_take hx), ?_⟩
  have e3 : loopF (gNm 5) lnOut (ns.map D.int) ⟨[some (scrD ns), some (.int m), some (.lst (ns.map D.int)), some (.int each), some (.ptr 0), none, none], [.lst []]⟩ = .nx (lnSt (scrD ns) m ns each c k l) := e
  have hcut : cutD (ns.map D.int) none (some 63) = ns.map D.int := by
    unfold cutD
    have a1 : HT.sIx (ns.map D.int).length 0 none = 0 := rfl
    have a2 : HT.sIx (ns.map D.int).length (ns.map D.int).length (some 63) = min 63 (ns.map D.int).length := HT.sIx_nat _ _ 63
    rw [a1, a2, List.drop_zero, Nat.sub_zero, List.length_map]
    exact List.take_of_length_le (by rw [List.length_map]; omega)
  have hcut2 : cutD (l'.map D.int) none (some (m : Int)) = (l'.take m).map D.int := by
    unfold cutD
    have a1 : HT.sIx (l'.map D.int).length 0 none = 0 := rfl
    have a2 : HT.sIx (l'.map D.int).length (l'.map D.int).length (some (m : Int)) = min m (l'.map D.int).length := HT.sIx_nat _ _ m
    rw [a1, a2, List.drop_zero, Nat.sub_zero, List.length_map, List.map_take, Nat.min_eq_left q1]
  have hdiv : CDiv m (if 1 < (ns.length : Int) then (ns.length : Int) else 1) := ⟨hmax _, by split <;> omega⟩
  unfold scrD at e3 e4 ⊢
  simp [lawNumbers, runP, runS, sSeq, sExpr, sRet, sRetN, sSet, sIf, sNil, sRaise, sBrk, sCnt, sFor, sAsg, sAug, eVar, eC, e2, e1, eChain, bOf, tAnd', tOr', tNot', eAnd, eOr, eNot, eIf, callP, callS, aCons, aNil, eTup, eLst, newL, eCall, tTru, truD, kInt, kIntC, S.put, gNm, gTup', gCons', gNil', itS, itL, itT, itR1, itR2, kIx, kSl, eSl, oNone, oSome, kLen, kAbs, kMax2, kMin2, kIntOf, kAll, kAny, kTupOf, kLstOf, kIsi, eApp, kApp, eFrz, look, tYes', kNeg, kIs, kIsNot, wipeD, Res.bind, Res.bindS, pf_non, pf_bl, pf_int, pf_str, pf_tup, pf_lst, pf_scr, pfs_nil, pfs_cons, pfF, eqI, neI, eqS, neS, decide_eq_true_eq, hcut, hdiv, sizeLine_eq, he, e3]
  unfold lnSt at e4 ⊢
  rw [e4]
  have hp : pfs (List.take m (List.map D.int l')) = true := by
    rw [← List.map_take]
    exact pfs_ints _
  simp [hcut2, pf_lst, hp]
end
end VL

set_option Elab.async false
set_option linter.all false
set_option maxRecDepth 20000
/-! Equality of plain data: two are equal if they are the same. -/
namespace VL
open PySem PyProof.Rows PySem.Spec L2 PySem.W
/-- plain, and nested at most so deep; no truth values -/
def plD : Nat → D → Bool
  | _, .non => true
  | _, .int _ => true
  | _, .str x => PyData.strOk x
  | n + 1, .tup xs => xs.all (plD n)
  | n + 1, .lst xs => xs.all (plD n)
  | _, _ => false
theorem pl_ok : ∀ (n : Nat) (d : D), plD n d = true → d.py = true ∧ (toPy d).canLay0 = true ∧ (toPy d).depth ≤ n := by
  intro n
  induction n with
  | zero =>
    intro d h
    cases d <;> simp [plD] at h <;> simp [D.py, toPy, PyData.canLay0, PyData.depth, h]
  | succ n ih =>
    have all : ∀ xs : List D, xs.all (plD n) = true → pys xs = true ∧ PyData.canLayAll0 (toPys xs) = true ∧ PyData.depthAll (toPys xs) ≤ n := by
      intro xs
      induction xs with
      | nil => intro _; exact ⟨rfl, rfl, by simp [toPys, PyData.depthAll]⟩
      | cons x r ihr =>
        intro h
        rw [List.all_cons, Bool.and_eq_true] at h
        obtain ⟨a1, a2, a3⟩ := ih x h.1
        obtain ⟨b1, b2, b3⟩ := ihr h.2
        refine ⟨by rw [pys, a1, b1]; rfl, by rw [toPys, PyData.canLayAll0, a2, b2]; rfl, ?_⟩
        rw [toPys, PyData.depthAll]
        omega
    intro d h
    cases d with
    | tup xs =>
      rw [plD] at h
      obtain ⟨b1, b2, b3⟩ := all xs h
      exact ⟨by rw [D.py, b1], by rw [toPy, PyData.canLay0, b2], by rw [toPy, PyData.depth]; omega⟩
    | lst xs =>
      rw [plD] at h
      obtain ⟨b1, b2, b3⟩ := all xs h
      exact ⟨by rw [D.py, b1], by rw [toPy, PyData.canLay0, b2], by rw [toPy, PyData.depth]; omega⟩
    | _ => simp [plD] at h <;> simp [D.py, toPy, PyData.canLay0, PyData.depth, h]
theorem pl_eq : ∀ (n : Nat) (a b : D), plD n a = true → plD n b = true → (PyData.eqv (toPy a) (toPy b) = true ↔ a = b) := by
  intro n
  induction n with
  | zero =>
    intro a b h k
    cases a <;> simp [plD] at h <;> cases b <;> simp [plD] at k <;> simp [toPy, PyData.eqv]
  | succ n ih =>
    have all : ∀ xs ys : List D, xs.all (plD n) = true → ys.all (plD n) = true → (PyData.eqvAll (toPys xs) (toPys ys) = true ↔ xs = ys) := by
      intro xs
      induction xs with
      | nil => intro ys _ _; cases ys <;> simp [toPys, PyData.eqvAll]
      | cons x r ihr =>
        intro ys h k
        cases ys with
        | nil => simp [toPys, PyData.eqvAll]
        | cons y t =>
          rw [List.all_cons, Bool.and_eq_true] at h k
          rw [toPys, toPys, PyData.eqvAll, Bool.and_eq_true, ih x y h.1 k.1, ihr t h.2 k.2]
          simp
    intro a b h k
    cases a <;> simp [plD] at h <;> cases b <;> simp [plD] at k <;> simp [toPy, PyData.eqv]
    · exact all _ _ (by simpa using h) (by simpa using k)
    · exact all _ _ (by simpa using h) (by simpa using k)
theorem okEq_pl {d : D} (h : plD 64 d = true) : okEq d = true := by
  obtain ⟨a, b, c⟩ := pl_ok 64 d h
  rw [okEq, a, SeqAt.shaped, b]
  simpa using c
theorem kEq_yes {a b : D} {s : S} (d : D) (ha : look s a = d) (hb : look s b = d) (h : plD 64 d = true) : kEq a b s = .ok (.bl true) s := by
  rw [kEq, ha, hb, okEq_pl h, (pl_eq 64 d d h h).mpr rfl]
  rfl
theorem kNe_no {a b : D} {s : S} (d : D) (ha : look s a = d) (hb : look s b = d) (h : plD 64 d = true) : kNe a b s = .ok (.bl false) s := by
  rw [kNe, ha, hb, okEq_pl h, (pl_eq 64 d d h h).mpr rfl]
  rfl
theorem eqv_not {a b : D} (h : plD 64 a = true) (k : plD 64 b = true) (n : a ≠ b) : PyData.eqv (toPy a) (toPy b) = false := by
  cases e : PyData.eqv (toPy a) (toPy b) with
  | false => rfl
  | true => exact absurd ((pl_eq 64 a b h k).mp e) n
theorem kEq_no {a b : D} {s : S} (d e : D) (ha : look s a = d) (hb : look s b = e) (h : plD 64 d = true) (k : plD 64 e = true) (n : d ≠ e) : kEq a b s = .ok (.bl false) s := by
  rw [kEq, ha, hb, okEq_pl h, okEq_pl k, eqv_not h k n]
  rfl
theorem kNe_yes {a b : D} {s : S} (d e : D) (ha : look s a = d) (hb : look s b = e) (h : plD 64 d = true) (k : plD 64 e = true) (n : d ≠ e) : kNe a b s = .ok (.bl true) s := by
  rw [kNe, ha, hb, okEq_pl h, okEq_pl k, eqv_not h k n]
  rfl
/-- a comprehension that lays one list each turn -/
theorem lcGo_push {g : VG} {fe : VE} {ρ : List (Option D)} (f : D → List D) : ∀ (ds acc : List D) (η : List Cell), acc.length + ds.length ≤ sizeLine →
    (∀ d ∈ ds, ∀ η, ∃ s1 ρ', g d ⟨ρ, η⟩ = .nx s1 ∧ fe s1 = .ok (.ptr η.length) ⟨ρ', η ++ [.lst (f d)]⟩) →
    lcGo g tYes' fe ρ ds acc η = .ok (acc ++ (List.range ds.length).map fun i => .ptr (η.length + i)) ⟨ρ, η ++ ds.map fun d => .lst (f d)⟩
  | [], acc, η, _, _ => by rw [lcGo]; simp
  | d :: r, acc, η, hl, H => by
    obtain ⟨s1, ρ', e1, e2⟩ := H d List.mem_cons_self η
    rw [List.length_cons] at hl
    have ih := lcGo_push f r (acc ++ [.ptr η.length]) (η ++ [.lst (f d)]) (by simp; omega) fun d hd => H d (List.mem_cons_of_mem _ hd)
    rw [lcGo, e1]
    simp only [tYes']
    rw [e2]
    dsimp only
    rw [if_pos (by omega)]
    show lcGo g tYes' fe ρ r _ _ = _
    rw [ih]
    simp [List.range_succ_eq_map, Nat.add_assoc, Nat.add_comm 1]
/-- the law's pick of one number -/
noncomputable def lawPick : PF := runP 3 (sRet (e2 kMod (eCall kIntOf (aCons (e2 kIx (eVar 0) (eVar 1)) aNil)) (eVar 2)))
theorem lawPick_at {l : List Int} {i : Nat} {x m : Int} (h : l[i]? = some x) (hm : 0 < m) : lawPick [.lst (l.map D.int), .int i, .int m] = .ok (.int (x % m)) := by
  have e : atI (l.map D.int) (i : Int) = some (.int x) := atI_nat (by rw [List.getElem?_map, h]; rfl)
  simp [lawPick, runP, runS, sSeq, sExpr, sRet, sRetN, sSet, sIf, sNil, sRaise, sBrk, sCnt, sFor, sAsg, sAug, eVar, eC, e2, e1, eChain, bOf, tAnd', tOr', tNot', eAnd, eOr, eNot, eIf, callP, callS, aCons, aNil, eTup, eLst, newL, eCall, tTru, truD, kInt, kIntC, S.put, gNm, gTup', gCons', gNil', itS, itL, itT, itR1, itR2, kIx, kSl, eSl, oNone, oSome, kLen, kAbs, kMax2, kMin2, kIntOf, kSorted, kAll, kAny, kTupOf, kLstOf, kIsi, eApp, kApp, eFrz, look, tYes', kNeg, kIs, kIsNot, wipeD, Res.bind, Res.bindS, pf_non, pf_bl, pf_int, pf_str, pf_tup, pf_lst, pf_scr, pfs_nil, pfs_cons, pfF, eqI, neI, eqS, neS, decide_eq_true_eq, e, hm]
theorem seq_to {f g : VS} {s s' : S} {r : SR} (h : f s = .nx s') (k : g s' = r) : sSeq f g s = r := by rw [sSeq, h]; exact k
theorem runP_rt {n : Nat} {g : VS} {ds : List D} {d : D} {s' : S} (h : g ⟨ds.map some ++ List.replicate (n - ds.length) none, []⟩ = .rt d s') (hp : d.pf = true) : runP n g ds = .ok d := by rw [runP, h]; dsimp only; rw [if_pos hp]
theorem runP_nx {n : Nat} {g : VS} {ds : List D} {s' : S} (h : g ⟨ds.map some ++ List.replicate (n - ds.length) none, []⟩ = .nx s') : runP n g ds = .ok .non := by rw [runP, h]
theorem for_to {g : VG} {it : VA} {body : VS} {ds : List D} {s s1 : S} {r : SR} (h : it s = .ok ds s1) (k : loopF g body ds s1 = r) : sFor g it body s = r := by rw [sFor, h]; exact k
theorem rgD_map {α : Type} (n : Nat) (f : D → α) : (rgD 0 n).map f = (List.range n).map fun i : Nat => f (.int (i : Int)) := by
  unfold rgD
  rw [List.map_map]
  apply List.map_congr_left
  intro i _
  show f (.int (0 + (i : Int))) = _
  rw [Int.zero_add]
/-- a comprehension without a test whose turns leave the store -/
theorem lcGo_all {g : VG} {fe : VE} {ρ : List (Option D)} {η : List Cell} (h : D → D) (ds acc : List D) (hl : acc.length + ds.length ≤ sizeLine)
    (H : ∀ d ∈ ds, ∃ s1 s3, g d ⟨ρ, η⟩ = .nx s1 ∧ fe s1 = .ok (h d) s3 ∧ s1.η = η ∧ s3.η = η) : lcGo g tYes' fe ρ ds acc η = .ok (acc ++ ds.map h) ⟨ρ, η⟩ := by
  have e := lcGo_map (tt := tYes') (fun _ => true) h ds acc hl (fun d hd => by
    obtain ⟨s1, s3, e1, e2, e3, e4⟩ := H d hd
    exact ⟨s1, s1, e1, rfl, e3, fun _ => ⟨s3, e2, e4⟩⟩)
  rw [List.filter_eq_self.mpr fun _ _ => rfl] at e
  exact e
theorem lc_to {m : Bool} {vs : List Nat} {g : VG} {it : VA} {tt : VB} {fe : VE} {s s1 s2 : S} {ds acc : List D} (h : it s = .ok ds s1) (k : lcGo g tt fe (wipeD s1.ρ vs) ds [] s1.η = .ok acc s2) : eLc m vs g it tt fe s = newL m acc ⟨s1.ρ, s2.η⟩ := by
  rw [eLc, h]
  show Res.bind (lcGo g tt fe (wipeD s1.ρ vs) ds [] s1.η) _ = _
  rw [k]
  rfl
theorem r1_to {f : VA} {s s1 : S} {i : Int} (n : Nat) (h : f s = .ok [.int i] s1) (e : i = (n : Int)) (hn : n < 1000000000000000000) : itR1 f s = .ok (rgD 0 n) s1 := by
  have hs : small62 i := small62_of (by omega)
  subst e
  rw [itR1, h]
  dsimp only [Res.bind]
  rw [if_pos hs]
  rfl
theorem r2_to {f : VA} {s s1 : S} {i j : Int} (n : Nat) (h : f s = .ok [.int i, .int j] s1) (e : (j - i).toNat = n) (hi : -1000000000000000000 < i ∧ i < 1000000000000000000) (hj : -1000000000000000000 < j ∧ j < 1000000000000000000) : itR2 f s = .ok (rgD i n) s1 := by
  have hs : small62 i ∧ small62 j := ⟨small62_of (by omega), small62_of (by omega)⟩
  rw [itR2, h]
  dsimp only [Res.bind]
  rw [if_pos hs, e]
theorem get_fst {α : Type} (A B C : List α) {i : Nat} (h : i < A.length) : (A ++ B ++ C)[i]? = A[i]? := by
  rw [List.append_assoc, List.getElem?_append_left h]
theorem get_mid {α : Type} (A B C : List α) {i : Nat} (h : i < B.length) : (A ++ B ++ C)[A.length + i]? = B[i]? := by
  rw [List.append_assoc, List.getElem?_append_right (Nat.le_add_right _ _), Nat.add_sub_cancel_left, List.getElem?_append_left h]
theorem get_end {α : Type} (A B : List α) (x : α) {n : Nat} (h : B.length = n) : (A ++ B ++ [x])[A.length + n]? = some x := by
  subst h
  rw [List.append_assoc, List.getElem?_append_right (Nat.le_add_right _ _), Nat.add_sub_cancel_left, List.getElem?_append_right (Nat.le_refl _), Nat.sub_self]
  rfl
theorem look_ptr {s : S} {k : Nat} {xs : List D} (h : s.η[k]? = some (.lst xs)) : look s (.ptr k) = .lst xs := by
  rw [look, h]
end VL

set_option Elab.async false
set_option linter.all false
set_option maxRecDepth 100000
set_option maxHeartbeats 4000000
namespace K79
open PySem PyProof.Rows PySem.Spec L2 VL
noncomputable section
def topS (i : Nat) : Stmt := PySem.Challenge.pw_paironce_k79_places.main.body.getD i (.Pass ⟨0, 0, 0, 0⟩)
/-! check_players -/
abbrev s_check_players : Stmt := topS 6
abbrev N_check_players : List Str := ["players"]
theorem sc_check_players : FnScope N_check_players ["players"] (defScope s_check_players) := ⟨rfl, rfl, rfl, by decide +kernel, rfl, by decide +kernel, by decide +kernel⟩
def b_check_players : VS := (sIf (tOr' (tNot' (bOf (eChain kLe kLe (eC (D.int 2)) (eVar 0) (eC (D.int 1000000000000000000000000000000))))) (bOf (e2 kNe (e2 kMod (eVar 0) (eC (D.int 2))) (eC (D.int 0))))) (sRaise "InvalidQuestion") sNil)
def F_check_players : PF := runP 1 b_check_players
/-! check_below -/
abbrev s_check_below : Stmt := topS 7
abbrev N_check_below : List Str := ["value", "bound"]
theorem sc_check_below : FnScope N_check_below ["value", "bound"] (defScope s_check_below) := ⟨rfl, rfl, rfl, by decide +kernel, rfl, by decide +kernel, by decide +kernel⟩
def b_check_below : VS := (sIf (tNot' (bOf (eChain kLe kLt (eC (D.int 0)) (eVar 0) (eVar 1)))) (sRaise "InvalidQuestion") sNil)
def F_check_below : PF := runP 2 b_check_below
/-! middle -/
abbrev s_middle : Stmt := topS 8
abbrev N_middle : List Str := ["players", "turn"]
theorem sc_middle : FnScope N_middle ["players", "turn"] (defScope s_middle) := ⟨rfl, rfl, rfl, by decide +kernel, rfl, by decide +kernel, by decide +kernel⟩
def b_middle : VS := (sRet (e2 kMod (e2 kMul (eVar 1) (e2 kDiv (eVar 0) (eC (D.int 2)))) (e2 kSub (eVar 0) (eC (D.int 1)))))
def F_middle : PF := runP 2 b_middle
/-! place_of -/
abbrev s_place_of : Stmt := topS 9
abbrev N_place_of : List Str := ["players", "turn", "player", "last", "away"]
theorem sc_place_of : FnScope N_place_of ["players", "turn", "player"] (defScope s_place_of) := ⟨rfl, rfl, rfl, by decide +kernel, rfl, by decide +kernel, by decide +kernel⟩
def b_place_of : VS := (sSeq (sExpr (callP F_check_players (aCons (eVar 0) aNil)))
    (sSeq (sExpr (callP F_check_below (aCons (eVar 1) (aCons (e2 kSub (eVar 0) (eC (D.int 1))) aNil))))
    (sSeq (sExpr (callP F_check_below (aCons (eVar 2) (aCons (eVar 0) aNil))))
    (sSeq (sSet 3 (e2 kSub (eVar 0) (eC (D.int 1))))
    (sSeq (sIf (bOf (e2 kEq (eVar 2) (eVar 3))) (sRet (eC (D.int 0))) sNil)
    (sSeq (sSet 4 (e2 kMod (e2 kSub (eVar 2) (callP F_middle (aCons (eVar 0) (aCons (eVar 1) aNil)))) (eVar 3)))
    (sRet (eIf (bOf (e2 kGt (eVar 4) (eC (D.int 0)))) (eCall kMin2 (aCons (eVar 4) (aCons (e2 kSub (eVar 3) (eVar 4)) aNil))) (eC (D.int 0))))))))))
def F_place_of : PF := runP 5 b_place_of
/-! players_at -/
abbrev s_players_at : Stmt := topS 10
abbrev N_players_at : List Str := ["players", "turn", "place", "last", "centre"]
theorem sc_players_at : FnScope N_players_at ["players", "turn", "place"] (defScope s_players_at) := ⟨rfl, rfl, rfl, by decide +kernel, rfl, by decide +kernel, by decide +kernel⟩
def b_players_at : VS := (sSeq (sExpr (callP F_check_players (aCons (eVar 0) aNil)))
    (sSeq (sExpr (callP F_check_below (aCons (eVar 1) (aCons (e2 kSub (eVar 0) (eC (D.int 1))) aNil))))
    (sSeq (sExpr (callP F_check_below (aCons (eVar 2) (aCons (e2 kDiv (eVar 0) (eC (D.int 2))) aNil))))
    (sSeq (sSet 3 (e2 kSub (eVar 0) (eC (D.int 1))))
    (sSeq (sSet 4 (callP F_middle (aCons (eVar 0) (aCons (eVar 1) aNil))))
    (sSeq (sIf (bOf (e2 kEq (eVar 2) (eC (D.int 0)))) (sRet (eTup (aCons (eVar 4) (aCons (eVar 3) aNil)))) sNil)
    (sRet (eCall kTupOf (aCons (eCall (kSorted false) (aCons (eTup (aCons (e2 kMod (e2 kAdd (eVar 4) (eVar 2)) (eVar 3)) (aCons (e2 kMod (e2 kSub (eVar 4) (eVar 2)) (eVar 3)) aNil))) aNil)) aNil)))))))))
def F_players_at : PF := runP 5 b_players_at
/-! plan -/
abbrev s_plan : Stmt := topS 11
abbrev N_plan : List Str := ["players", "place", "turn"]
theorem sc_plan : FnScope N_plan ["players"] (defScope s_plan) := ⟨rfl, rfl, rfl, by decide +kernel, rfl, by decide +kernel, by decide +kernel⟩
def b_plan : VS := (sSeq (sExpr (callP F_check_players (aCons (eVar 0) aNil)))
    (sSeq (sIf (bOf (e2 kGt (eVar 0) (eC (D.int 100)))) (sRaise "InvalidQuestion") sNil)
    (sRet (eLc true [2] (gNm 2) (itR1 (aCons (e2 kSub (eVar 0) (eC (D.int 1))) aNil)) tYes' (eLc true [1] (gNm 1) (itR1 (aCons (e2 kDiv (eVar 0) (eC (D.int 2))) aNil)) tYes' (callP F_players_at (aCons (eVar 0) (aCons (eVar 2) (aCons (eVar 1) aNil)))))))))
def F_plan : SF := runS 3 b_plan
/-! _law_row -/
abbrev s__law_row : Stmt := topS 13
abbrev N__law_row : List Str := ["_law_cell", "_law_many", "_law_row_here", "_law_rest", "_law_mixed", "_law_k"]
theorem sc__law_row : FnScope N__law_row ["_law_cell", "_law_many"] (defScope s__law_row) := ⟨rfl, rfl, rfl, by decide +kernel, rfl, by decide +kernel, by decide +kernel⟩
def b__law_row : VS := (sSeq (sSet 2 (eLst true aNil))
    (sSeq (sSet 3 (eCall kAbs (aCons (eVar 0) aNil)))
    (sSeq (sSet 4 (e2 kMod (eCall kIntOf (aCons (e2 kAdd (e2 kMul (eVar 3) (eC (D.int 48271))) (eC (D.int 69621))) aNil)) (eC (D.int 2147483647))))
    (sSeq (sFor (gNm 5) (itR1 (aCons (eVar 1) aNil)) (sSeq (sSet 4 (e2 kMod (eCall kIntOf (aCons (e2 kAdd (e2 kMul (eVar 4) (eC (D.int 16807))) (e2 kMul (eC (D.int 271)) (e2 kAdd (eVar 5) (eC (D.int 3))))) aNil)) (eC (D.int 2147483629))))
    (sIf (bOf (e2 kGe (eCall kAbs (aCons (eVar 0) aNil)) (e2 kPow (eC (D.int 10)) (eC (D.int 18))))) (sSeq (sExpr (eApp (eVar 2) (aCons (e2 kMod (eCall kIntOf (aCons (eVar 3) aNil)) (eC (D.int 1009))) aNil)))
    (sSet 3 (e2 kDiv (eVar 3) (eC (D.int 1009))))) (sExpr (eApp (eVar 2) (aCons (e2 kMod (eCall kIntOf (aCons (e2 kDiv (eVar 4) (eC (D.int 7))) aNil)) (eC (D.int 1009))) aNil))))))
    (sRet (eFrz (eVar 2)))))))
def F__law_row : PF := runP 6 b__law_row
/-! _law_numbers -/
abbrev s__law_numbers : Stmt := topS 14
abbrev N__law_numbers : List Str := ["_law_script", "_law_many", "_law_cells", "_law_each", "_law_numbers_here", "_law_cell", "_law_number"]
theorem sc__law_numbers : FnScope N__law_numbers ["_law_script", "_law_many"] (defScope s__law_numbers) := ⟨rfl, rfl, rfl, by decide +kernel, rfl, by decide +kernel, by decide +kernel⟩
def b__law_numbers : VS := (sSeq (sSet 2 (eSl false (eVar 0) oNone (oSome (eC (D.int 63)))))
    (sSeq (sSet 3 (e2 kAdd (eC (D.int 1)) (e2 kDiv (eVar 1) (eCall kMax2 (aCons (eC (D.int 1)) (aCons (eCall kLen (aCons (eVar 2) aNil)) aNil))))))
    (sSeq (sSet 4 (eLst true aNil))
    (sSeq (sFor (gNm 5) (itS (eVar 2)) (sFor (gNm 6) (itS (callP F__law_row (aCons (eVar 5) (aCons (eVar 3) aNil)))) (sExpr (eApp (eVar 4) (aCons (eVar 6) aNil)))))
    (sSeq (sWhile (bOf (e2 kLt (eCall kLen (aCons (eVar 4) aNil)) (eVar 1))) (sExpr (eApp (eVar 4) (aCons (eC (D.int 0)) aNil))))
    (sRet (eSl false (eVar 4) oNone (oSome (eVar 1)))))))))
def F__law_numbers : PF := runP 7 b__law_numbers
/-! _law_pick -/
abbrev s__law_pick : Stmt := topS 15
abbrev N__law_pick : List Str := ["_law_numbers_here", "_law_at", "_law_most"]
theorem sc__law_pick : FnScope N__law_pick ["_law_numbers_here", "_law_at", "_law_most"] (defScope s__law_pick) := ⟨rfl, rfl, rfl, by decide +kernel, rfl, by decide +kernel, by decide +kernel⟩
def b__law_pick : VS := (sRet (e2 kMod (eCall kIntOf (aCons (e2 kIx (eVar 0) (eVar 1)) aNil)) (eVar 2)))
def F__law_pick : PF := runP 3 b__law_pick
/-! law -/
abbrev s_law : Stmt := topS 16
abbrev N_law : List Str := ["_law_script", "_law_numbers_here", "_law_players", "_law_last", "_law_turn", "_law_middle", "_law_due", "_law_place", "_law_found", "_law_told", "_law_one", "_law_pair"]
theorem sc_law : FnScope N_law ["_law_script"] (defScope s_law) := ⟨rfl, rfl, rfl, by decide +kernel, rfl, by decide +kernel, by decide +kernel⟩
def b_law : VS := (sSeq (sSet 1 (callP F__law_numbers (aCons (eVar 0) (aCons (eC (D.int 4)) aNil))))
    (sSeq (sSet 2 (e2 kAdd (eC (D.int 2)) (e2 kMul (eC (D.int 2)) (callP F__law_pick (aCons (eVar 1) (aCons (eC (D.int 0)) (aCons (eC (D.int 15)) aNil)))))))
    (sSeq (sSet 3 (e2 kSub (eVar 2) (eC (D.int 1))))
    (sSeq (sSet 4 (callP F__law_pick (aCons (eVar 1) (aCons (eC (D.int 1)) (aCons (eVar 3) aNil)))))
    (sSeq (sSet 5 (e2 kIx (eLc false [10] (gNm 10) (itR1 (aCons (eVar 3) aNil)) (bOf (e2 kEq (e2 kMod (eCall kIntOf (aCons (e2 kSub (e2 kMul (eC (D.int 2)) (eVar 10)) (eVar 4)) aNil)) (eVar 3)) (eC (D.int 0)))) (eVar 10)) (eC (D.int 0))))
    (sSeq (sSet 6 (eLst true (aCons (eTup (aCons (eVar 5) (aCons (eVar 3) aNil))) aNil)))
    (sSeq (sFor (gNm 7) (itR2 (aCons (eC (D.int 1)) (aCons (e2 kDiv (eVar 2) (eC (D.int 2))) aNil))) (sExpr (eApp (eVar 6) (aCons (eCall kTupOf (aCons (eCall (kSorted false) (aCons (eLst false (aCons (e2 kMod (eCall kIntOf (aCons (e2 kAdd (eVar 5) (eVar 7)) aNil)) (eVar 3)) (aCons (e2 kMod (eCall kIntOf (aCons (e2 kSub (eVar 5) (eVar 7)) aNil)) (eVar 3)) aNil))) aNil)) aNil)) aNil))))
    (sSeq (sSet 8 (eLc false [7] (gNm 7) (itR1 (aCons (e2 kDiv (eVar 2) (eC (D.int 2))) aNil)) tYes' (callP F_players_at (aCons (eVar 2) (aCons (eVar 4) (aCons (eVar 7) aNil))))))
    (sSeq (sIf (tOr' (bOf (e2 kNe (eVar 8) (eVar 6))) (tNot' (tTru (eCall kAll (aCons (eLc false [11] (gNm 11) (itS (eVar 8)) tYes' (eCall kIsi (aCons (eVar 11) (aCons (eC (D.ty "tuple")) aNil)))) aNil))))) (sRet (eC (D.bl false))) sNil)
    (sSeq (sFor (gNm 7) (itR1 (aCons (e2 kDiv (eVar 2) (eC (D.int 2))) aNil)) (sIf (tOr' (bOf (e2 kNe (callP F_place_of (aCons (eVar 2) (aCons (eVar 4) (aCons (e2 kIx (e2 kIx (eVar 6) (eVar 7)) (eC (D.int 0))) aNil)))) (eVar 7))) (bOf (e2 kNe (callP F_place_of (aCons (eVar 2) (aCons (eVar 4) (aCons (e2 kIx (e2 kIx (eVar 6) (eVar 7)) (eC (D.int 1))) aNil)))) (eVar 7)))) (sRet (eC (D.bl false))) sNil))
    (sSeq (sSet 9 (callS F_plan (aCons (eVar 2) aNil)))
    (sSeq (sIf (tOr' (tNot' (tTru (eCall kIsi (aCons (eVar 9) (aCons (eC (D.ty "list")) aNil))))) (tOr' (bOf (e2 kNe (eCall kLen (aCons (eVar 9) aNil)) (eVar 3))) (tOr' (bOf (e2 kNe (e2 kIx (eVar 9) (eVar 4)) (eVar 6))) (tNot' (tTru (eCall kIsi (aCons (e2 kIx (eVar 9) (eVar 4)) (aCons (eC (D.ty "list")) aNil)))))))) (sRet (eC (D.bl false))) sNil)
    (sSeq (sExpr (eApp (e2 kIx (eVar 9) (eVar 4)) (aCons (eC (D.str "x")) aNil)))
    (sRet (e2 kEq (e2 kIx (callS F_plan (aCons (eVar 2) aNil)) (eVar 4)) (eVar 6))))))))))))))))
def F_law : PF := runP 12 b_law
structure Tx (K : PySem.W.Frag) (mg : Str → Option Value) : Prop where
  n_abs : mg "abs" = none
  n_all : mg "all" = none
  n_int : mg "int" = none
  n_isinstance : mg "isinstance" = none
  n_len : mg "len" = none
  n_list : mg "list" = none
  n_max : mg "max" = none
  n_min : mg "min" = none
  n_range : mg "range" = none
  n_sorted : mg "sorted" = none
  n_tuple : mg "tuple" = none
  k_MOST_PLAN : ∃ t, mg "MOST_PLAN" = some (.int 100 t)
  k_MOST_PLAYERS : ∃ t, mg "MOST_PLAYERS" = some (.int 1000000000000000000000000000000 t)
  x_InvalidQuestion : PySem.W.excIn K (He.ga K "InvalidQuestion") He.veBase "ValueError.__new__" = true ∧ PySem.W.keepIn K (.ref (He.ga K "InvalidQuestion")) = true ∧ PySem.W.subIn K (.ref (He.ga K "InvalidQuestion")) (.type "BaseException") = some true ∧ PySem.W.typeIn K (.ref (He.ga K "InvalidQuestion")) = some (.type "type")
  g_InvalidQuestion : mg "InvalidQuestion" = some (.ref (He.ga K "InvalidQuestion"))
  g_check_players : mg "check_players" = some (.ref (He.ga K "check_players"))
  g_check_below : mg "check_below" = some (.ref (He.ga K "check_below"))
  g_middle : mg "middle" = some (.ref (He.ga K "middle"))
  g_place_of : mg "place_of" = some (.ref (He.ga K "place_of"))
  g_players_at : mg "players_at" = some (.ref (He.ga K "players_at"))
  g_plan : mg "plan" = some (.ref (He.ga K "plan"))
  g__law_row : mg "_law_row" = some (.ref (He.ga K "_law_row"))
  g__law_numbers : mg "_law_numbers" = some (.ref (He.ga K "_law_numbers"))
  g__law_pick : mg "_law_pick" = some (.ref (He.ga K "_law_pick"))
  g_law : mg "law" = some (.ref (He.ga K "law"))
  d_check_players : ∃ fd, FunD K "check_players" "check_players" (defArgs s_check_players) (defBody s_check_players) (defScope s_check_players) [] [] (He.ga K "check_players") fd
  d_check_below : ∃ fd, FunD K "check_below" "check_below" (defArgs s_check_below) (defBody s_check_below) (defScope s_check_below) [] [] (He.ga K "check_below") fd
  d_middle : ∃ fd, FunD K "middle" "middle" (defArgs s_middle) (defBody s_middle) (defScope s_middle) [] [] (He.ga K "middle") fd
  d_place_of : ∃ fd, FunD K "place_of" "place_of" (defArgs s_place_of) (defBody s_place_of) (defScope s_place_of) [] [] (He.ga K "place_of") fd
  d_players_at : ∃ fd, FunD K "players_at" "players_at" (defArgs s_players_at) (defBody s_players_at) (defScope s_players_at) [] [] (He.ga K "players_at") fd
  d_plan : ∃ fd, FunD K "plan" "plan" (defArgs s_plan) (defBody s_plan) (defScope s_plan) [] [] (He.ga K "plan") fd
  d__law_row : ∃ fd, FunD K "_law_row" "_law_row" (defArgs s__law_row) (defBody s__law_row) (defScope s__law_row) [] [] (He.ga K "_law_row") fd
  d__law_numbers : ∃ fd, FunD K "_law_numbers" "_law_numbers" (defArgs s__law_numbers) (defBody s__law_numbers) (defScope s__law_numbers) [] [] (He.ga K "_law_numbers") fd
  d__law_pick : ∃ fd, FunD K "_law_pick" "_law_pick" (defArgs s__law_pick) (defBody s__law_pick) (defScope s__law_pick) [] [] (He.ga K "_law_pick") fd
  d_law : ∃ fd, FunD K "law" "law" (defArgs s_law) (defBody s_law) (defScope s_law) [] [] (He.ga K "law") fd
theorem ok_check_players {P : Program} {w : World} {K : PySem.W.Frag} {mg : Str → Option Value} {base : Heap} {fd : FuncData} (T : Tx K mg) (D₀ : FunD K "check_players" "check_players" (defArgs s_check_players) (defBody s_check_players) (defScope s_check_players) [] [] (He.ga K "check_players") fd) :
    FnOk P w K mg base (L2.CX P w) 1 (He.ga K "check_players") fd ["players"] (spP K 1 F_check_players) := by
  exact ok_fn D₀ sc_check_players fun cdv A outer s H E hr => (b_one (s_if (t_w (w_or (t_not (t_chain op_le op_le ol_le ol_le v_int (v_var 0) (v_glob (v := .int 1000000000000000000000000000000) rfl T.k_MOST_PLAYERS.choose_spec ⟨_, rfl⟩ fun _ _ => .int _))) (w_or1 (t_ne hr.units (v_mod (v_var 0) v_int) v_int)))) (b_one (s_raise rfl tkB (pmk_own PySem.F.excBase_ValueError T.x_InvalidQuestion.1 T.g_InvalidQuestion T.x_InvalidQuestion.2.1 (raises_own T.x_InvalidQuestion.2.2.1 T.x_InvalidQuestion.2.2.2) rfl))) b_nil))
theorem ok_check_below {P : Program} {w : World} {K : PySem.W.Frag} {mg : Str → Option Value} {base : Heap} {fd : FuncData} (T : Tx K mg) (D₀ : FunD K "check_below" "check_below" (defArgs s_check_below) (defBody s_check_below) (defScope s_check_below) [] [] (He.ga K "check_below") fd) :
    FnOk P w K mg base (L2.CX P w) 1 (He.ga K "check_below") fd ["value", "bound"] (spP K 2 F_check_below) := by
  exact ok_fn D₀ sc_check_below fun cdv A outer s H E hr => (b_one (s_if (t_not (t_chain op_le op_lt ol_le ol_lt v_int (v_var 0) (v_var 1))) (b_one (s_raise rfl tkB (pmk_own PySem.F.excBase_ValueError T.x_InvalidQuestion.1 T.g_InvalidQuestion T.x_InvalidQuestion.2.1 (raises_own T.x_InvalidQuestion.2.2.1 T.x_InvalidQuestion.2.2.2) rfl))) b_nil))
theorem ok_middle {P : Program} {w : World} {K : PySem.W.Frag} {mg : Str → Option Value} {base : Heap} {fd : FuncData} (T : Tx K mg) (D₀ : FunD K "middle" "middle" (defArgs s_middle) (defBody s_middle) (defScope s_middle) [] [] (He.ga K "middle") fd) :
    FnOk P w K mg base (L2.CX P w) 1 (He.ga K "middle") fd ["players", "turn"] (spP K 2 F_middle) := by
  exact ok_fn D₀ sc_middle fun cdv A outer s H E hr => (b_one (s_ret (v_mod (v_mul (v_var 1) (v_div (v_var 0) v_int)) (v_sub (v_var 0) v_int))))
theorem ok_place_of {P : Program} {w : World} {K : PySem.W.Frag} {mg : Str → Option Value} {base : Heap} {fd : FuncData} (T : Tx K mg) (D₀ : FunD K "place_of" "place_of" (defArgs s_place_of) (defBody s_place_of) (defScope s_place_of) [] [] (He.ga K "place_of") fd) :
    FnOk P w K mg base (L2.CX P w) 2 (He.ga K "place_of") fd ["players", "turn", "player"] (spP K 3 F_place_of) := by
  obtain ⟨fd_check_players, D_check_players⟩ := T.d_check_players
  have G_check_players := ok_check_players (P := P) (w := w) (base := base) T D_check_players
  have B_check_players := D_check_players.bindsN (ps := ["players"]) fun _ _ _ _ _ _ us hl => match us, hl with | [_], _ => rfl
  obtain ⟨fd_check_below, D_check_below⟩ := T.d_check_below
  have G_check_below := ok_check_below (P := P) (w := w) (base := base) T D_check_below
  have B_check_below := D_check_below.bindsN (ps := ["value", "bound"]) fun _ _ _ _ _ _ us hl => match us, hl with | [_, _], _ => rfl
  obtain ⟨fd_middle, D_middle⟩ := T.d_middle
  have G_middle := ok_middle (P := P) (w := w) (base := base) T D_middle
  have B_middle := D_middle.bindsN (ps := ["players", "turn"]) fun _ _ _ _ _ _ us hl => match us, hl with | [_, _], _ => rfl
  exact ok_fn D₀ sc_place_of fun cdv A outer s H E hr => (b_cons (s_expr (v_call G_check_players (hr.mono (by decide)) T.g_check_players D_check_players.kp B_check_players tkB (a_cons (v_var 0) a_nil) (argN_cons argN_nil)))
    (b_cons (s_expr (v_call G_check_below (hr.mono (by decide)) T.g_check_below D_check_below.kp B_check_below tkB (a_cons (v_var 1) (a_cons (v_sub (v_var 0) v_int) a_nil)) (argN_cons (argN_cons argN_nil))))
    (b_cons (s_expr (v_call G_check_below (hr.mono (by decide)) T.g_check_below D_check_below.kp B_check_below tkB (a_cons (v_var 2) (a_cons (v_var 0) a_nil)) (argN_cons (argN_cons argN_nil))))
    (b_cons (s_set (i := 3) sc_place_of.nd (v_sub (v_var 0) v_int))
    (b_cons (s_if (t_eq hr.units (v_var 2) (v_var 3)) (b_one (s_ret v_int)) b_nil)
    (b_cons (s_set (i := 4) sc_place_of.nd (v_mod (v_sub (v_var 2) (v_call G_middle (hr.mono (by decide)) T.g_middle D_middle.kp B_middle tkB (a_cons (v_var 0) (a_cons (v_var 1) a_nil)) (argN_cons (argN_cons argN_nil)))) (v_var 3)))
    (b_one (s_ret (v_if (t_gt (v_var 4) v_int) (v_min2 rfl T.n_min (a_cons (v_var 4) (a_cons (v_sub (v_var 3) (v_var 4)) a_nil))) v_int)))))))))
theorem ok_players_at {P : Program} {w : World} {K : PySem.W.Frag} {mg : Str → Option Value} {base : Heap} {fd : FuncData} (T : Tx K mg) (D₀ : FunD K "players_at" "players_at" (defArgs s_players_at) (defBody s_players_at) (defScope s_players_at) [] [] (He.ga K "players_at") fd) :
    FnOk P w K mg base (L2.CX P w) 2 (He.ga K "players_at") fd ["players", "turn", "place"] (spP K 3 F_players_at) := by
  obtain ⟨fd_check_players, D_check_players⟩ := T.d_check_players
  have G_check_players := ok_check_players (P := P) (w := w) (base := base) T D_check_players
  have B_check_players := D_check_players.bindsN (ps := ["players"]) fun _ _ _ _ _ _ us hl => match us, hl with | [_], _ => rfl
  obtain ⟨fd_check_below, D_check_below⟩ := T.d_check_below
  have G_check_below := ok_check_below (P := P) (w := w) (base := base) T D_check_below
  have B_check_below := D_check_below.bindsN (ps := ["value", "bound"]) fun _ _ _ _ _ _ us hl => match us, hl with | [_, _], _ => rfl
  obtain ⟨fd_middle, D_middle⟩ := T.d_middle
  have G_middle := ok_middle (P := P) (w := w) (base := base) T D_middle
  have B_middle := D_middle.bindsN (ps := ["players", "turn"]) fun _ _ _ _ _ _ us hl => match us, hl with | [_, _], _ => rfl
  exact ok_fn D₀ sc_players_at fun cdv A outer s H E hr => (b_cons (s_expr (v_call G_check_players (hr.mono (by decide)) T.g_check_players D_check_players.kp B_check_players tkB (a_cons (v_var 0) a_nil) (argN_cons argN_nil)))
    (b_cons (s_expr (v_call G_check_below (hr.mono (by decide)) T.g_check_below D_check_below.kp B_check_below tkB (a_cons (v_var 1) (a_cons (v_sub (v_var 0) v_int) a_nil)) (argN_cons (argN_cons argN_nil))))
    (b_cons (s_expr (v_call G_check_below (hr.mono (by decide)) T.g_check_below D_check_below.kp B_check_below tkB (a_cons (v_var 2) (a_cons (v_div (v_var 0) v_int) a_nil)) (argN_cons (argN_cons argN_nil))))
    (b_cons (s_set (i := 3) sc_players_at.nd (v_sub (v_var 0) v_int))
    (b_cons (s_set (i := 4) sc_players_at.nd (v_call G_middle (hr.mono (by decide)) T.g_middle D_middle.kp B_middle tkB (a_cons (v_var 0) (a_cons (v_var 1) a_nil)) (argN_cons (argN_cons argN_nil))))
    (b_cons (s_if (t_eq hr.units (v_var 2) v_int) (b_one (s_ret (v_tup (a_cons (v_var 4) (a_cons (v_var 3) a_nil))))) b_nil)
    (b_one (s_ret (v_tupOf T.n_tuple (a_cons (v_sorted false hr.units T.n_sorted (a_cons (v_tup (a_cons (v_mod (v_add (v_var 4) (v_var 2)) (v_var 3)) (a_cons (v_mod (v_sub (v_var 4) (v_var 2)) (v_var 3)) a_nil))) a_nil)) a_nil))))))))))
theorem ok_plan {P : Program} {w : World} {K : PySem.W.Frag} {mg : Str → Option Value} {base : Heap} {fd : FuncData} (T : Tx K mg) (D₀ : FunD K "plan" "plan" (defArgs s_plan) (defBody s_plan) (defScope s_plan) [] [] (He.ga K "plan") fd) :
    FnOk P w K mg base (L2.CX P w) 3 (He.ga K "plan") fd ["players"] (spS K 1 F_plan) := by
  obtain ⟨fd_check_players, D_check_players⟩ := T.d_check_players
  have G_check_players := ok_check_players (P := P) (w := w) (base := base) T D_check_players
  have B_check_players := D_check_players.bindsN (ps := ["players"]) fun _ _ _ _ _ _ us hl => match us, hl with | [_], _ => rfl
  obtain ⟨fd_players_at, D_players_at⟩ := T.d_players_at
  have G_players_at := ok_players_at (P := P) (w := w) (base := base) T D_players_at
  have B_players_at := D_players_at.bindsN (ps := ["players", "turn", "place"]) fun _ _ _ _ _ _ us hl => match us, hl with | [_, _, _], _ => rfl
  exact ok_fnS D₀ sc_plan fun cdv A outer s H E hr => (b_cons (s_expr (v_call G_check_players (hr.mono (by decide)) T.g_check_players D_check_players.kp B_check_players tkB (a_cons (v_var 0) a_nil) (argN_cons argN_nil)))
    (b_cons (s_if (t_gt (v_var 0) (v_glob (v := .int 100) rfl T.k_MOST_PLAN.choose_spec ⟨_, rfl⟩ fun _ _ => .int _)) (b_one (s_raise rfl tkB (pmk_own PySem.F.excBase_ValueError T.x_InvalidQuestion.1 T.g_InvalidQuestion T.x_InvalidQuestion.2.1 (raises_own T.x_InvalidQuestion.2.2.1 T.x_InvalidQuestion.2.2.2) rfl))) b_nil)
    (b_one (s_ret (v_lc (own := [("turn", 2)]) true rfl sc_plan.nd (i_rg1 rfl T.n_range (a_cons (v_sub (v_var 0) v_int) a_nil)) (blkOk_by (N := N_plan) (own := [("turn", 2)]) (by kernel_rfl)) (by decide) (fun _ _ _ _ _ => (g_nm sc_plan.nd 2)) (fun _ _ _ _ _ => ts_nil) (fun _ _ _ _ _ => (v_lc (own := [("place", 1)]) true rfl sc_plan.nd (i_rg1 rfl T.n_range (a_cons (v_div (v_var 0) v_int) a_nil)) (blkOk_by (N := N_plan) (own := [("place", 1)]) (by kernel_rfl)) (by decide) (fun _ _ _ _ _ => (g_nm sc_plan.nd 1)) (fun _ _ _ _ _ => ts_nil) (fun _ _ _ _ _ => (v_call G_players_at (hr.mono (by decide)) T.g_players_at D_players_at.kp B_players_at takes0 (a_cons (v_var 0) (a_cons (v_var 2) (a_cons (v_var 1) a_nil))) (argN_cons (argN_cons (argN_cons argN_nil))))))))))))
theorem ok__law_row {P : Program} {w : World} {K : PySem.W.Frag} {mg : Str → Option Value} {base : Heap} {fd : FuncData} (T : Tx K mg) (D₀ : FunD K "_law_row" "_law_row" (defArgs s__law_row) (defBody s__law_row) (defScope s__law_row) [] [] (He.ga K "_law_row") fd) :
    FnOk P w K mg base (L2.CX P w) 1 (He.ga K "_law_row") fd ["_law_cell", "_law_many"] (spP K 2 F__law_row) := by
  exact ok_fn D₀ sc__law_row fun cdv A outer s H E hr => (b_cons (s_set (i := 2) sc__law_row.nd (v_lst true a_nil))
    (b_cons (s_set (i := 3) sc__law_row.nd (v_abs T.n_abs (a_cons (v_var 0) a_nil)))
    (b_cons (s_set (i := 4) sc__law_row.nd (v_mod (v_intOf T.n_int (a_cons (v_add (v_mul (v_var 3) v_int) v_int) a_nil)) v_int))
    (b_cons (s_for (passes_of rfl) rfl (i_rg1 rfl T.n_range (a_cons (v_var 1) a_nil)) (g_nm sc__law_row.nd 5) (b_cons (s_set (i := 4) sc__law_row.nd (v_mod (v_intOf T.n_int (a_cons (v_add (v_mul (v_var 4) v_int) (v_mul v_int (v_add (v_var 5) v_int))) a_nil)) v_int))
    (b_one (s_if (t_ge (v_abs T.n_abs (a_cons (v_var 0) a_nil)) (v_pow v_int v_int)) (b_cons (s_expr (v_app (v_var 2) (a_cons (v_mod (v_intOf T.n_int (a_cons (v_var 3) a_nil)) v_int) a_nil)))
    (b_one (s_set (i := 3) sc__law_row.nd (v_div (v_var 3) v_int)))) (b_one (s_expr (v_app (v_var 2) (a_cons (v_mod (v_intOf T.n_int (a_cons (v_div (v_var 4) v_int) a_nil)) v_int) a_nil))))))))
    (b_one (s_ret (v_frz (v_var 2))))))))
theorem ok__law_numbers {P : Program} {w : World} {K : PySem.W.Frag} {mg : Str → Option Value} {base : Heap} {fd : FuncData} (T : Tx K mg) (D₀ : FunD K "_law_numbers" "_law_numbers" (defArgs s__law_numbers) (defBody s__law_numbers) (defScope s__law_numbers) [] [] (He.ga K "_law_numbers") fd) :
    FnOk P w K mg base (L2.CX P w) 2 (He.ga K "_law_numbers") fd ["_law_script", "_law_many"] (spP K 2 F__law_numbers) := by
  obtain ⟨fd__law_row, D__law_row⟩ := T.d__law_row
  have G__law_row := ok__law_row (P := P) (w := w) (base := base) T D__law_row
  have B__law_row := D__law_row.bindsN (ps := ["_law_cell", "_law_many"]) fun _ _ _ _ _ _ us hl => match us, hl with | [_, _], _ => rfl
  exact ok_fn D₀ sc__law_numbers fun cdv A outer s H E hr => (b_cons (s_set (i := 2) sc__law_numbers.nd (v_sl false (v_var 0) o_none (o_some v_int)))
    (b_cons (s_set (i := 3) sc__law_numbers.nd (v_add v_int (v_div (v_var 1) (v_max2 rfl T.n_max (a_cons v_int (a_cons (v_len T.n_len (a_cons (v_var 2) a_nil)) a_nil))))))
    (b_cons (s_set (i := 4) sc__law_numbers.nd (v_lst true a_nil))
    (b_cons (s_for (passes_of rfl) rfl (i_seq (v_var 2)) (g_nm sc__law_numbers.nd 5) (b_one (s_for (passes_of rfl) rfl (i_seq (v_call G__law_row (hr.mono (by decide)) T.g__law_row D__law_row.kp B__law_row tkB (a_cons (v_var 5) (a_cons (v_var 3) a_nil)) (argN_cons (argN_cons argN_nil)))) (g_nm sc__law_numbers.nd 6) (b_one (s_expr (v_app (v_var 4) (a_cons (v_var 6) a_nil)))))))
    (b_cons (s_while (passes_of rfl) (t_lt (v_len T.n_len (a_cons (v_var 4) a_nil)) (v_var 1)) (b_one (s_expr (v_app (v_var 4) (a_cons v_int a_nil)))))
    (b_one (s_ret (v_sl false (v_var 4) o_none (o_some (v_var 1))))))))))
theorem ok__law_pick {P : Program} {w : World} {K : PySem.W.Frag} {mg : Str → Option Value} {base : Heap} {fd : FuncData} (T : Tx K mg) (D₀ : FunD K "_law_pick" "_law_pick" (defArgs s__law_pick) (defBody s__law_pick) (defScope s__law_pick) [] [] (He.ga K "_law_pick") fd) :
    FnOk P w K mg base (L2.CX P w) 1 (He.ga K "_law_pick") fd ["_law_numbers_here", "_law_at", "_law_most"] (spP K 3 F__law_pick) := by
  exact ok_fn D₀ sc__law_pick fun cdv A outer s H E hr => (b_one (s_ret (v_mod (v_intOf T.n_int (a_cons (v_ix (v_var 0) (v_var 1)) a_nil)) (v_var 2))))
theorem ok_law {P : Program} {w : World} {K : PySem.W.Frag} {mg : Str → Option Value} {base : Heap} {fd : FuncData} (T : Tx K mg) (D₀ : FunD K "law" "law" (defArgs s_law) (defBody s_law) (defScope s_law) [] [] (He.ga K "law") fd) :
    FnOk P w K mg base (L2.CX P w) 4 (He.ga K "law") fd ["_law_script"] (spP K 1 F_law) := by
  obtain ⟨fd_place_of, D_place_of⟩ := T.d_place_of
  have G_place_of := ok_place_of (P := P) (w := w) (base := base) T D_place_of
  have B_place_of := D_place_of.bindsN (ps := ["players", "turn", "player"]) fun _ _ _ _ _ _ us hl => match us, hl with | [_, _, _], _ => rfl
  obtain ⟨fd_players_at, D_players_at⟩ := T.d_players_at
  have G_players_at := ok_players_at (P := P) (w := w) (base := base) T D_players_at
  have B_players_at := D_players_at.bindsN (ps := ["players", "turn", "place"]) fun _ _ _ _ _ _ us hl => match us, hl with | [_, _, _], _ => rfl
  obtain ⟨fd_plan, D_plan⟩ := T.d_plan
  have G_plan := ok_plan (P := P) (w := w) (base := base) T D_plan
  have B_plan := D_plan.bindsN (ps := ["players"]) fun _ _ _ _ _ _ us hl => match us, hl with | [_], _ => rfl
  obtain ⟨fd__law_numbers, D__law_numbers⟩ := T.d__law_numbers
  have G__law_numbers := ok__law_numbers (P := P) (w := w) (base := base) T D__law_numbers
  have B__law_numbers := D__law_numbers.bindsN (ps := ["_law_script", "_law_many"]) fun _ _ _ _ _ _ us hl => match us, hl with | [_, _], _ => rfl
  obtain ⟨fd__law_pick, D__law_pick⟩ := T.d__law_pick
  have G__law_pick := ok__law_pick (P := P) (w := w) (base := base) T D__law_pick
  have B__law_pick := D__law_pick.bindsN (ps := ["_law_numbers_here", "_law_at", "_law_most"]) fun _ _ _ _ _ _ us hl => match us, hl with | [_, _, _], _ => rfl
  exact ok_fn D₀ sc_law fun cdv A outer s H E hr => (b_cons (s_set (i := 1) sc_law.nd (v_call G__law_numbers (hr.mono (by decide)) T.g__law_numbers D__law_numbers.kp B__law_numbers tkB (a_cons (v_var 0) (a_cons v_int a_nil)) (argN_cons (argN_cons argN_nil))))
    (b_cons (s_set (i := 2) sc_law.nd (v_add v_int (v_mul v_int (v_call G__law_pick (hr.mono (by decide)) T.g__law_pick D__law_pick.kp B__law_pick tkB (a_cons (v_var 1) (a_cons v_int (a_cons v_int a_nil))) (argN_cons (argN_cons (argN_cons argN_nil)))))))
    (b_cons (s_set (i := 3) sc_law.nd (v_sub (v_var 2) v_int))
    (b_cons (s_set (i := 4) sc_law.nd (v_call G__law_pick (hr.mono (by decide)) T.g__law_pick D__law_pick.kp B__law_pick tkB (a_cons (v_var 1) (a_cons v_int (a_cons (v_var 3) a_nil))) (argN_cons (argN_cons (argN_cons argN_nil)))))
    (b_cons (s_set (i := 5) sc_law.nd (v_ix (v_lc (own := [("_law_one", 10)]) false rfl sc_law.nd (i_rg1 rfl T.n_range (a_cons (v_var 3) a_nil)) (blkOk_by (N := N_law) (own := [("_law_one", 10)]) (by kernel_rfl)) (by decide) (fun _ _ _ _ _ => (g_nm sc_law.nd 10)) (fun _ _ _ _ _ => (ts_one (t_eq hr.units (v_mod (v_intOf T.n_int (a_cons (v_sub (v_mul v_int (v_var 10)) (v_var 4)) a_nil)) (v_var 3)) v_int))) (fun _ _ _ _ _ => (v_var 10))) v_int))
    (b_cons (s_set (i := 6) sc_law.nd (v_lst true (a_cons (v_tup (a_cons (v_var 5) (a_cons (v_var 3) a_nil))) a_nil)))
    (b_cons (s_for (passes_of rfl) rfl (i_rg2 rfl T.n_range (a_cons v_int (a_cons (v_div (v_var 2) v_int) a_nil))) (g_nm sc_law.nd 7) (b_one (s_expr (v_app (v_var 6) (a_cons (v_tupOf T.n_tuple (a_cons (v_sorted false hr.units T.n_sorted (a_cons (v_lst false (a_cons (v_mod (v_intOf T.n_int (a_cons (v_add (v_var 5) (v_var 7)) a_nil)) (v_var 3)) (a_cons (v_mod (v_intOf T.n_int (a_cons (v_sub (v_var 5) (v_var 7)) a_nil)) (v_var 3)) a_nil))) a_nil)) a_nil)) a_nil)))))
    (b_cons (s_setLc (own := [("_law_place", 7)]) (i := 8) false rfl sc_law.nd rfl (sw_true rfl rfl rfl (by decide +kernel)) (i_rg1 rfl T.n_range (a_cons (v_div (v_var 2) v_int) a_nil)) (blkOk_by (N := N_law) (own := [("_law_place", 7)]) (by kernel_rfl)) (by decide) (fun _ _ _ _ _ => (g_nm sc_law.nd 7)) (fun _ _ _ _ _ => ts_nil) (fun _ _ _ _ _ => (v_call G_players_at (hr.mono (by decide)) T.g_players_at D_players_at.kp B_players_at takes0 (a_cons (v_var 2) (a_cons (v_var 4) (a_cons (v_var 7) a_nil))) (argN_cons (argN_cons (argN_cons argN_nil))))))
    (b_cons (s_if (t_w (w_or (t_ne hr.units (v_var 8) (v_var 6)) (w_or1 (t_not (t_tru (v_all rfl T.n_all (a_cons (v_lc (own := [("_law_pair", 11)]) false rfl sc_law.nd (i_seq (v_var 8)) (blkOk_by (N := N_law) (own := [("_law_pair", 11)]) (by kernel_rfl)) (by decide) (fun _ _ _ _ _ => (g_nm sc_law.nd 11)) (fun _ _ _ _ _ => ts_nil) (fun _ _ _ _ _ => (v_isi T.n_isinstance (a_cons (v_var 11) (a_cons (v_ty T.n_tuple) a_nil))))) a_nil))))))) (b_one (s_ret v_bl)) b_nil)
    (b_cons (s_for (passes_of rfl) rfl (i_rg1 rfl T.n_range (a_cons (v_div (v_var 2) v_int) a_nil)) (g_nm sc_law.nd 7) (b_one (s_if (t_w (w_or (t_ne hr.units (v_call G_place_of (hr.mono (by decide)) T.g_place_of D_place_of.kp B_place_of tkB (a_cons (v_var 2) (a_cons (v_var 4) (a_cons (v_ix (v_ix (v_var 6) (v_var 7)) v_int) a_nil))) (argN_cons (argN_cons (argN_cons argN_nil)))) (v_var 7)) (w_or1 (t_ne hr.units (v_call G_place_of (hr.mono (by decide)) T.g_place_of D_place_of.kp B_place_of tkB (a_cons (v_var 2) (a_cons (v_var 4) (a_cons (v_ix (v_ix (v_var 6) (v_var 7)) v_int) a_nil))) (argN_cons (argN_cons (argN_cons argN_nil)))) (v_var 7))))) (b_one (s_ret v_bl)) b_nil)))
    (b_cons (s_set (i := 9) sc_law.nd (v_callS G_plan (hr.mono (by decide)) T.g_plan D_plan.kp B_plan tkB (a_cons (v_var 2) a_nil) (argN_cons argN_nil)))
    (b_cons (s_if (t_w (w_or (t_not (t_tru (v_isi T.n_isinstance (a_cons (v_var 9) (a_cons (v_ty T.n_list) a_nil))))) (w_or (t_ne hr.units (v_len T.n_len (a_cons (v_var 9) a_nil)) (v_var 3)) (w_or (t_ne hr.units (v_ix (v_var 9) (v_var 4)) (v_var 6)) (w_or1 (t_not (t_tru (v_isi T.n_isinstance (a_cons (v_ix (v_var 9) (v_var 4)) (a_cons (v_ty T.n_list) a_nil)))))))))) (b_one (s_ret v_bl)) b_nil)
    (b_cons (s_expr (v_app (v_ix (v_var 9) (v_var 4)) (a_cons v_str a_nil)))
    (b_one (s_ret (v_eq hr.units (v_ix (v_callS G_plan (hr.mono (by decide)) T.g_plan D_plan.kp B_plan tkB (a_cons (v_var 2) a_nil) (argN_cons argN_nil)) (v_var 4)) (v_var 6)))))))))))))))))
def fa : List He.Fa := [.free "abs", .free "all", .free "int", .free "isinstance", .free "len", .free "list", .free "max", .free "min", .free "range", .free "sorted", .free "tuple", .int "MOST_PLAN" 100, .int "MOST_PLAYERS" 1000000000000000000000000000000, .exc "InvalidQuestion", .glo "InvalidQuestion", .glo "check_players", .glo "check_below", .glo "middle", .glo "place_of", .glo "players_at", .glo "plan", .glo "_law_row", .glo "_law_numbers", .glo "_law_pick", .glo "law"]
def fn : List He.DefD := [⟨("check_players", none), "check_players", "check_players", defArgs s_check_players, defBody s_check_players, defScope s_check_players, [], []⟩,
  ⟨("check_below", none), "check_below", "check_below", defArgs s_check_below, defBody s_check_below, defScope s_check_below, [], []⟩,
  ⟨("middle", none), "middle", "middle", defArgs s_middle, defBody s_middle, defScope s_middle, [], []⟩,
  ⟨("place_of", none), "place_of", "place_of", defArgs s_place_of, defBody s_place_of, defScope s_place_of, [], []⟩,
  ⟨("players_at", none), "players_at", "players_at", defArgs s_players_at, defBody s_players_at, defScope s_players_at, [], []⟩,
  ⟨("plan", none), "plan", "plan", defArgs s_plan, defBody s_plan, defScope s_plan, [], []⟩,
  ⟨("_law_row", none), "_law_row", "_law_row", defArgs s__law_row, defBody s__law_row, defScope s__law_row, [], []⟩,
  ⟨("_law_numbers", none), "_law_numbers", "_law_numbers", defArgs s__law_numbers, defBody s__law_numbers, defScope s__law_numbers, [], []⟩,
  ⟨("_law_pick", none), "_law_pick", "_law_pick", defArgs s__law_pick, defBody s__law_pick, defScope s__law_pick, [], []⟩,
  ⟨("law", none), "law", "law", defArgs s_law, defBody s_law, defScope s_law, [], []⟩]
theorem tx_of {K : PySem.W.Frag} {h : Heap} {mg : Str → Option Value} (X : K.In h) (G : h.Ns mainGlobals mg) (c : He.SaysD fa fn K) : Tx K mg :=
  ⟨He.free_ok X G (c.fact 0 rfl), He.free_ok X G (c.fact 1 rfl), He.free_ok X G (c.fact 2 rfl), He.free_ok X G (c.fact 3 rfl), He.free_ok X G (c.fact 4 rfl), He.free_ok X G (c.fact 5 rfl), He.free_ok X G (c.fact 6 rfl), He.free_ok X G (c.fact 7 rfl), He.free_ok X G (c.fact 8 rfl), He.free_ok X G (c.fact 9 rfl), He.free_ok X G (c.fact 10 rfl), He.int_ok X G (c.fact 11 rfl), He.int_ok X G (c.fact 12 rfl), He.exc_ok (c.fact 13 rfl), He.glo_ok X G (c.fact 14 rfl), He.glo_ok X G (c.fact 15 rfl), He.glo_ok X G (c.fact 16 rfl), He.glo_ok X G (c.fact 17 rfl), He.glo_ok X G (c.fact 18 rfl), He.glo_ok X G (c.fact 19 rfl), He.glo_ok X G (c.fact 20 rfl), He.glo_ok X G (c.fact 21 rfl), He.glo_ok X G (c.fact 22 rfl), He.glo_ok X G (c.fact 23 rfl), He.glo_ok X G (c.fact 24 rfl), c.def_ 0 rfl, c.def_ 1 rfl, c.def_ 2 rfl, c.def_ 3 rfl, c.def_ 4 rfl, c.def_ 5 rfl, c.def_ 6 rfl, c.def_ 7 rfl, c.def_ 8 rfl, c.def_ 9 rfl⟩
abbrev Rw : PySem.W.OpenRow := PySem.W.OpenLaw.row PySem.Challenge.rw_paironce_k79_places
abbrev hk : PySem.W.Hook := He.hookD 4 fa fn
def loose : List PySem.Str := (["PaironceError", "InvalidQuestion", "MOST_PLAYERS", "MOST_PLAN", "check_players", "check_below", "middle", "place_of", "players_at", "plan", "_law_row", "_law_numbers", "_law_pick"] : List PySem.Str)
def ob (s : PySem.W.SharedT) : He.AlD := He.obsDG 4 fa fn (HandSHeadRun.getT s)
theorem ob_eq (s : PySem.W.SharedT) : ob s = hk.obs s.abs := He.obsDG_eq (HandSHeadRun.getT_eq s)
theorem run (w : World) : HandSHeadRun.RunEq Rw (PySem.W.view Rw.prog [16]) hk ob 4000 loose w := by
  intro os
  kernel_rfl
theorem facts {P : Program} {w : World} {K : PySem.W.Frag} {h : Heap} {mg : Str → Option Value} {f : Addr} (X : K.In h) (G : h.Ns mainGlobals mg) (hfa : mg ("law" : Str) = some (.ref f)) (c : He.SaysD fa fn K) :
    ∃ fd : FuncData, (∀ (s : Shared) (v : Value), BindsTo s fd ⟨[v], []⟩ [("_law_script", v)]) ∧ ∀ base : Heap, K.In base → base.Ns mainGlobals mg → FnOk P w K mg base CX0 4 f fd ["_law_script"] (fun vs H Q _ => spP K 1 F_law vs H Q E0) := by
  have T := tx_of X G c
  obtain ⟨fd, D⟩ := T.d_law
  have e := hfa.symm.trans T.g_law
  cases e
  have b := FunD.bindsA (ps := ["_law_script"]) D fun _ _ _ _ _ _ us hl => match us, hl with | [_], _ => rfl
  exact ⟨fd, fun s v => b s [v] rfl, fun base _ _ => fn_calm (ok_law T D)⟩
end
end K79
open PySem PySem.W PySem.Calls PyProof.Rows
theorem K79.holds_of (hG : ∀ ns : List Int, ns.length ≤ 63 → K79.F_law [VL.scrD ns] = .ok (.bl true)) : PySem.Challenge.rw_paironce_k79_places.Holds := by
  w_on; o_law
  refine HandSHeadRun.head_any (r := OpenLaw.row PySem.Challenge.rw_paironce_k79_places) (q := view (OpenLaw.row PySem.Challenge.rw_paironce_k79_places).prog [16]) (H := K79.hk) (ob := K79.ob) (M := 4000) (loose := K79.loose) (d := HandSHeadRun.topDef (OpenLaw.row PySem.Challenge.rw_paironce_k79_places).prog 16) (kwd := []) K79.ob_eq
    (by kernel_rfl) (fun s => by kernel_rfl) K79.run (by kernel_rfl) (by kernel_rfl) (by kernel_rfl) (by rfl) (by first | assumption | decide +kernel) (by decide +kernel) ⟨rfl, rfl, rfl, rfl, rfl, by decide +kernel⟩ ?hw ?hc
  case hw => w_witness2
  case hc =>
    refine L2.walk_ofE (l := PySem.Challenge.rw_paironce_k79_places) (n := 63) (k := 4) (x := "_law_script") (CX := L2.CX0) rfl (by decide) (by kernel_rfl) ⟨rfl, by decide, by decide⟩ ?F (fun _ _ _ _ z => z)
    intro w mg fa h Y G hmg0
    obtain ⟨K, KX, c⟩ := Y
    have hmg : mg ("law" : PySem.Str) = some (.ref fa) := by
      have e : (HandSHeadRun.topDef (OpenLaw.row PySem.Challenge.rw_paironce_k79_places).prog 16).name = ("law" : PySem.Str) := by kernel_rfl
      rw [← e]
      exact hmg0
    obtain ⟨fd, hb, hF⟩ := K79.facts (P := (PySem.Challenge.rw_paironce_k79_places).prog) (w := w) KX G hmg c
    exact ⟨K, fd, (fun vs H Q _ => VL.spP K 1 K79.F_law vs H Q L2.E0), KX, hb, VL.law_end (x := "law") (P := (PySem.Challenge.rw_paironce_k79_places).prog) (w := w) (mg := mg) (base := h) (k := 0) (f := fa) (fd := fd) hG, hF⟩

set_option Elab.async false
set_option linter.all false
set_option maxRecDepth 100000
namespace K79
open PySem PyProof.Rows PySem.Spec L2 VL
theorem cm (i j : Int) (h : -1000000000000 ≤ i ∧ i ≤ 1000000000000) : CMul i j := .inl (by omega)
theorem cm' (i j : Int) (h : -1000000000000 ≤ j ∧ j ≤ 1000000000000) : CMul i j := .inr (by omega)
theorem cd2 (i : Int) : CDiv i 2 := by unfold CDiv; omega
structure Pl (p : Int) : Prop where
  lo : 2 ≤ p
  hi : p ≤ 30
  ev : p % 2 = 0
theorem F_check_players_ok {p : Int} (h : Pl p) : F_check_players [.int p] = .ok .non := by
  obtain ⟨h1, h2, h3⟩ := h
  have h4 : p ≤ 1000000000000000000000000000000 := by omega
  simp [F_check_players, b_check_players, runP, runS, sSeq, sExpr, sRet, sRetN, sSet, sIf, sNil, sRaise, sBrk, sCnt, sFor, sAsg, sAug, eVar, eC, e2, e1, eChain, bOf, tAnd', tOr', tNot', eAnd, eOr, eNot, eIf, callP, callS, aCons, aNil, eTup, eLst, newL, eCall, tTru, truD, kInt, kIntC, S.put, gNm, gTup', gCons', gNil', itS, itL, itT, itR1, itR2, kIx, kSl, eSl, oNone, oSome, kLen, kAbs, kMax2, kMin2, kIntOf, kSorted, kAll, kAny, kTupOf, kLstOf, kIsi, eApp, kApp, eFrz, look, tYes', kNeg, kIs, kIsNot, wipeD, Res.bind, Res.bindS, pf_non, pf_bl, pf_int, pf_str, pf_tup, pf_lst, pf_scr, pfs_nil, pfs_cons, pfF, eqI, neI, eqS, neS, decide_eq_true_eq, h1, h4, h3]
theorem F_check_below_ok {v b : Int} (h1 : 0 ≤ v) (h2 : v < b) : F_check_below [.int v, .int b] = .ok .non := by
  simp [F_check_below, b_check_below, runP, runS, sSeq, sExpr, sRet, sRetN, sSet, sIf, sNil, sRaise, sBrk, sCnt, sFor, sAsg, sAug, eVar, eC, e2, e1, eChain, bOf, tAnd', tOr', tNot', eAnd, eOr, eNot, eIf, callP, callS, aCons, aNil, eTup, eLst, newL, eCall, tTru, truD, kInt, kIntC, S.put, gNm, gTup', gCons', gNil', itS, itL, itT, itR1, itR2, kIx, kSl, eSl, oNone, oSome, kLen, kAbs, kMax2, kMin2, kIntOf, kSorted, kAll, kAny, kTupOf, kLstOf, kIsi, eApp, kApp, eFrz, look, tYes', kNeg, kIs, kIsNot, wipeD, Res.bind, Res.bindS, pf_non, pf_bl, pf_int, pf_str, pf_tup, pf_lst, pf_scr, pfs_nil, pfs_cons, pfF, eqI, neI, eqS, neS, decide_eq_true_eq, h1, h2]
theorem F_middle_ok {p t : Int} (h : Pl p) (h1 : 0 ≤ t) (h2 : t < p - 1) : F_middle [.int p, .int t] = .ok (.int (t * (p / 2) % (p - 1))) := by
  obtain ⟨a, b, c⟩ := h
  simp [F_middle, b_middle, runP, runS, sSeq, sExpr, sRet, sRetN, sSet, sIf, sNil, sRaise, sBrk, sCnt, sFor, sAsg, sAug, eVar, eC, e2, e1, eChain, bOf, tAnd', tOr', tNot', eAnd, eOr, eNot, eIf, callP, callS, aCons, aNil, eTup, eLst, newL, eCall, tTru, truD, kInt, kIntC, S.put, gNm, gTup', gCons', gNil', itS, itL, itT, itR1, itR2, kIx, kSl, eSl, oNone, oSome, kLen, kAbs, kMax2, kMin2, kIntOf, kSorted, kAll, kAny, kTupOf, kLstOf, kIsi, eApp, kApp, eFrz, look, tYes', kNeg, kIs, kIsNot, wipeD, Res.bind, Res.bindS, pf_non, pf_bl, pf_int, pf_str, pf_tup, pf_lst, pf_scr, pfs_nil, pfs_cons, pfF, eqI, neI, eqS, neS, decide_eq_true_eq, cd2, cm t (p / 2) (by omega), show 1 < p by omega]
theorem F_place_of_ok {p t q : Int} (h : Pl p) (h1 : 0 ≤ t) (h2 : t < p - 1) (h3 : 0 ≤ q) (h4 : q < p) :
    F_place_of [.int p, .int t, .int q] = .ok (.int (if q = p - 1 then 0 else if 0 < (q - t * (p / 2) % (p - 1)) % (p - 1) then min ((q - t * (p / 2) % (p - 1)) % (p - 1)) (p - 1 - (q - t * (p / 2) % (p - 1)) % (p - 1)) else 0)) := by
  have hh := h
  obtain ⟨a, b, c⟩ := h
  have e1 : 1 < p := by omega
  have hm := F_middle_ok hh h1 h2
  generalize t * (p / 2) % (p - 1) = m at hm ⊢
  by_cases c1 : q = p - 1
  · subst c1
    simp [F_place_of, b_place_of, runP, runS, sSeq, sExpr, sRet, sRetN, sSet, sIf, sNil, sRaise, sBrk, sCnt, sFor, sAsg, sAug, eVar, eC, e2, e1, eChain, bOf, tAnd', tOr', tNot', eAnd, eOr, eNot, eIf, callP, callS, aCons, aNil, eTup, eLst, newL, eCall, tTru, truD, kInt, kIntC, S.put, gNm, gTup', gCons', gNil', itS, itL, itT, itR1, itR2, kIx, kSl, eSl, oNone, oSome, kLen, kAbs, kMax2, kMin2, kIntOf, kSorted, kAll, kAny, kTupOf, kLstOf, kIsi, eApp, kApp, eFrz, look, tYes', kNeg, kIs, kIsNot, wipeD, Res.bind, Res.bindS, pf_non, pf_bl, pf_int, pf_str, pf_tup, pf_lst, pf_scr, pfs_nil, pfs_cons, pfF, eqI, neI, eqS, neS, decide_eq_true_eq, F_check_players_ok hh, F_check_below_ok h1 h2, F_check_below_ok h3 h4, hm, e1]
  · by_cases c2 : 0 < (q - m) % (p - 1)
    · simp [F_place_of, b_place_of, runP, runS, sSeq, sExpr, sRet, sRetN, sSet, sIf, sNil, sRaise, sBrk, sCnt, sFor, sAsg, sAug, eVar, eC, e2, e1, eChain, bOf, tAnd', tOr', tNot', eAnd, eOr, eNot, eIf, callP, callS, aCons, aNil, eTup, eLst, newL, eCall, tTru, truD, kInt, kIntC, S.put, gNm, gTup', gCons', gNil', itS, itL, itT, itR1, itR2, kIx, kSl, eSl, oNone, oSome, kLen, kAbs, kMax2, kMin2, kIntOf, kSorted, kAll, kAny, kTupOf, kLstOf, kIsi, eApp, kApp, eFrz, look, tYes', kNeg, kIs, kIsNot, wipeD, Res.bind, Res.bindS, pf_non, pf_bl, pf_int, pf_str, pf_tup, pf_lst, pf_scr, pfs_nil, pfs_cons, pfF, eqI, neI, eqS, neS, decide_eq_true_eq, F_check_players_ok hh, F_check_below_ok h1 h2, F_check_below_ok h3 h4, hm, e1, c1, c2]
      generalize (q - m) % (p - 1) = w
      by_cases c3 : p - 1 - w < w
      · rw [if_pos c3]; omega
      · rw [if_neg c3]; omega
    · simp [F_place_of, b_place_of, runP, runS, sSeq, sExpr, sRet, sRetN, sSet, sIf, sNil, sRaise, sBrk, sCnt, sFor, sAsg, sAug, eVar, eC, e2, e1, eChain, bOf, tAnd', tOr', tNot', eAnd, eOr, eNot, eIf, callP, callS, aCons, aNil, eTup, eLst, newL, eCall, tTru, truD, kInt, kIntC, S.put, gNm, gTup', gCons', gNil', itS, itL, itT, itR1, itR2, kIx, kSl, eSl, oNone, oSome, kLen, kAbs, kMax2, kMin2, kIntOf, kSorted, kAll, kAny, kTupOf, kLstOf, kIsi, eApp, kApp, eFrz, look, tYes', kNeg, kIs, kIsNot, wipeD, Res.bind, Res.bindS, pf_non, pf_bl, pf_int, pf_str, pf_tup, pf_lst, pf_scr, pfs_nil, pfs_cons, pfF, eqI, neI, eqS, neS, decide_eq_true_eq, F_check_players_ok hh, F_check_below_ok h1 h2, F_check_below_ok h3 h4, hm, e1, c1, c2]
/-- the pair at a place -/
def due (p t : Int) (q : Int) : D := if q = 0 then .tup [.int (t * (p / 2) % (p - 1)), .int (p - 1)] else
      .tup ([D.int ((t * (p / 2) % (p - 1) + q) % (p - 1)), D.int ((t * (p / 2) % (p - 1) - q) % (p - 1))].mergeSort leD)
theorem pfs_sort_two (a b : Int) : pfs ([D.int a, D.int b].mergeSort leD) = true := by
  rw [sort_two]
  split <;> rfl
theorem F_players_at_ok {p t q : Int} (h : Pl p) (h1 : 0 ≤ t) (h2 : t < p - 1) (h3 : 0 ≤ q) (h4 : q < p / 2) :
    F_players_at [.int p, .int t, .int q] = .ok (due p t q) := by
  have hh := h
  obtain ⟨a, b, c⟩ := h
  unfold due
  have e1 : 1 < p := by omega
  have hm := F_middle_ok hh h1 h2
  generalize t * (p / 2) % (p - 1) = m at hm ⊢
  by_cases c1 : q = 0
  · subst c1
    simp [F_players_at, b_players_at, runP, runS, sSeq, sExpr, sRet, sRetN, sSet, sIf, sNil, sRaise, sBrk, sCnt, sFor, sAsg, sAug, eVar, eC, e2, e1, eChain, bOf, tAnd', tOr', tNot', eAnd, eOr, eNot, eIf, callP, callS, aCons, aNil, eTup, eLst, newL, eCall, tTru, truD, kInt, kIntC, S.put, gNm, gTup', gCons', gNil', itS, itL, itT, itR1, itR2, kIx, kSl, eSl, oNone, oSome, kLen, kAbs, kMax2, kMin2, kIntOf, kSorted, kAll, kAny, kTupOf, kLstOf, kIsi, eApp, kApp, eFrz, look, tYes', kNeg, kIs, kIsNot, wipeD, Res.bind, Res.bindS, pf_non, pf_bl, pf_int, pf_str, pf_tup, pf_lst, pf_scr, pfs_nil, pfs_cons, pfF, eqI, neI, eqS, neS, decide_eq_true_eq, F_check_players_ok hh, F_check_below_ok h1 h2, F_check_below_ok h3 h4, hm, e1, cd2, sizeLine_eq]
  · have c2 : ¬ (0 = q) := fun e => c1 e.symm
    have e3 : (0 : Int) < p - 1 := by omega
    simp [F_players_at, b_players_at, runP, runS, sSeq, sExpr, sRet, sRetN, sSet, sIf, sNil, sRaise, sBrk, sCnt, sFor, sAsg, sAug, eVar, eC, e2, e1, eChain, bOf, tAnd', tOr', tNot', eAnd, eOr, eNot, eIf, callP, callS, aCons, aNil, eTup, eLst, newL, eCall, tTru, truD, kInt, kIntC, S.put, gNm, gTup', gCons', gNil', itS, itL, itT, itR1, itR2, kIx, kSl, eSl, oNone, oSome, kLen, kAbs, kMax2, kMin2, kIntOf, kSorted, kAll, kAny, kTupOf, kLstOf, kIsi, eApp, kApp, eFrz, look, tYes', kNeg, kIs, kIsNot, wipeD, Res.bind, Res.bindS, pf_non, pf_bl, pf_int, pf_str, pf_tup, pf_lst, pf_scr, pfs_nil, pfs_cons, pfF, eqI, neI, eqS, neS, decide_eq_true_eq, F_check_players_ok hh, F_check_below_ok h1 h2, F_check_below_ok h3 h4, hm, e1, cd2, sizeLine_eq, c1, c2, e3, pys_cons, pys_nil, py_int, sortOk_two, pfs_sort_two]
theorem due_tup (p t q : Int) : ∃ a b, due p t q = .tup [.int a, .int b] := by
  unfold due
  split
  · exact ⟨_, _, rfl⟩
  · rw [sort_two]
    split
    · exact ⟨_, _, rfl⟩
    · exact ⟨_, _, rfl⟩
/-- what the law reckons over all rounds that it can ask for -/
def placeI (p t q : Int) : Int := if q = p - 1 then 0 else if 0 < (q - t * (p / 2) % (p - 1)) % (p - 1) then min ((q - t * (p / 2) % (p - 1)) % (p - 1)) (p - 1 - (q - t * (p / 2) % (p - 1)) % (p - 1)) else 0
theorem middle_one : ∀ h : Fin 15, ∀ t : Fin (2 * h.val + 1), (List.range (2 * h.val + 1)).filter (fun x : Nat => decide ((2 * (x : Int) - (t.val : Int)) % (2 * h.val + 1 : Int) = 0)) = [((t.val : Int) * (1 + h.val) % (2 * h.val + 1)).toNat] := by
  decide +kernel
/-- the pair of a place in plain numbers -/
def pr (p t q : Int) : Int × Int := if q = 0 then (t * (p / 2) % (p - 1), p - 1) else
  if (t * (p / 2) % (p - 1) + q) % (p - 1) ≤ (t * (p / 2) % (p - 1) - q) % (p - 1) then ((t * (p / 2) % (p - 1) + q) % (p - 1), (t * (p / 2) % (p - 1) - q) % (p - 1)) else ((t * (p / 2) % (p - 1) - q) % (p - 1), (t * (p / 2) % (p - 1) + q) % (p - 1))
theorem due_pr (p t q : Int) : due p t q = .tup [.int (pr p t q).1, .int (pr p t q).2] := by
  unfold due pr
  by_cases h : q = 0
  · rw [if_pos h, if_pos h]
  · rw [if_neg h, if_neg h, sort_two]
    by_cases h2 : (t * (p / 2) % (p - 1) + q) % (p - 1) ≤ (t * (p / 2) % (p - 1) - q) % (p - 1)
    · rw [if_pos h2, if_pos h2]
    · rw [if_neg h2, if_neg h2]
theorem place_all : ∀ h : Fin 15, ∀ t : Fin (2 * h.val + 1), ∀ q : Fin (h.val + 1),
    let p : Int := 2 + 2 * h.val
    0 ≤ (pr p t.val q.val).1 ∧ (pr p t.val q.val).1 < p ∧ 0 ≤ (pr p t.val q.val).2 ∧ (pr p t.val q.val).2 < p ∧ placeI p t.val (pr p t.val q.val).1 = q.val ∧ placeI p t.val (pr p t.val q.val).2 = q.val := by
  decide +kernel
end K79

set_option Elab.async false
set_option linter.all false
set_option maxRecDepth 100000
namespace K79
open PySem PyProof.Rows PySem.Spec L2 VL
/-- a round: its pairs -/
def rnd (p t : Int) (n : Nat) : List D := (List.range n).map fun q : Nat => due p t (q : Int)
theorem rnd_pl (p t : Int) (n : Nat) : plD 64 (.lst (rnd p t n)) = true := by
  rw [plD, List.all_eq_true]
  intro d hd
  obtain ⟨q, _, rfl⟩ := List.mem_map.mp hd
  rw [due_pr]
  rfl
theorem due_pf (p t q : Int) : (due p t q).pf = true := by
  rw [due_pr]
  rfl
theorem Pl.of (h : Nat) (hh : h < 15) : Pl (2 + 2 * (h : Int)) := ⟨by omega, by omega, by omega⟩
theorem plan_turn {h : Nat} (hh : h < 15) {t : Nat} (ht : t < 2 * h + 1) (q0 : Option D) (η : List Cell) :
    eLc true [1] (gNm 1) (itR1 (aCons (e2 kDiv (eVar 0) (eC (D.int 2))) aNil)) tYes' (callP F_players_at (aCons (eVar 0) (aCons (eVar 2) (aCons (eVar 1) aNil)))) ⟨[some (.int (2 + 2 * (h : Int))), q0, some (.int t)], η⟩
     = .ok (.ptr η.length) ⟨[some (.int (2 + 2 * (h : Int))), q0, some (.int t)], η ++ [.lst (rnd (2 + 2 * (h : Int)) t (h + 1))]⟩ := by
  have e1 : (2 + 2 * (h : Int)) / 2 = ((h + 1 : Nat) : Int) := by omega
  have e3 : small62 ((h + 1 : Nat) : Int) := small62_of (by omega)
  have e4 := lcGo_all (g := gNm 1) (fe := callP F_players_at (aCons (eVar 0) (aCons (eVar 2) (aCons (eVar 1) aNil)))) (ρ := [some (.int (2 + 2 * (h : Int))), none, some (.int t)]) (η := η)
    (fun d => match d with
      | .int q => due (2 + 2 * (h : Int)) t q
      | _ => .non) (rgD 0 (h + 1)) [] (by rw [rgD_len, sizeLine_eq]; simp; omega) (by
      intro d hd
      obtain ⟨i, hi, rfl⟩ := rgD_mem hd
      rw [Int.zero_add]
      refine ⟨⟨[some (.int (2 + 2 * (h : Int))), some (.int i), some (.int t)], η⟩, ⟨[some (.int (2 + 2 * (h : Int))), some (.int i), some (.int t)], η⟩, rfl, ?_, rfl, rfl⟩
      have := F_players_at_ok (p := 2 + 2 * (h : Int)) (t := t) (q := i) (Pl.of h hh) (by omega) (by omega) (by omega) (by omega)
      simp [runP, runS, sSeq, sExpr, sRet, sRetN, sSet, sIf, sNil, sRaise, sBrk, sCnt, sFor, sAsg, sAug, eVar, eC, e2, e1, eChain, bOf, tAnd', tOr', tNot', eAnd, eOr, eNot, eIf, callP, callS, aCons, aNil, eTup, eLst, newL, eCall, tTru, truD, kInt, kIntC, S.put, gNm, gTup', gCons', gNil', itS, itL, itT, itR1, itR2, kIx, kSl, eSl, oNone, oSome, kLen, kAbs, kMax2, kMin2, kIntOf, kSorted, kAll, kAny, kTupOf, kLstOf, kIsi, eApp, kApp, eFrz, look, tYes', kNeg, kIs, kIsNot, wipeD, Res.bind, Res.bindS, pf_non, pf_bl, pf_int, pf_str, pf_tup, pf_lst, pf_scr, pfs_nil, pfs_cons, pfF, eqI, neI, eqS, neS, decide_eq_true_eq, this])
  rw [rgD_map] at e4
  have e5 : (List.range (h + 1)).map (fun i : Nat => due (2 + 2 * (h : Int)) t (i : Int)) = rnd (2 + 2 * (h : Int)) t (h + 1) := rfl
  rw [List.nil_append] at e4
  simp only [e5] at e4
  rw [lc_to (r1_to (h + 1) (s1 := ⟨[some (.int (2 + 2 * (h : Int))), q0, some (.int t)], η⟩) (i := (2 + 2 * (h : Int)) / 2) (by simp [runP, runS, sSeq, sExpr, sRet, sRetN, sSet, sIf, sNil, sRaise, sBrk, sCnt, sFor, sAsg, sAug, eVar, eC, e2, e1, eChain, bOf, tAnd', tOr', tNot', eAnd, eOr, eNot, eIf, callP, callS, aCons, aNil, eTup, eLst, newL, eCall, tTru, truD, kInt, kIntC, S.put, gNm, gTup', gCons', gNil', itS, itL, itT, itR1, itR2, kIx, kSl, eSl, oNone, oSome, kLen, kAbs, kMax2, kMin2, kIntOf, kSorted, kAll, kAny, kTupOf, kLstOf, kIsi, eApp, kApp, eFrz, look, tYes', kNeg, kIs, kIsNot, wipeD, Res.bind, Res.bindS, pf_non, pf_bl, pf_int, pf_str, pf_tup, pf_lst, pf_scr, pfs_nil, pfs_cons, pfF, eqI, neI, eqS, neS, decide_eq_true_eq, cd2]) e1 (by omega)) e4]
  rfl
/-- the cells that a plan lays, from a store so long -/
def plan1 (h : Nat) : List Cell := (List.range (2 * h + 1)).map fun t : Nat => Cell.lst (rnd (2 + 2 * (h : Int)) (t : Int) (h + 1))
def plan2 (h k : Nat) : List D := (List.range (2 * h + 1)).map fun i => D.ptr (k + i)
theorem F_plan_ok {h : Nat} (hh : h < 15) (η : List Cell) : F_plan [.int (2 + 2 * (h : Int))] η = .ok (.ptr (η.length + (2 * h + 1))) (η ++ plan1 h ++ [.lst (plan2 h η.length)]) := by
  have e1 : 2 + 2 * (h : Int) - 1 = ((2 * h + 1 : Nat) : Int) := by omega
  have e3 : small62 ((2 * h + 1 : Nat) : Int) := small62_of (by omega)
  have e4 := lcGo_push (g := gNm 2) (fe := eLc true [1] (gNm 1) (itR1 (aCons (e2 kDiv (eVar 0) (eC (D.int 2))) aNil)) tYes' (callP F_players_at (aCons (eVar 0) (aCons (eVar 2) (aCons (eVar 1) aNil)))))
    (ρ := [some (.int (2 + 2 * (h : Int))), none, none]) (fun d => match d with
      | .int t => rnd (2 + 2 * (h : Int)) t (h + 1)
      | _ => []) (rgD 0 (2 * h + 1)) [] η (by rw [rgD_len, sizeLine_eq]; simp; omega) (by
      intro d hd η
      obtain ⟨i, hi, rfl⟩ := rgD_mem hd
      rw [Int.zero_add]
      exact ⟨⟨[some (.int (2 + 2 * (h : Int))), none, some (.int i)], η⟩, _, rfl, plan_turn hh hi none η⟩)
  rw [rgD_map, rgD_len, List.nil_append] at e4
  have e5 : ((List.range (2 * h + 1)).map fun i : Nat => Cell.lst (rnd (2 + 2 * (h : Int)) (i : Int) (h + 1))) = plan1 h := rfl
  have e6 : ((List.range (2 * h + 1)).map fun i => D.ptr (η.length + i)) = plan2 h η.length := rfl
  simp only [e5, e6] at e4
  have e7 : (plan1 h).length = 2 * h + 1 := by unfold plan1; rw [List.length_map, List.length_range]
  have e8 : ¬ (100 : Int) < 2 + 2 * (h : Int) := by omega
  have hd := F_check_players_ok (Pl.of h hh)
  have e9 := lc_to (m := true) (vs := [2]) (r1_to (f := aCons (e2 kSub (eVar 0) (eC (D.int 1))) aNil) (2 * h + 1) (s := ⟨[some (.int (2 + 2 * (h : Int))), none, none], η⟩) (s1 := ⟨[some (.int (2 + 2 * (h : Int))), none, none], η⟩) (i := 2 + 2 * (h : Int) - 1) (by simp [runP, runS, sSeq, sExpr, sRet, sRetN, sSet, sIf, sNil, sRaise, sBrk, sCnt, sFor, sAsg, sAug, eVar, eC, e2, e1, eChain, bOf, tAnd', tOr', tNot', eAnd, eOr, eNot, eIf, callP, callS, aCons, aNil, eTup, eLst, newL, eCall, tTru, truD, kInt, kIntC, S.put, gNm, gTup', gCons', gNil', itS, itL, itT, itR1, itR2, kIx, kSl, eSl, oNone, oSome, kLen, kAbs, kMax2, kMin2, kIntOf, kSorted, kAll, kAny, kTupOf, kLstOf, kIsi, eApp, kApp, eFrz, look, tYes', kNeg, kIs, kIsNot, wipeD, Res.bind, Res.bindS, pf_non, pf_bl, pf_int, pf_str, pf_tup, pf_lst, pf_scr, pfs_nil, pfs_cons, pfF, eqI, neI, eqS, neS, decide_eq_true_eq]) e1 (by omega)) e4
  unfold F_plan b_plan runS
  simp [runP, runS, sSeq, sExpr, sRet, sRetN, sSet, sIf, sNil, sRaise, sBrk, sCnt, sFor, sAsg, sAug, eVar, eC, e2, e1, eChain, bOf, tAnd', tOr', tNot', eAnd, eOr, eNot, eIf, callP, callS, aCons, aNil, eTup, eLst, newL, eCall, tTru, truD, kInt, kIntC, S.put, gNm, gTup', gCons', gNil', itS, itL, itT, itR1, itR2, kIx, kSl, eSl, oNone, oSome, kLen, kAbs, kMax2, kMin2, kIntOf, kSorted, kAll, kAny, kTupOf, kLstOf, kIsi, eApp, kApp, eFrz, look, tYes', kNeg, kIs, kIsNot, wipeD, Res.bind, Res.bindS, pf_non, pf_bl, pf_int, pf_str, pf_tup, pf_lst, pf_scr, pfs_nil, pfs_cons, pfF, eqI, neI, eqS, neS, decide_eq_true_eq, hd, e8] at e9 ⊢
  simp [e9, e7]
end K79

set_option Elab.async false
set_option linter.all false
set_option maxRecDepth 100000
namespace K79
open PySem PyProof.Rows PySem.Spec L2 VL
noncomputable section
def mid (h : Nat) (t : Int) : Int := t * ((2 + 2 * (h : Int)) / 2) % (2 + 2 * (h : Int) - 1)
def tests (h : Nat) (t : Int) (d : D) : Bool := match d with
  | .int x => decide ((2 * x - t) % (2 * (h : Int) + 1) = 0)
  | _ => false
theorem mid_ok {h t : Nat} (hh : h < 15) (ht : t < 2 * h + 1) : ((rgD 0 (2 * h + 1)).filter (tests h t)).map id = [.int (mid h t)] := by
  have e := middle_one ⟨h, hh⟩ ⟨t, ht⟩
  have e1 : (rgD 0 (2 * h + 1)) = (List.range (2 * h + 1)).map fun i : Nat => D.int (i : Int) := by
    have := rgD_map (2 * h + 1) id
    simpa using this
  rw [e1, List.filter_map, List.map_map, show (tests h t ∘ fun i : Nat => D.int (i : Int)) = fun x : Nat => decide ((2 * (x : Int) - (t : Int)) % (2 * h + 1 : Int) = 0) from rfl, e]
  have e2 : (2 + 2 * (h : Int)) / 2 = 1 + h := by omega
  have e3 : (2 + 2 * (h : Int) - 1) = 2 * h + 1 := by omega
  have e4 : 0 ≤ (t : Int) * (1 + h) % (2 * h + 1) := Int.emod_nonneg _ (by omega)
  rw [mid, e2, e3]
  simp
  omega
def sl (scr nums : D) (h : Nat) (t : Nat) (v5 v6 v7 v8 v9 v10 v11 : Option D) (η : List Cell) : S := ⟨[some scr, some nums, some (.int (2 + 2 * (h : Int))), some (.int (2 + 2 * (h : Int) - 1)), some (.int (t : Int)), v5, v6, v7, v8, v9, v10, v11], η⟩
def dueBody : VS := (sExpr (eApp (eVar 6) (aCons (eCall kTupOf (aCons (eCall (kSorted false) (aCons (eLst false (aCons (e2 kMod (eCall kIntOf (aCons (e2 kAdd (eVar 5) (eVar 7)) aNil)) (eVar 3)) (aCons (e2 kMod (eCall kIntOf (aCons (e2 kSub (eVar 5) (eVar 7)) aNil)) (eVar 3)) aNil))) aNil)) aNil)) aNil)))
theorem due_turn (scr nums : D) {h t : Nat} (hh : h < 15) (i : Nat) (hi : 0 < i) (v8 v9 v10 v11 : Option D) (ds : List D) (hd : ds.length < 100) :
    dueBody (sl scr nums h t (some (.int (mid h t))) (some (.ptr 0)) (some (.int i)) v8 v9 v10 v11 [.lst ds]) = .nx (sl scr nums h t (some (.int (mid h t))) (some (.ptr 0)) (some (.int i)) v8 v9 v10 v11 [.lst (ds ++ [due (2 + 2 * (h : Int)) t i])]) := by
  have hs : ds.length < sizeLine := by rw [sizeLine_eq]; omega
  have h1 : (1 : Int) < 2 + 2 * (h : Int) := by omega
  have h2 : ¬ i = 0 := by omega
  have h3 : due (2 + 2 * (h : Int)) t i = .tup ([D.int ((mid h t + i) % (2 + 2 * (h : Int) - 1)), D.int ((mid h t - i) % (2 + 2 * (h : Int) - 1))].mergeSort leD) := by
    rw [due, if_neg (by omega)]
    rfl
  rw [h3]
  generalize mid h t = m
  rw [sizeLine_eq] at hs
  simp [dueBody, sl, runP, runS, sSeq, sExpr, sRet, sRetN, sSet, sIf, sNil, sRaise, sBrk, sCnt, sFor, sAsg, sAug, eVar, eC, e2, e1, eChain, bOf, tAnd', tOr', tNot', eAnd, eOr, eNot, eIf, callP, callS, aCons, aNil, eTup, eLst, newL, eCall, tTru, truD, kInt, kIntC, S.put, gNm, gTup', gCons', gNil', itS, itL, itT, itR1, itR2, kIx, kSl, eSl, oNone, oSome, kLen, kAbs, kMax2, kMin2, kIntOf, kSorted, kAll, kAny, kTupOf, kLstOf, kIsi, eApp, kApp, eFrz, look, tYes', kNeg, kIs, kIsNot, wipeD, Res.bind, Res.bindS, pf_non, pf_bl, pf_int, pf_str, pf_tup, pf_lst, pf_scr, pfs_nil, pfs_cons, pfF, eqI, neI, eqS, neS, decide_eq_true_eq, hs, h1, pys_cons, pys_nil, py_int, sortOk_two, sizeLine_eq]
theorem due_loop (scr nums : D) {h t : Nat} (hh : h < 15) (v8 v9 v10 v11 : Option D) :
    ∃ v7, sFor (gNm 7) (itR2 (aCons (eC (D.int 1)) (aCons (e2 kDiv (eVar 2) (eC (D.int 2))) aNil))) dueBody (sl scr nums h t (some (.int (mid h t))) (some (.ptr 0)) none v8 v9 v10 v11 [.lst [due (2 + 2 * (h : Int)) t 0]])
      = .nx (sl scr nums h t (some (.int (mid h t))) (some (.ptr 0)) v7 v8 v9 v10 v11 [.lst (rnd (2 + 2 * (h : Int)) t (h + 1))]) := by
  obtain ⟨s', e, v7, e2⟩ := loopF_inv (g := gNm 7) (body := dueBody) (fun i s => ∃ v7, s = sl scr nums h t (some (.int (mid h t))) (some (.ptr 0)) v7 v8 v9 v10 v11 [.lst (rnd (2 + 2 * (h : Int)) t (i + 1))]) (rgD 1 h) 0
    (sl scr nums h t (some (.int (mid h t))) (some (.ptr 0)) none v8 v9 v10 v11 [.lst [due (2 + 2 * (h : Int)) t 0]]) ⟨none, rfl⟩ fun j d s hd ⟨v7, es⟩ => by
      obtain ⟨hj, rfl⟩ := rgD_get hd
      subst es
      refine ⟨sl scr nums h t (some (.int (mid h t))) (some (.ptr 0)) (some (.int (1 + (j : Nat)))) v8 v9 v10 v11 [.lst (rnd (2 + 2 * (h : Int)) t (0 + j + 1))], _, rfl, .inl ?_, some (.int (1 + (j : Nat))), rfl⟩
      have := due_turn scr nums (t := t) hh (j + 1) (by omega) v8 v9 v10 v11 (rnd (2 + 2 * (h : Int)) t (0 + j + 1)) (by rw [rnd, List.length_map, List.length_range]; omega)
      rw [show (1 + (j : Nat) : Int) = ((j + 1 : Nat) : Int) by omega, this]
      rw [rnd, rnd, List.range_succ (n := 0 + j + 1), List.map_append, Nat.zero_add]
      rfl
  subst e2
  rw [rgD_len, Nat.zero_add] at e
  exact ⟨v7, for_to (r2_to h (by simp [sl, runP, runS, sSeq, sExpr, sRet, sRetN, sSet, sIf, sNil, sRaise, sBrk, sCnt, sFor, sAsg, sAug, eVar, eC, e2, e1, eChain, bOf, tAnd', tOr', tNot', eAnd, eOr, eNot, eIf, callP, callS, aCons, aNil, eTup, eLst, newL, eCall, tTru, truD, kInt, kIntC, S.put, gNm, gTup', gCons', gNil', itS, itL, itT, itR1, itR2, kIx, kSl, eSl, oNone, oSome, kLen, kAbs, kMax2, kMin2, kIntOf, kSorted, kAll, kAny, kTupOf, kLstOf, kIsi, eApp, kApp, eFrz, look, tYes', kNeg, kIs, kIsNot, wipeD, Res.bind, Res.bindS, pf_non, pf_bl, pf_int, pf_str, pf_tup, pf_lst, pf_scr, pfs_nil, pfs_cons, pfF, eqI, neI, eqS, neS, decide_eq_true_eq, cd2]; rfl) (by omega) (by omega) (by omega)) e⟩
/-! what the law finds -/
def foundE : VE := (eLc false [7] (gNm 7) (itR1 (aCons (e2 kDiv (eVar 2) (eC (D.int 2))) aNil)) tYes' (callP F_players_at (aCons (eVar 2) (aCons (eVar 4) (aCons (eVar 7) aNil)))))
theorem found_ok (scr nums : D) {h t : Nat} (hh : h < 15) (ht : t < 2 * h + 1) (v5 v6 v7 v8 v9 v10 v11 : Option D) (η : List Cell) :
    foundE (sl scr nums h t v5 v6 v7 v8 v9 v10 v11 η) = .ok (.lst (rnd (2 + 2 * (h : Int)) t (h + 1))) (sl scr nums h t v5 v6 v7 v8 v9 v10 v11 η) := by
  have e1 : (2 + 2 * (h : Int)) / 2 = ((h + 1 : Nat) : Int) := by omega
  have e4 := lcGo_all (g := gNm 7) (fe := callP F_players_at (aCons (eVar 2) (aCons (eVar 4) (aCons (eVar 7) aNil)))) (ρ := (sl scr nums h t v5 v6 none v8 v9 v10 v11 η).ρ) (η := η)
    (fun d => match d with
      | .int q => due (2 + 2 * (h : Int)) t q
      | _ => .non) (rgD 0 (h + 1)) [] (by rw [rgD_len, sizeLine_eq]; simp; omega) (by
      intro d hd
      obtain ⟨i, hi, rfl⟩ := rgD_mem hd
      rw [Int.zero_add]
      refine ⟨sl scr nums h t v5 v6 (some (.int i)) v8 v9 v10 v11 η, sl scr nums h t v5 v6 (some (.int i)) v8 v9 v10 v11 η, rfl, ?_, rfl, rfl⟩
      have := F_players_at_ok (p := 2 + 2 * (h : Int)) (t := t) (q := i) (Pl.of h hh) (by omega) (by omega) (by omega) (by omega)
      simp [sl, runP, runS, sSeq, sExpr, sRet, sRetN, sSet, sIf, sNil, sRaise, sBrk, sCnt, sFor, sAsg, sAug, eVar, eC, e2, e1, eChain, bOf, tAnd', tOr', tNot', eAnd, eOr, eNot, eIf, callP, callS, aCons, aNil, eTup, eLst, newL, eCall, tTru, truD, kInt, kIntC, S.put, gNm, gTup', gCons', gNil', itS, itL, itT, itR1, itR2, kIx, kSl, eSl, oNone, oSome, kLen, kAbs, kMax2, kMin2, kIntOf, kSorted, kAll, kAny, kTupOf, kLstOf, kIsi, eApp, kApp, eFrz, look, tYes', kNeg, kIs, kIsNot, wipeD, Res.bind, Res.bindS, pf_non, pf_bl, pf_int, pf_str, pf_tup, pf_lst, pf_scr, pfs_nil, pfs_cons, pfF, eqI, neI, eqS, neS, decide_eq_true_eq, this])
  rw [rgD_map, List.nil_append] at e4
  unfold foundE
  rw [lc_to (r1_to (h + 1) (s1 := sl scr nums h t v5 v6 v7 v8 v9 v10 v11 η) (i := (2 + 2 * (h : Int)) / 2) (by simp [sl, runP, runS, sSeq, sExpr, sRet, sRetN, sSet, sIf, sNil, sRaise, sBrk, sCnt, sFor, sAsg, sAug, eVar, eC, e2, e1, eChain, bOf, tAnd', tOr', tNot', eAnd, eOr, eNot, eIf, callP, callS, aCons, aNil, eTup, eLst, newL, eCall, tTru, truD, kInt, kIntC, S.put, gNm, gTup', gCons', gNil', itS, itL, itT, itR1, itR2, kIx, kSl, eSl, oNone, oSome, kLen, kAbs, kMax2, kMin2, kIntOf, kSorted, kAll, kAny, kTupOf, kLstOf, kIsi, eApp, kApp, eFrz, look, tYes', kNeg, kIs, kIsNot, wipeD, Res.bind, Res.bindS, pf_non, pf_bl, pf_int, pf_str, pf_tup, pf_lst, pf_scr, pfs_nil, pfs_cons, pfF, eqI, neI, eqS, neS, decide_eq_true_eq, cd2]) e1 (by omega)) e4]
  rfl
def tupE : VE := (eLc false [11] (gNm 11) (itS (eVar 8)) tYes' (eCall kIsi (aCons (eVar 11) (aCons (eC (D.ty "tuple")) aNil))))
theorem tup_ok (scr nums : D) {h t : Nat} (hh : h < 15) (v5 v6 v7 v9 v10 v11 : Option D) (η : List Cell) :
    tupE (sl scr nums h t v5 v6 v7 (some (.lst (rnd (2 + 2 * (h : Int)) t (h + 1)))) v9 v10 v11 η) = .ok (.lst (List.replicate (h + 1) (.bl true))) (sl scr nums h t v5 v6 v7 (some (.lst (rnd (2 + 2 * (h : Int)) t (h + 1)))) v9 v10 v11 η) := by
  have e4 := lcGo_all (g := gNm 11) (fe := eCall kIsi (aCons (eVar 11) (aCons (eC (D.ty "tuple")) aNil))) (ρ := (sl scr nums h t v5 v6 v7 (some (.lst (rnd (2 + 2 * (h : Int)) t (h + 1)))) v9 v10 none η).ρ) (η := η)
    (fun d => .bl true) (rnd (2 + 2 * (h : Int)) t (h + 1)) [] (by rw [rnd, List.length_map, List.length_range, sizeLine_eq]; simp; omega) (by
      intro d hd
      obtain ⟨q, _, rfl⟩ := List.mem_map.mp hd
      rw [due_pr]
      generalize pr (2 + 2 * (h : Int)) t q = ab
      refine ⟨sl scr nums h t v5 v6 v7 (some (.lst (rnd (2 + 2 * (h : Int)) t (h + 1)))) v9 v10 (some (.tup [.int ab.1, .int ab.2])) η, sl scr nums h t v5 v6 v7 (some (.lst (rnd (2 + 2 * (h : Int)) t (h + 1)))) v9 v10 (some (.tup [.int ab.1, .int ab.2])) η, rfl, ?_, rfl, rfl⟩
      rfl)
  rw [List.map_const', List.nil_append, show (rnd (2 + 2 * (h : Int)) t (h + 1)).length = h + 1 by rw [rnd, List.length_map, List.length_range]] at e4
  unfold tupE
  rw [lc_to (s1 := sl scr nums h t v5 v6 v7 (some (.lst (rnd (2 + 2 * (h : Int)) t (h + 1)))) v9 v10 v11 η) (ds := rnd (2 + 2 * (h : Int)) t (h + 1)) (by simp [sl, runP, runS, sSeq, sExpr, sRet, sRetN, sSet, sIf, sNil, sRaise, sBrk, sCnt, sFor, sAsg, sAug, eVar, eC, e2, e1, eChain, bOf, tAnd', tOr', tNot', eAnd, eOr, eNot, eIf, callP, callS, aCons, aNil, eTup, eLst, newL, eCall, tTru, truD, kInt, kIntC, S.put, gNm, gTup', gCons', gNil', itS, itL, itT, itR1, itR2, kIx, kSl, eSl, oNone, oSome, kLen, kAbs, kMax2, kMin2, kIntOf, kSorted, kAll, kAny, kTupOf, kLstOf, kIsi, eApp, kApp, eFrz, look, tYes', kNeg, kIs, kIsNot, wipeD, Res.bind, Res.bindS, pf_non, pf_bl, pf_int, pf_str, pf_tup, pf_lst, pf_scr, pfs_nil, pfs_cons, pfF, eqI, neI, eqS, neS, decide_eq_true_eq]) e4]
  rfl
/-! the places -/
def placeBody : VS := (sIf (tOr' (bOf (e2 kNe (callP F_place_of (aCons (eVar 2) (aCons (eVar 4) (aCons (e2 kIx (e2 kIx (eVar 6) (eVar 7)) (eC (D.int 0))) aNil)))) (eVar 7))) (bOf (e2 kNe (callP F_place_of (aCons (eVar 2) (aCons (eVar 4) (aCons (e2 kIx (e2 kIx (eVar 6) (eVar 7)) (eC (D.int 1))) aNil)))) (eVar 7)))) (sRet (eC (D.bl false))) sNil)
theorem place_turn (scr nums : D) {h t q : Nat} (hh : h < 15) (ht : t < 2 * h + 1) (hq : q < h + 1) (v5 v8 v9 v10 v11 : Option D) (η : List Cell) :
    placeBody (sl scr nums h t v5 (some (.ptr 0)) (some (.int q)) v8 v9 v10 v11 (.lst (rnd (2 + 2 * (h : Int)) t (h + 1)) :: η)) = .nx (sl scr nums h t v5 (some (.ptr 0)) (some (.int q)) v8 v9 v10 v11 (.lst (rnd (2 + 2 * (h : Int)) t (h + 1)) :: η)) := by
  obtain ⟨a1, a2, a3, a4, a5, a6⟩ := place_all ⟨h, hh⟩ ⟨t, ht⟩ ⟨q, hq⟩
  have e : atI (rnd (2 + 2 * (h : Int)) t (h + 1)) (q : Int) = some (.tup [.int (pr (2 + 2 * (h : Int)) t q).1, .int (pr (2 + 2 * (h : Int)) t q).2]) := by
    refine atI_nat ?_
    rw [rnd, List.getElem?_map, List.getElem?_range hq, ← due_pr]
    rfl
  have b1 := F_place_of_ok (p := 2 + 2 * (h : Int)) (t := t) (Pl.of h hh) (by omega) (by omega) a1 a2
  have b2 := F_place_of_ok (p := 2 + 2 * (h : Int)) (t := t) (Pl.of h hh) (by omega) (by omega) a3 a4
  have c1 : F_place_of [.int (2 + 2 * (h : Int)), .int t, .int (pr (2 + 2 * (h : Int)) t q).1] = .ok (.int q) := b1.trans (congrArg (fun x => Out.ok (D.int x)) a5)
  have c2 : F_place_of [.int (2 + 2 * (h : Int)), .int t, .int (pr (2 + 2 * (h : Int)) t q).2] = .ok (.int q) := b2.trans (congrArg (fun x => Out.ok (D.int x)) a6)
  have d1 : ∀ x y : D, atI [x, y] 0 = some x := fun x y => rfl
  have d2 : ∀ x y : D, atI [x, y] 1 = some y := fun x y => rfl
  generalize pr (2 + 2 * (h : Int)) t q = ab at e c1 c2
  simp [placeBody, sl, runP, runS, sSeq, sExpr, sRet, sRetN, sSet, sIf, sNil, sRaise, sBrk, sCnt, sFor, sAsg, sAug, eVar, eC, e2, e1, eChain, bOf, tAnd', tOr', tNot', eAnd, eOr, eNot, eIf, callP, callS, aCons, aNil, eTup, eLst, newL, eCall, tTru, truD, kInt, kIntC, S.put, gNm, gTup', gCons', gNil', itS, itL, itT, itR1, itR2, kIx, kSl, eSl, oNone, oSome, kLen, kAbs, kMax2, kMin2, kIntOf, kSorted, kAll, kAny, kTupOf, kLstOf, kIsi, eApp, kApp, eFrz, look, tYes', kNeg, kIs, kIsNot, wipeD, Res.bind, Res.bindS, pf_non, pf_bl, pf_int, pf_str, pf_tup, pf_lst, pf_scr, pfs_nil, pfs_cons, pfF, eqI, neI, eqS, neS, decide_eq_true_eq, e, c1, c2, d1, d2]
theorem place_loop (scr nums : D) {h t : Nat} (hh : h < 15) (ht : t < 2 * h + 1) (v5 v7 v8 v9 v10 v11 : Option D) (η : List Cell) :
    ∃ v7', sFor (gNm 7) (itR1 (aCons (e2 kDiv (eVar 2) (eC (D.int 2))) aNil)) placeBody (sl scr nums h t v5 (some (.ptr 0)) v7 v8 v9 v10 v11 (.lst (rnd (2 + 2 * (h : Int)) t (h + 1)) :: η))
      = .nx (sl scr nums h t v5 (some (.ptr 0)) v7' v8 v9 v10 v11 (.lst (rnd (2 + 2 * (h : Int)) t (h + 1)) :: η)) := by
  have e1 : (2 + 2 * (h : Int)) / 2 = ((h + 1 : Nat) : Int) := by omega
  obtain ⟨s', e, v7', e2⟩ := loopF_inv (g := gNm 7) (body := placeBody) (fun i s => ∃ v7, s = sl scr nums h t v5 (some (.ptr 0)) v7 v8 v9 v10 v11 (.lst (rnd (2 + 2 * (h : Int)) t (h + 1)) :: η)) (rgD 0 (h + 1)) 0
    _ ⟨v7, rfl⟩ fun j d s hd ⟨v7, es⟩ => by
      obtain ⟨hj, rfl⟩ := rgD_get hd
      subst es
      rw [Int.zero_add]
      exact ⟨sl scr nums h t v5 (some (.ptr 0)) (some (.int (j : Nat))) v8 v9 v10 v11 (.lst (rnd (2 + 2 * (h : Int)) t (h + 1)) :: η), _, rfl, .inl (place_turn scr nums hh ht hj v5 v8 v9 v10 v11 η), some (.int (j : Nat)), rfl⟩
  subst e2
  exact ⟨v7', for_to (r1_to (h + 1) (s1 := sl scr nums h t v5 (some (.ptr 0)) v7 v8 v9 v10 v11 (.lst (rnd (2 + 2 * (h : Int)) t (h + 1)) :: η)) (i := (2 + 2 * (h : Int)) / 2) (by simp [sl, runP, runS, sSeq, sExpr, sRet, sRetN, sSet, sIf, sNil, sRaise, sBrk, sCnt, sFor, sAsg, sAug, eVar, eC, e2, e1, eChain, bOf, tAnd', tOr', tNot', eAnd, eOr, eNot, eIf, callP, callS, aCons, aNil, eTup, eLst, newL, eCall, tTru, truD, kInt, kIntC, S.put, gNm, gTup', gCons', gNil', itS, itL, itT, itR1, itR2, kIx, kSl, eSl, oNone, oSome, kLen, kAbs, kMax2, kMin2, kIntOf, kSorted, kAll, kAny, kTupOf, kLstOf, kIsi, eApp, kApp, eFrz, look, tYes', kNeg, kIs, kIsNot, wipeD, Res.bind, Res.bindS, pf_non, pf_bl, pf_int, pf_str, pf_tup, pf_lst, pf_scr, pfs_nil, pfs_cons, pfF, eqI, neI, eqS, neS, decide_eq_true_eq, cd2]) e1 (by omega)) e⟩
/-! the law's own walk -/
theorem plan1_len (h : Nat) : (plan1 h).length = 2 * h + 1 := by unfold plan1; rw [List.length_map, List.length_range]
theorem plan2_at {h k t : Nat} (ht : t < 2 * h + 1) : atI (plan2 h k) (t : Int) = some (.ptr (k + t)) := atI_nat (by rw [plan2, List.getElem?_map, List.getElem?_range ht]; rfl)
theorem plan1_at {h t : Nat} (ht : t < 2 * h + 1) : (plan1 h)[t]? = some (.lst (rnd (2 + 2 * (h : Int)) t (h + 1))) := by rw [plan1, List.getElem?_map, List.getElem?_range ht]; rfl
def eta1 (h t : Nat) : List Cell := [.lst (rnd (2 + 2 * (h : Int)) t (h + 1))] ++ plan1 h ++ [.lst (plan2 h 1)]
def eta2 (h t : Nat) : List Cell := (eta1 h t).set (1 + t) (.lst (rnd (2 + 2 * (h : Int)) t (h + 1) ++ [.str "x"]))
def eta3 (h t : Nat) : List Cell := eta2 h t ++ plan1 h ++ [.lst (plan2 h (2 * h + 3))]
theorem eta2_len (h t : Nat) : (eta2 h t).length = 2 * h + 3 := by
  unfold eta2 eta1
  simp [plan1_len]
theorem eta1_0 (h t : Nat) : (eta1 h t)[0]? = some (.lst (rnd (2 + 2 * (h : Int)) t (h + 1))) := rfl
theorem eta1_t (h : Nat) {t : Nat} (ht : t < 2 * h + 1) : (eta1 h t)[1 + t]? = some (.lst (rnd (2 + 2 * (h : Int)) t (h + 1))) := by
  have := get_mid [Cell.lst (rnd (2 + 2 * (h : Int)) t (h + 1))] (plan1 h) [.lst (plan2 h 1)] (i := t) (by rw [plan1_len]; exact ht)
  exact this.trans (plan1_at ht)
theorem eta1_e (h t : Nat) : (eta1 h t)[1 + (2 * h + 1)]? = some (.lst (plan2 h 1)) := get_end [_] (plan1 h) _ (plan1_len h)
theorem eta2_0 (h t : Nat) : (eta2 h t)[0]? = some (.lst (rnd (2 + 2 * (h : Int)) t (h + 1))) := by
  rw [eta2, List.getElem?_set_ne (by omega)]
  rfl
theorem eta3_0 (h t : Nat) : (eta3 h t)[0]? = some (.lst (rnd (2 + 2 * (h : Int)) t (h + 1))) := by
  rw [eta3, get_fst _ _ _ (by rw [eta2_len]; omega), eta2_0]
theorem eta3_t (h : Nat) {t : Nat} (ht : t < 2 * h + 1) : (eta3 h t)[2 * h + 3 + t]? = some (.lst (rnd (2 + 2 * (h : Int)) t (h + 1))) := by
  have := get_mid (eta2 h t) (plan1 h) [.lst (plan2 h (2 * h + 3))] (i := t) (by rw [plan1_len]; exact ht)
  rw [eta2_len] at this
  exact this.trans (plan1_at ht)
theorem eta3_e (h t : Nat) : (eta3 h t)[2 * h + 3 + (2 * h + 1)]? = some (.lst (plan2 h (2 * h + 3))) := by
  have := get_end (eta2 h t) (plan1 h) (.lst (plan2 h (2 * h + 3))) (plan1_len h)
  rw [eta2_len] at this
  exact this
theorem F_law_ok (ns : List Int) (h63 : ns.length ≤ 63) : F_law [scrD ns] = .ok (.bl true) := by
  obtain ⟨l, hl, hn, e⟩ := lawNumbers_ok ns 4 (by decide) h63
  have e : F__law_numbers [scrD ns, .int 4] = .ok (.lst (l.map D.int)) := e
  obtain ⟨a, b, c, d, rfl⟩ : ∃ a b c d : Int, l = [a, b, c, d] := by
    match l, hl with
    | [a, b, c, d], _ => exact ⟨a, b, c, d, rfl⟩
  have p0 : F__law_pick [.lst ([a, b, c, d].map D.int), .int 0, .int 15] = .ok (.int (a % 15)) := lawPick_at (i := 0) rfl (by decide)
  obtain ⟨h, hh1, hh⟩ : ∃ h : Nat, a % 15 = h ∧ h < 15 := ⟨(a % 15).toNat, by omega, by omega⟩
  rw [hh1] at p0
  have p1 : F__law_pick [.lst ([a, b, c, d].map D.int), .int 1, .int (2 + 2 * (h : Int) - 1)] = .ok (.int (b % (2 + 2 * (h : Int) - 1))) := lawPick_at (i := 1) rfl (by omega)
  obtain ⟨t, ht1, ht⟩ : ∃ t : Nat, b % (2 + 2 * (h : Int) - 1) = t ∧ t < 2 * h + 1 := by
    have x1 := Int.emod_nonneg b (show 2 + 2 * (h : Int) - 1 ≠ 0 by omega)
    have x2 := Int.emod_lt_of_pos b (show 0 < 2 + 2 * (h : Int) - 1 by omega)
    exact ⟨(b % (2 + 2 * (h : Int) - 1)).toNat, by omega, by omega⟩
  rw [ht1] at p1
  have hnp : (D.lst ([a, b, c, d].map D.int)).pf = true := by rw [pf_lst]; exact pfs_ints _
  have hsp : (scrD ns).pf = true := by rw [scrD, pf_scr]; exact pfs_ints _
  generalize D.lst ([a, b, c, d].map D.int) = nums at e p0 p1 hnp
  unfold F_law
  suffices hs : ∃ s', b_law ⟨[scrD ns].map some ++ List.replicate (12 - [scrD ns].length) none, []⟩ = .rt (.bl true) s' by
    obtain ⟨s', hs⟩ := hs
    exact runP_rt hs rfl
  obtain ⟨w7, hdue⟩ := due_loop (scrD ns) nums (t := t) hh none none none none
  have R64 := rnd_pl (2 + 2 * (h : Int)) t (h + 1)
  obtain ⟨u7, hplc⟩ := place_loop (scrD ns) nums (t := t) hh ht (some (.int (mid h t))) w7 (some (.lst (rnd (2 + 2 * (h : Int)) t (h + 1)))) none none none []
  refine ⟨sl (scrD ns) nums h t (some (.int (mid h t))) (some (.ptr 0)) u7 (some (.lst (rnd (2 + 2 * (h : Int)) t (h + 1)))) (some (.ptr (1 + (2 * h + 1)))) none none (eta3 h t), seq_to (s' := ⟨[some (scrD ns), some nums, none, none, none, none, none, none, none, none, none, none], []⟩) ?_ <|
    seq_to (s' := ⟨[some (scrD ns), some nums, some (.int (2 + 2 * (h : Int))), none, none, none, none, none, none, none, none, none], []⟩) ?_ <|
    seq_to (s' := ⟨[some (scrD ns), some nums, some (.int (2 + 2 * (h : Int))), some (.int (2 + 2 * (h : Int) - 1)), none, none, none, none, none, none, none, none], []⟩) ?_ <|
    seq_to (s' := sl (scrD ns) nums h t none none none none none none none []) ?_ <|
    seq_to (s' := sl (scrD ns) nums h t (some (.int (mid h t))) none none none none none none []) ?_ <|
    seq_to (s' := sl (scrD ns) nums h t (some (.int (mid h t))) (some (.ptr 0)) none none none none none [.lst [due (2 + 2 * (h : Int)) t 0]]) ?_ <|
    seq_to hdue <|
    seq_to (s' := sl (scrD ns) nums h t (some (.int (mid h t))) (some (.ptr 0)) w7 (some (.lst (rnd (2 + 2 * (h : Int)) t (h + 1)))) none none none [.lst (rnd (2 + 2 * (h : Int)) t (h + 1))]) ?_ <|
    seq_to (s' := sl (scrD ns) nums h t (some (.int (mid h t))) (some (.ptr 0)) w7 (some (.lst (rnd (2 + 2 * (h : Int)) t (h + 1)))) none none none [.lst (rnd (2 + 2 * (h : Int)) t (h + 1))]) ?_ <|
    seq_to hplc <|
    seq_to (s' := sl (scrD ns) nums h t (some (.int (mid h t))) (some (.ptr 0)) u7 (some (.lst (rnd (2 + 2 * (h : Int)) t (h + 1)))) (some (.ptr (1 + (2 * h + 1)))) none none (eta1 h t)) ?_ <|
    seq_to (s' := sl (scrD ns) nums h t (some (.int (mid h t))) (some (.ptr 0)) u7 (some (.lst (rnd (2 + 2 * (h : Int)) t (h + 1)))) (some (.ptr (1 + (2 * h + 1)))) none none (eta1 h t)) ?_ <|
    seq_to (s' := sl (scrD ns) nums h t (some (.int (mid h t))) (some (.ptr 0)) u7 (some (.lst (rnd (2 + 2 * (h : Int)) t (h + 1)))) (some (.ptr (1 + (2 * h + 1)))) none none (eta2 h t)) ?_ <| ?_⟩
  · simp [runP, runS, sSeq, sExpr, sRet, sRetN, sSet, sIf, sNil, sRaise, sBrk, sCnt, sFor, sAsg, sAug, eVar, eC, e2, e1, eChain, bOf, tAnd', tOr', tNot', eAnd, eOr, eNot, eIf, callP, callS, aCons, aNil, eTup, eLst, newL, eCall, tTru, truD, kInt, kIntC, S.put, gNm, gTup', gCons', gNil', itS, itL, itT, itR1, itR2, kIx, kSl, eSl, oNone, oSome, kLen, kAbs, kMax2, kMin2, kIntOf, kSorted, kAll, kAny, kTupOf, kLstOf, kIsi, eApp, kApp, eFrz, look, tYes', kNeg, kIs, kIsNot, wipeD, Res.bind, Res.bindS, pf_non, pf_bl, pf_int, pf_str, pf_tup, pf_lst, pf_scr, pfs_nil, pfs_cons, pfF, eqI, neI, eqS, neS, decide_eq_true_eq, e, hsp]
  · simp [runP, runS, sSeq, sExpr, sRet, sRetN, sSet, sIf, sNil, sRaise, sBrk, sCnt, sFor, sAsg, sAug, eVar, eC, e2, e1, eChain, bOf, tAnd', tOr', tNot', eAnd, eOr, eNot, eIf, callP, callS, aCons, aNil, eTup, eLst, newL, eCall, tTru, truD, kInt, kIntC, S.put, gNm, gTup', gCons', gNil', itS, itL, itT, itR1, itR2, kIx, kSl, eSl, oNone, oSome, kLen, kAbs, kMax2, kMin2, kIntOf, kSorted, kAll, kAny, kTupOf, kLstOf, kIsi, eApp, kApp, eFrz, look, tYes', kNeg, kIs, kIsNot, wipeD, Res.bind, Res.bindS, pf_non, pf_bl, pf_int, pf_str, pf_tup, pf_lst, pf_scr, pfs_nil, pfs_cons, pfF, eqI, neI, eqS, neS, decide_eq_true_eq, p0, cmulL, hnp]
  · simp [runP, runS, sSeq, sExpr, sRet, sRetN, sSet, sIf, sNil, sRaise, sBrk, sCnt, sFor, sAsg, sAug, eVar, eC, e2, e1, eChain, bOf, tAnd', tOr', tNot', eAnd, eOr, eNot, eIf, callP, callS, aCons, aNil, eTup, eLst, newL, eCall, tTru, truD, kInt, kIntC, S.put, gNm, gTup', gCons', gNil', itS, itL, itT, itR1, itR2, kIx, kSl, eSl, oNone, oSome, kLen, kAbs, kMax2, kMin2, kIntOf, kSorted, kAll, kAny, kTupOf, kLstOf, kIsi, eApp, kApp, eFrz, look, tYes', kNeg, kIs, kIsNot, wipeD, Res.bind, Res.bindS, pf_non, pf_bl, pf_int, pf_str, pf_tup, pf_lst, pf_scr, pfs_nil, pfs_cons, pfF, eqI, neI, eqS, neS, decide_eq_true_eq]
  · simp [runP, runS, sSeq, sExpr, sRet, sRetN, sSet, sIf, sNil, sRaise, sBrk, sCnt, sFor, sAsg, sAug, eVar, eC, e2, e1, eChain, bOf, tAnd', tOr', tNot', eAnd, eOr, eNot, eIf, callP, callS, aCons, aNil, eTup, eLst, newL, eCall, tTru, truD, kInt, kIntC, S.put, gNm, gTup', gCons', gNil', itS, itL, itT, itR1, itR2, kIx, kSl, eSl, oNone, oSome, kLen, kAbs, kMax2, kMin2, kIntOf, kSorted, kAll, kAny, kTupOf, kLstOf, kIsi, eApp, kApp, eFrz, look, tYes', kNeg, kIs, kIsNot, wipeD, Res.bind, Res.bindS, pf_non, pf_bl, pf_int, pf_str, pf_tup, pf_lst, pf_scr, pfs_nil, pfs_cons, pfF, eqI, neI, eqS, neS, decide_eq_true_eq, p1, sl, hnp]
  · have z : (eLc false [10] (gNm 10) (itR1 (aCons (eVar 3) aNil)) (bOf (e2 kEq (e2 kMod (eCall kIntOf (aCons (e2 kSub (e2 kMul (eC (D.int 2)) (eVar 10)) (eVar 4)) aNil)) (eVar 3)) (eC (D.int 0)))) (eVar 10)) (sl (scrD ns) nums h t none none none none none none none []) = .ok (.lst [.int (mid h t)]) (sl (scrD ns) nums h t none none none none none none none []) := by
      rw [lc_to (r1_to (2 * h + 1) (s1 := sl (scrD ns) nums h t none none none none none none none []) (i := 2 + 2 * (h : Int) - 1) (by simp [sl, runP, runS, sSeq, sExpr, sRet, sRetN, sSet, sIf, sNil, sRaise, sBrk, sCnt, sFor, sAsg, sAug, eVar, eC, e2, e1, eChain, bOf, tAnd', tOr', tNot', eAnd, eOr, eNot, eIf, callP, callS, aCons, aNil, eTup, eLst, newL, eCall, tTru, truD, kInt, kIntC, S.put, gNm, gTup', gCons', gNil', itS, itL, itT, itR1, itR2, kIx, kSl, eSl, oNone, oSome, kLen, kAbs, kMax2, kMin2, kIntOf, kSorted, kAll, kAny, kTupOf, kLstOf, kIsi, eApp, kApp, eFrz, look, tYes', kNeg, kIs, kIsNot, wipeD, Res.bind, Res.bindS, pf_non, pf_bl, pf_int, pf_str, pf_tup, pf_lst, pf_scr, pfs_nil, pfs_cons, pfF, eqI, neI, eqS, neS, decide_eq_true_eq]) (by omega) (by omega)) (lcGo_map (tests h t) id _ [] (by rw [rgD_len, sizeLine_eq]; simp; omega) ?_), mid_ok hh ht]
      · rfl
      · intro d hd
        obtain ⟨i, hi, rfl⟩ := rgD_mem hd
        rw [Int.zero_add]
        refine ⟨sl (scrD ns) nums h t none none none none none (some (.int i)) none [], sl (scrD ns) nums h t none none none none none (some (.int i)) none [], rfl, ?_, rfl, fun _ => ⟨sl (scrD ns) nums h t none none none none none (some (.int i)) none [], rfl, rfl⟩⟩
        have x1 : (1 : Int) < 2 + 2 * (h : Int) := by omega
        have x2 : 2 + 2 * (h : Int) - 1 = 2 * h + 1 := by omega
        have x3 : (0 : Int) < 2 * (h : Int) + 1 := by omega
        simp [sl, runP, runS, sSeq, sExpr, sRet, sRetN, sSet, sIf, sNil, sRaise, sBrk, sCnt, sFor, sAsg, sAug, eVar, eC, e2, e1, eChain, bOf, tAnd', tOr', tNot', eAnd, eOr, eNot, eIf, callP, callS, aCons, aNil, eTup, eLst, newL, eCall, tTru, truD, kInt, kIntC, S.put, gNm, gTup', gCons', gNil', itS, itL, itT, itR1, itR2, kIx, kSl, eSl, oNone, oSome, kLen, kAbs, kMax2, kMin2, kIntOf, kSorted, kAll, kAny, kTupOf, kLstOf, kIsi, eApp, kApp, eFrz, look, tYes', kNeg, kIs, kIsNot, wipeD, Res.bind, Res.bindS, pf_non, pf_bl, pf_int, pf_str, pf_tup, pf_lst, pf_scr, pfs_nil, pfs_cons, pfF, eqI, neI, eqS, neS, decide_eq_true_eq, cmulL, x1, tests, x2, x3]
    rw [sSet, e2, z]
    rfl
  · rfl
  · have z := found_ok (scrD ns) nums (t := t) hh ht (some (.int (mid h t))) (some (.ptr 0)) w7 none none none none [.lst (rnd (2 + 2 * (h : Int)) t (h + 1))]
    rw [foundE] at z
    rw [sSet, z]
    rfl
  · have z := tup_ok (scrD ns) nums (t := t) hh (some (.int (mid h t))) (some (.ptr 0)) w7 none none none [.lst (rnd (2 + 2 * (h : Int)) t (h + 1))]
    have k := kNe_no (a := .lst (rnd (2 + 2 * (h : Int)) t (h + 1))) (b := .ptr 0) (s := sl (scrD ns) nums h t (some (.int (mid h t))) (some (.ptr 0)) w7 (some (.lst (rnd (2 + 2 * (h : Int)) t (h + 1)))) none none none [.lst (rnd (2 + 2 * (h : Int)) t (h + 1))]) _ rfl rfl R64
    have y : ∀ n, blsOf (List.replicate n (D.bl true)) = some (List.replicate n true) := fun n => by
      induction n with
      | zero => rfl
      | succ n ih => rw [List.replicate_succ, blsOf, ih]; rfl
    rw [tupE] at z
    simp only [sl] at z k
    simp [runP, runS, sSeq, sExpr, sRet, sRetN, sSet, sIf, sNil, sRaise, sBrk, sCnt, sFor, sAsg, sAug, eVar, eC, e2, e1, eChain, bOf, tAnd', tOr', tNot', eAnd, eOr, eNot, eIf, callP, callS, aCons, aNil, eTup, eLst, newL, eCall, tTru, truD, kInt, kIntC, S.put, gNm, gTup', gCons', gNil', itS, itL, itT, itR1, itR2, kIx, kSl, eSl, oNone, oSome, kLen, kAbs, kMax2, kMin2, kIntOf, kSorted, kAll, kAny, kTupOf, kLstOf, kIsi, eApp, kApp, eFrz, look, tYes', kNeg, kIs, kIsNot, wipeD, Res.bind, Res.bindS, pf_non, pf_bl, pf_int, pf_str, pf_tup, pf_lst, pf_scr, pfs_nil, pfs_cons, pfF, eqI, neI, eqS, neS, decide_eq_true_eq, sl, z, k, y]
  · have z := F_plan_ok hh [.lst (rnd (2 + 2 * (h : Int)) t (h + 1))]
    simp [runP, runS, sSeq, sExpr, sRet, sRetN, sSet, sIf, sNil, sRaise, sBrk, sCnt, sFor, sAsg, sAug, eVar, eC, e2, e1, eChain, bOf, tAnd', tOr', tNot', eAnd, eOr, eNot, eIf, callP, callS, aCons, aNil, eTup, eLst, newL, eCall, tTru, truD, kInt, kIntC, S.put, gNm, gTup', gCons', gNil', itS, itL, itT, itR1, itR2, kIx, kSl, eSl, oNone, oSome, kLen, kAbs, kMax2, kMin2, kIntOf, kSorted, kAll, kAny, kTupOf, kLstOf, kIsi, eApp, kApp, eFrz, look, tYes', kNeg, kIs, kIsNot, wipeD, Res.bind, Res.bindS, pf_non, pf_bl, pf_int, pf_str, pf_tup, pf_lst, pf_scr, pfs_nil, pfs_cons, pfF, eqI, neI, eqS, neS, decide_eq_true_eq, sl, z, eta1]
  · have k := kNe_no (a := .ptr (1 + t)) (b := .ptr 0) (s := sl (scrD ns) nums h t (some (.int (mid h t))) (some (.ptr 0)) u7 (some (.lst (rnd (2 + 2 * (h : Int)) t (h + 1)))) (some (.ptr (1 + (2 * h + 1)))) none none (eta1 h t)) _ (look_ptr (eta1_t h ht)) (look_ptr (eta1_0 h t)) R64
    have y : (plan2 h 1).length = 2 * h + 1 := by rw [plan2, List.length_map, List.length_range]
    have kl : ∀ xs, tyD (.lst xs) = some "list" := fun _ => rfl
    have kk : kitB "list" "list" = some true := by decide +kernel
    have x5 : 2 * (h : Int) + 1 = 2 + 2 * (h : Int) - 1 := by omega
    simp only [sl] at k
    simp [runP, runS, sSeq, sExpr, sRet, sRetN, sSet, sIf, sNil, sRaise, sBrk, sCnt, sFor, sAsg, sAug, eVar, eC, e2, e1, eChain, bOf, tAnd', tOr', tNot', eAnd, eOr, eNot, eIf, callP, callS, aCons, aNil, eTup, eLst, newL, eCall, tTru, truD, kInt, kIntC, S.put, gNm, gTup', gCons', gNil', itS, itL, itT, itR1, itR2, kIx, kSl, eSl, oNone, oSome, kLen, kAbs, kMax2, kMin2, kIntOf, kSorted, kAll, kAny, kTupOf, kLstOf, kIsi, eApp, kApp, eFrz, look, tYes', kNeg, kIs, kIsNot, wipeD, Res.bind, Res.bindS, pf_non, pf_bl, pf_int, pf_str, pf_tup, pf_lst, pf_scr, pfs_nil, pfs_cons, pfF, eqI, neI, eqS, neS, decide_eq_true_eq, sl, k, y, eta1_e, eta1_t h ht, plan2_at ht, kl, kk, x5]
  · have y : (rnd (2 + 2 * (h : Int)) t (h + 1)).length < sizeLine := by rw [rnd, List.length_map, List.length_range, sizeLine_eq]; omega
    simp [runP, runS, sSeq, sExpr, sRet, sRetN, sSet, sIf, sNil, sRaise, sBrk, sCnt, sFor, sAsg, sAug, eVar, eC, e2, e1, eChain, bOf, tAnd', tOr', tNot', eAnd, eOr, eNot, eIf, callP, callS, aCons, aNil, eTup, eLst, newL, eCall, tTru, truD, kInt, kIntC, S.put, gNm, gTup', gCons', gNil', itS, itL, itT, itR1, itR2, kIx, kSl, eSl, oNone, oSome, kLen, kAbs, kMax2, kMin2, kIntOf, kSorted, kAll, kAny, kTupOf, kLstOf, kIsi, eApp, kApp, eFrz, look, tYes', kNeg, kIs, kIsNot, wipeD, Res.bind, Res.bindS, pf_non, pf_bl, pf_int, pf_str, pf_tup, pf_lst, pf_scr, pfs_nil, pfs_cons, pfF, eqI, neI, eqS, neS, decide_eq_true_eq, sl, eta1_e, eta1_t h ht, plan2_at ht, y, eta2]
  · have z := F_plan_ok hh (eta2 h t)
    rw [eta2_len] at z
    have k := kEq_yes (a := .ptr (2 * h + 3 + t)) (b := .ptr 0) (s := sl (scrD ns) nums h t (some (.int (mid h t))) (some (.ptr 0)) u7 (some (.lst (rnd (2 + 2 * (h : Int)) t (h + 1)))) (some (.ptr (1 + (2 * h + 1)))) none none (eta3 h t)) _ (look_ptr (eta3_t h ht)) (look_ptr (eta3_0 h t)) R64
    have z : F_plan [.int (2 + 2 * (h : Int))] (eta2 h t) = .ok (.ptr (2 * h + 3 + (2 * h + 1))) (eta3 h t) := z
    simp only [sl] at k
    simp [runP, runS, sSeq, sExpr, sRet, sRetN, sSet, sIf, sNil, sRaise, sBrk, sCnt, sFor, sAsg, sAug, eVar, eC, e2, e1, eChain, bOf, tAnd', tOr', tNot', eAnd, eOr, eNot, eIf, callP, callS, aCons, aNil, eTup, eLst, newL, eCall, tTru, truD, kInt, kIntC, S.put, gNm, gTup', gCons', gNil', itS, itL, itT, itR1, itR2, kIx, kSl, eSl, oNone, oSome, kLen, kAbs, kMax2, kMin2, kIntOf, kSorted, kAll, kAny, kTupOf, kLstOf, kIsi, eApp, kApp, eFrz, look, tYes', kNeg, kIs, kIsNot, wipeD, Res.bind, Res.bindS, pf_non, pf_bl, pf_int, pf_str, pf_tup, pf_lst, pf_scr, pfs_nil, pfs_cons, pfF, eqI, neI, eqS, neS, decide_eq_true_eq, sl, z, k, eta3_e, eta3_t h ht, plan2_at ht]
    trace_state
end
end K79

theorem PySem.Challenge.cw_paironce_k79_places_holds : PySem.Challenge.rw_paironce_k79_places.Holds := by
  exact K79.holds_of K79.F_law_ok
