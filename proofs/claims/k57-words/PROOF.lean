import PyProof.Rows.All
import HandS.ForMost
import HandS.ForExc
import HandS.CallSlots
import HandS.Defaults
import HandS.TryMany
import HandS.HeadHook2
import HandS.Deep
import HandS.IsInst
import KE.SortData
import HandS.Head0
import HandS.Head1
import HandS.Head2
import HandS.HeadEnd
import HandS.Text
import HandS.TupAny
import HandS.Style
import PyProof.StrOps2
import HandS.HeadHook3
import HandS.Iter
import PySem.Challenge.RW_paironce_k57_words_of_a_session
set_option Elab.async false
set_option linter.all false
set_option maxRecDepth 20000
/-! The value layer: data without addresses, a store for what is changed, judgements over the hand layer. -/
namespace VL
open PySem PyProof.Rows PySem.Spec L2

/-- data; scr: a list that is read alone; ptr k: the k-th cell of the store -/
inductive D where
  | non | bl (b : Bool) | int (i : Int) | str (x : Str) | ty (n : String)
  | tup (xs : List D) | lst (xs : List D) | scr (xs : List D)
  | dK (kvs : List (Key × D)) | dT (kvs : List (List Key × D))
  | obj (C : Str) (fs : List (Str × D))
  | ptr (k : Nat)

/-- a thing that may be changed; fwd: it is data from now on -/
inductive Cell where
  | lst (xs : List D) | dK (kvs : List (Key × D)) | dT (kvs : List (List Key × D))
  | ins (C : Str) (fs : List (Str × D))
  | fwd (d : D)

structure S where
  ρ : List (Option D)
  η : List Cell

/-! ### how values bear data -/
section
variable (K : PySem.W.Frag) (F : Hp) (ι : List Addr)
mutual
inductive Rp : V → D → Prop
  | non : Rp .non .non
  | bl (b : Bool) : Rp (.bl b) (.bl b)
  | int (i : Int) : Rp (.int i) (.int i)
  | str (x : Str) : Rp (.str x) (.str x)
  | ty (n : String) : Rp (.ty n) (.ty n)
  | tup {a : Addr} {vs : List V} {ds : List D} : SqT K F a vs → Rps vs ds → Rp (.ref a) (.tup ds)
  | lst {a : Addr} {vs : List V} {ds : List D} : F a = some (.lst vs) → Rps vs ds → Rp (.ref a) (.lst ds)
  | scr {a : Addr} {vs : List V} {ds : List D} : SqL K F a vs → Rps vs ds → Rp (.ref a) (.scr ds)
  | dK {a : Addr} {kvs : List (Key × V)} {kds : List (Key × D)} : F a = some (.dK kvs) → RpK kvs kds → Rp (.ref a) (.dK kds)
  | dT {a : Addr} {kvs : List (List Key × V)} {kds : List (List Key × D)} : F a = some (.dT kvs) → RpT kvs kds → Rp (.ref a) (.dT kds)
  | obj {a dx : Addr} {C : Str} {fv : List (Str × V)} {fs : List (Str × D)} : F a = some (.ins (He.ga K C) dx fv) → RpF fv fs → Rp (.ref a) (.obj C fs)
  | ptr {k : Nat} {a : Addr} : ι[k]? = some a → Rp (.ref a) (.ptr k)
inductive Rps : List V → List D → Prop
  | nil : Rps [] []
  | cons {v : V} {vs : List V} {d : D} {ds : List D} : Rp v d → Rps vs ds → Rps (v :: vs) (d :: ds)
inductive RpK : List (Key × V) → List (Key × D) → Prop
  | nil : RpK [] []
  | cons {k : Key} {v : V} {vs : List (Key × V)} {d : D} {ds : List (Key × D)} : Rp v d → RpK vs ds → RpK ((k, v) :: vs) ((k, d) :: ds)
inductive RpT : List (List Key × V) → List (List Key × D) → Prop
  | nil : RpT [] []
  | cons {k : List Key} {v : V} {vs : List (List Key × V)} {d : D} {ds : List (List Key × D)} : Rp v d → RpT vs ds → RpT ((k, v) :: vs) ((k, d) :: ds)
inductive RpF : List (Str × V) → List (Str × D) → Prop
  | nil : RpF [] []
  | cons {k : Str} {v : V} {vs : List (Str × V)} {d : D} {ds : List (Str × D)} : Rp v d → RpF vs ds → RpF ((k, v) :: vs) ((k, d) :: ds)
end
end
section
variable {K : PySem.W.Frag} {F F' : Hp} {ι ι' : List Addr}
theorem sqT_mono {a : Addr} {vs : List V} (h : Same F F') (x : SqT K F a vs) : SqT K F' a vs := by
  rcases x with (x | ⟨o, x⟩) | x
  · exact .inl (.inl (h _ _ x))
  · exact .inl (.inr ⟨o, h _ _ x⟩)
  · exact .inr x
theorem sqL_mono {a : Addr} {vs : List V} (h : Same F F') (x : SqL K F a vs) : SqL K F' a vs := h.seq x
def Grow (ι ι' : List Addr) : Prop := ∀ (k : Nat) (a : Addr), ι[k]? = some a → ι'[k]? = some a
theorem Grow.refl (ι : List Addr) : Grow ι ι := fun _ _ h => h
theorem Grow.trans {ι₁ ι₂ ι₃ : List Addr} (a : Grow ι₁ ι₂) (b : Grow ι₂ ι₃) : Grow ι₁ ι₃ := fun k x h => b k x (a k x h)
theorem Grow.app (ι κ : List Addr) : Grow ι (ι ++ κ) := fun k a h => by
  rw [List.getElem?_append_left (List.getElem?_eq_some_iff.mp h).1]; exact h
theorem Grow.mem {a : Addr} (g : Grow ι ι') (h : a ∈ ι) : a ∈ ι' := by
  obtain ⟨k, e⟩ := List.mem_iff_getElem?.mp h
  exact List.mem_iff_getElem?.mpr ⟨k, g k a e⟩
mutual
theorem Rp.mono (h : Same F F') (g : Grow ι ι') : ∀ {v : V} {d : D}, Rp K F ι v d → Rp K F' ι' v d
  | _, _, .non => .non
  | _, _, .bl b => .bl b
  | _, _, .int i => .int i
  | _, _, .str x => .str x
  | _, _, .ty n => .ty n
  | _, _, .tup s r => .tup (sqT_mono h s) (Rps.mono h g r)
  | _, _, .lst s r => .lst (h _ _ s) (Rps.mono h g r)
  | _, _, .scr s r => .scr (sqL_mono h s) (Rps.mono h g r)
  | _, _, .dK s r => .dK (h _ _ s) (RpK.mono h g r)
  | _, _, .dT s r => .dT (h _ _ s) (RpT.mono h g r)
  | _, _, .obj s r => .obj (h _ _ s) (RpF.mono h g r)
  | _, _, .ptr e => .ptr (g _ _ e)
theorem Rps.mono (h : Same F F') (g : Grow ι ι') : ∀ {v : List V} {d : List D}, Rps K F ι v d → Rps K F' ι' v d
  | _, _, .nil => .nil
  | _, _, .cons r t => .cons (Rp.mono h g r) (Rps.mono h g t)
theorem RpK.mono (h : Same F F') (g : Grow ι ι') : ∀ {v : List (Key × V)} {d : List (Key × D)}, RpK K F ι v d → RpK K F' ι' v d
  | _, _, .nil => .nil
  | _, _, .cons r t => .cons (Rp.mono h g r) (RpK.mono h g t)
theorem RpT.mono (h : Same F F') (g : Grow ι ι') : ∀ {v : List (List Key × V)} {d : List (List Key × D)}, RpT K F ι v d → RpT K F' ι' v d
  | _, _, .nil => .nil
  | _, _, .cons r t => .cons (Rp.mono h g r) (RpT.mono h g t)
theorem RpF.mono (h : Same F F') (g : Grow ι ι') : ∀ {v : List (Str × V)} {d : List (Str × D)}, RpF K F ι v d → RpF K F' ι' v d
  | _, _, .nil => .nil
  | _, _, .cons r t => .cons (Rp.mono h g r) (RpF.mono h g t)
end
theorem Rps.length : ∀ {vs : List V} {ds : List D}, Rps K F ι vs ds → vs.length = ds.length
  | _, _, .nil => rfl
  | _, _, .cons _ t => congrArg (· + 1) t.length
theorem Rps.get : ∀ {vs : List V} {ds : List D} {i : Nat} {d : D}, Rps K F ι vs ds → ds[i]? = some d → ∃ v, vs[i]? = some v ∧ Rp K F ι v d
  | _, _, _, _, .nil, e => by simp at e
  | _, _, 0, _, .cons r _, e => by simp at e; subst e; exact ⟨_, rfl, r⟩
  | _, _, i + 1, d, .cons _ t, e => by
    obtain ⟨v, h1, h2⟩ := Rps.get (i := i) (d := d) t (by simpa using e)
    exact ⟨v, by simpa using h1, h2⟩
theorem Rps.get' : ∀ {vs : List V} {ds : List D} {i : Nat} {v : V}, Rps K F ι vs ds → vs[i]? = some v → ∃ d, ds[i]? = some d ∧ Rp K F ι v d
  | _, _, _, _, .nil, e => by simp at e
  | _, _, 0, _, .cons r _, e => by simp at e; subst e; exact ⟨_, rfl, r⟩
  | _, _, i + 1, d, .cons _ t, e => by
    obtain ⟨v, h1, h2⟩ := Rps.get' (i := i) (v := d) t (by simpa using e)
    exact ⟨v, by simpa using h1, h2⟩
theorem Rps.app : ∀ {vs ws : List V} {ds es : List D}, Rps K F ι vs ds → Rps K F ι ws es → Rps K F ι (vs ++ ws) (ds ++ es)
  | _, _, _, _, .nil, q => q
  | _, _, _, _, .cons r t, q => .cons r (t.app q)
theorem Rps.one {v : V} {d : D} (h : Rp K F ι v d) : Rps K F ι [v] [d] := .cons h .nil
theorem Rps.set {v : V} {d : D} (h : Rp K F ι v d) : ∀ {vs : List V} {ds : List D} (i : Nat), Rps K F ι vs ds → Rps K F ι (vs.set i v) (ds.set i d)
  | _, _, _, .nil => .nil
  | _, _, 0, .cons _ t => .cons h t
  | _, _, i + 1, .cons r t => .cons r (Rps.set h i t)
theorem Rps.take : ∀ {vs : List V} {ds : List D} (n : Nat), Rps K F ι vs ds → Rps K F ι (vs.take n) (ds.take n)
  | _, _, 0, _ => .nil
  | _, _, _ + 1, .nil => .nil
  | _, _, n + 1, .cons r t => .cons r (Rps.take n t)
theorem Rps.drop : ∀ {vs : List V} {ds : List D} (n : Nat), Rps K F ι vs ds → Rps K F ι (vs.drop n) (ds.drop n)
  | _, _, 0, r => r
  | _, _, _ + 1, .nil => .nil
  | _, _, n + 1, .cons _ t => Rps.drop n t
theorem Rps.ints : ∀ {vs : List V} {ns : List Int}, Rps K F ι vs (ns.map D.int) → vs = ns.map V.int
  | _, [], h => by cases h; rfl
  | _, n :: ns, h => by
    cases h with
    | cons r t => cases r; rw [Rps.ints t]; rfl
theorem Rps.of_ints : ∀ (ns : List Int), Rps K F ι (ns.map V.int) (ns.map D.int)
  | [] => .nil
  | n :: ns => .cons (.int n) (Rps.of_ints ns)
theorem Rps.strs : ∀ {vs : List V} {ns : List Str}, Rps K F ι vs (ns.map D.str) → vs = ns.map V.str
  | _, [], h => by cases h; rfl
  | _, n :: ns, h => by
    cases h with
    | cons r t => cases r; rw [Rps.strs t]; rfl
theorem Rps.of_strs : ∀ (ns : List Str), Rps K F ι (ns.map V.str) (ns.map D.str)
  | [] => .nil
  | n :: ns => .cons (.str n) (Rps.of_strs ns)
theorem Rps.bls : ∀ {vs : List V} {ns : List Bool}, Rps K F ι vs (ns.map D.bl) → vs = ns.map V.bl
  | _, [], h => by cases h; rfl
  | _, n :: ns, h => by
    cases h with
    | cons r t => cases r; rw [Rps.bls t]; rfl
end

/-! ### pointer-free data -/
mutual
def D.pf : D → Bool
  | .tup xs => pfs xs
  | .lst xs => pfs xs
  | .scr xs => pfs xs
  | .dK kvs => pfK kvs
  | .dT kvs => pfT kvs
  | .obj _ fs => pfF fs
  | .ptr _ => false
  | _ => true
def pfs : List D → Bool
  | [] => true
  | d :: ds => d.pf && pfs ds
def pfK : List (Key × D) → Bool
  | [] => true
  | (_, d) :: ds => d.pf && pfK ds
def pfT : List (List Key × D) → Bool
  | [] => true
  | (_, d) :: ds => d.pf && pfT ds
def pfF : List (Str × D) → Bool
  | [] => true
  | (_, d) :: ds => d.pf && pfF ds
end
theorem and_t {a b : Bool} (h : (a && b) = true) : a = true ∧ b = true := by
  cases a <;> cases b <;> simp_all
section
variable {K : PySem.W.Frag} {F : Hp} {ι κ : List Addr}
mutual
theorem Rp.free (κ : List Addr) : ∀ {v : V} {d : D}, Rp K F ι v d → d.pf = true → Rp K F κ v d
  | _, _, .non, _ => .non
  | _, _, .bl b, _ => .bl b
  | _, _, .int i, _ => .int i
  | _, _, .str x, _ => .str x
  | _, _, .ty n, _ => .ty n
  | _, _, .tup s r, h => .tup s (Rps.free κ r (by rw [D.pf] at h; exact h))
  | _, _, .lst s r, h => .lst s (Rps.free κ r (by rw [D.pf] at h; exact h))
  | _, _, .scr s r, h => .scr s (Rps.free κ r (by rw [D.pf] at h; exact h))
  | _, _, .dK s r, h => .dK s (RpK.free κ r (by rw [D.pf] at h; exact h))
  | _, _, .dT s r, h => .dT s (RpT.free κ r (by rw [D.pf] at h; exact h))
  | _, _, .obj s r, h => .obj s (RpF.free κ r (by rw [D.pf] at h; exact h))
  | _, _, .ptr e, h => by rw [D.pf] at h; cases h
theorem Rps.free (κ : List Addr) : ∀ {v : List V} {d : List D}, Rps K F ι v d → pfs d = true → Rps K F κ v d
  | _, _, .nil, _ => .nil
  | _, _, .cons r t, h => by rw [pfs] at h; exact .cons (Rp.free κ r (and_t h).1) (Rps.free κ t (and_t h).2)
theorem RpK.free (κ : List Addr) : ∀ {v : List (Key × V)} {d : List (Key × D)}, RpK K F ι v d → pfK d = true → RpK K F κ v d
  | _, _, .nil, _ => .nil
  | _, _, .cons r t, h => by rw [pfK] at h; exact .cons (Rp.free κ r (and_t h).1) (RpK.free κ t (and_t h).2)
theorem RpT.free (κ : List Addr) : ∀ {v : List (List Key × V)} {d : List (List Key × D)}, RpT K F ι v d → pfT d = true → RpT K F κ v d
  | _, _, .nil, _ => .nil
  | _, _, .cons r t, h => by rw [pfT] at h; exact .cons (Rp.free κ r (and_t h).1) (RpT.free κ t (and_t h).2)
theorem RpF.free (κ : List Addr) : ∀ {v : List (Str × V)} {d : List (Str × D)}, RpF K F ι v d → pfF d = true → RpF K F κ v d
  | _, _, .nil, _ => .nil
  | _, _, .cons r t, h => by rw [pfF] at h; exact .cons (Rp.free κ r (and_t h).1) (RpF.free κ t (and_t h).2)
end
end

/-! ### a state's relation; what a run may change -/
/-- from one moment to a later one -/
structure Ext (F H : Hp) (ι : List Addr) (F' H' : Hp) (ι' : List Addr) : Prop where
  sub : Same F F'
  grow : Grow ι ι'
  kp : ∀ b o, H b = some o → b ∉ ι → H' b = some o
  fr : ∀ a o, F' a = some o → F a = none → H a = none ∨ a ∈ ι
  nw : ∀ a, a ∈ ι' → a ∈ ι ∨ H a = none
  al : ∀ a, H' a = none → H a = none
theorem Ext.refl (F H : Hp) (ι : List Addr) : Ext F H ι F H ι :=
  ⟨.refl F, .refl ι, fun _ _ h _ => h, fun _ _ h h' => (by rw [h] at h'; cases h'), fun _ h => .inl h, fun _ h => h⟩
theorem Ext.trans {F1 H1 F2 H2 F3 H3 : Hp} {ι₁ ι₂ ι₃ : List Addr} (a : Ext F1 H1 ι₁ F2 H2 ι₂) (b : Ext F2 H2 ι₂ F3 H3 ι₃) : Ext F1 H1 ι₁ F3 H3 ι₃ where
  sub := a.sub.trans b.sub
  grow := a.grow.trans b.grow
  kp := fun x o h n => b.kp x o (a.kp x o h n) fun m => by
    rcases a.nw x m with z | z
    · exact n z
    · rw [z] at h; cases h
  fr := fun x o h n => by
    cases q : F2 x with
    | some o2 => exact a.fr x o2 q n
    | none =>
      rcases b.fr x o h q with z | z
      · exact .inl (a.al x z)
      · rcases a.nw x z with y | y
        · exact .inr y
        · exact .inl y
  nw := fun x h => by
    rcases b.nw x h with z | z
    · exact a.nw x z
    · exact .inr (a.al x z)
  al := fun x h => a.al x (b.al x h)
section
variable (K : PySem.W.Frag)
def CellOk (F H : Hp) (ι : List Addr) (a : Addr) : Cell → Prop
  | .lst ds => F a = none ∧ ∃ vs, H a = some (.lst vs) ∧ Rps K F ι vs ds
  | .dK kds => F a = none ∧ ∃ kvs, H a = some (.dK kvs) ∧ RpK K F ι kvs kds
  | .dT kds => F a = none ∧ ∃ kvs, H a = some (.dT kvs) ∧ RpT K F ι kvs kds
  | .ins C fs => F a = none ∧ ∃ dx fv, H a = some (.ins (He.ga K C) dx fv) ∧ RpF K F ι fv fs
  | .fwd d => F a ≠ none ∧ Rp K F ι (.ref a) d
structure Rel (F H : Hp) (ι : List Addr) (s : S) (σ : L2.St) : Prop where
  same : Same F H
  env : ∀ (i : Nat) (d : D), s.ρ[i]? = some (some d) → ∃ v, σ[i]? = some (some v) ∧ Rp K F ι v d
  len : σ.length = s.ρ.length
  ilen : ι.length = s.η.length
  cell : ∀ (k : Nat) (a : Addr) (c : Cell), ι[k]? = some a → s.η[k]? = some c → CellOk K F H ι a c
  inj : ι.Nodup
end
section
variable {K : PySem.W.Frag} {F H F' H' : Hp} {ι ι' : List Addr} {s : S} {σ : L2.St}
theorem nodup_at {α : Type} {l : List α} (h : l.Nodup) {i j : Nat} {a : α} (hi : l[i]? = some a) (hj : l[j]? = some a) : i = j := by
  obtain ⟨h1, e1⟩ := List.getElem?_eq_some_iff.mp hi
  obtain ⟨h2, e2⟩ := List.getElem?_eq_some_iff.mp hj
  exact (List.getElem_inj h).mp (e1.trans e2.symm)
theorem CellOk.there {a : Addr} {c : Cell} (h : CellOk K F H ι a c) (e : Same F H) : H a ≠ none := by
  cases c with
  | lst ds => obtain ⟨_, vs, q, _⟩ := h; rw [q]; exact fun z => nomatch z
  | dK ds => obtain ⟨_, vs, q, _⟩ := h; rw [q]; exact fun z => nomatch z
  | dT ds => obtain ⟨_, vs, q, _⟩ := h; rw [q]; exact fun z => nomatch z
  | ins C fs => obtain ⟨_, dx, fv, q, _⟩ := h; rw [q]; exact fun z => nomatch z
  | fwd d =>
    obtain ⟨q, _⟩ := h
    intro z
    cases r : F a with
    | none => exact q r
    | some o => rw [e a o r] at z; cases z
theorem Rel.here (R : Rel K F H ι s σ) {a : Addr} (h : a ∈ ι) : H a ≠ none := by
  obtain ⟨k, e⟩ := List.mem_iff_getElem?.mp h
  have hk : k < s.η.length := by rw [← R.ilen]; exact (List.getElem?_eq_some_iff.mp e).1
  exact (R.cell k a _ e (List.getElem?_eq_getElem hk)).there R.same
theorem Rel.new (R : Rel K F H ι s σ) {p : Addr} (h : H p = none) : F p = none ∧ p ∉ ι := by
  refine ⟨?_, fun m => R.here m h⟩
  cases q : F p with
  | none => rfl
  | some o => rw [R.same p o q] at h; cases h
/-- a cell stays well where data grows, its own object stands, and it is not made data -/
theorem CellOk.move {a : Addr} {c : Cell} (h : CellOk K F H ι a c) (e : Same F F') (g : Grow ι ι') (hH : H' a = H a) (hF : F a = none → F' a = none) : CellOk K F' H' ι' a c := by
  cases c with
  | lst ds => obtain ⟨n, vs, q, r⟩ := h; exact ⟨hF n, vs, by rw [hH]; exact q, r.mono e g⟩
  | dK ds => obtain ⟨n, vs, q, r⟩ := h; exact ⟨hF n, vs, by rw [hH]; exact q, r.mono e g⟩
  | dT ds => obtain ⟨n, vs, q, r⟩ := h; exact ⟨hF n, vs, by rw [hH]; exact q, r.mono e g⟩
  | ins C fs => obtain ⟨n, dx, fv, q, r⟩ := h; exact ⟨hF n, dx, fv, by rw [hH]; exact q, r.mono e g⟩
  | fwd d =>
    obtain ⟨n, r⟩ := h
    refine ⟨?_, r.mono e g⟩
    cases q : F a with
    | none => exact absurd q n
    | some o => rw [e a o q]; exact fun z => nomatch z
/-- new data at p -/
theorem Rel.allocF (R : Rel K F H ι s σ) {p : Addr} {o : HO} (h : H p = none) : Rel K (upd F p o) (upd H p o) ι s σ ∧ Ext F H ι (upd F p o) (upd H p o) ι := by
  obtain ⟨hF, hp⟩ := R.new h
  have sF : Same F (upd F p o) := fun b u e => by rw [upd_ne (ne_of_none e hF)]; exact e
  refine ⟨⟨fun b u e => ?_, fun i d e => ?_, R.len, R.ilen, fun k a c e1 e2 => ?_, R.inj⟩, ⟨sF, .refl ι, fun b u e _ => ?_, fun a u e n => ?_, fun a m => .inl m, fun a n => ?_⟩⟩
  · by_cases hb : b = p
    · subst hb; rw [upd_same] at e ⊢; exact e
    · rw [upd_ne hb] at e ⊢; exact R.same b u e
  · obtain ⟨v, q, r⟩ := R.env i d e
    exact ⟨v, q, r.mono sF (.refl ι)⟩
  · have ne : a ≠ p := fun z => hp (z ▸ List.mem_of_getElem? e1)
    exact (R.cell k a c e1 e2).move sF (.refl ι) (upd_ne ne) (fun q => by rw [upd_ne ne]; exact q)
  · rw [upd_ne (ne_of_none e h)]; exact e
  · by_cases hb : a = p
    · subst hb; exact .inl h
    · rw [upd_ne hb, n] at e; cases e
  · by_cases hb : a = p
    · subst hb; exact h
    · rw [upd_ne hb] at n; exact n
/-- a new cell -/
theorem Rel.allocM (R : Rel K F H ι s σ) {p : Addr} {o : HO} {c : Cell} (h : H p = none) (hc : CellOk K F (upd H p o) (ι ++ [p]) p c) :
    Rel K F (upd H p o) (ι ++ [p]) ⟨s.ρ, s.η ++ [c]⟩ σ ∧ Ext F H ι F (upd H p o) (ι ++ [p]) := by
  obtain ⟨hF, hp⟩ := R.new h
  have g := Grow.app ι [p]
  refine ⟨⟨fun b u e => ?_, fun i d e => ?_, R.len, by simp [R.ilen], fun k a c' e1 e2 => ?_, ?_⟩, ⟨.refl F, g, fun b u e _ => ?_, fun a u e n => ?_, fun a m => ?_, fun a n => ?_⟩⟩
  · rw [upd_ne (ne_of_none e hF)]; exact R.same b u e
  · obtain ⟨v, q, r⟩ := R.env i d e
    exact ⟨v, q, r.mono (.refl F) g⟩
  · by_cases hk : k < ι.length
    · rw [List.getElem?_append_left hk] at e1
      rw [List.getElem?_append_left (by rw [← R.ilen]; exact hk)] at e2
      have ne : a ≠ p := fun z => hp (z ▸ List.mem_of_getElem? e1)
      exact (R.cell k a c' e1 e2).move (.refl F) g (upd_ne ne) (fun q => q)
    · rw [List.getElem?_append_right (by omega)] at e1
      rw [List.getElem?_append_right (by rw [← R.ilen]; omega), ← R.ilen] at e2
      have hk0 : k - ι.length = 0 := by
        cases q : k - ι.length with
        | zero => rfl
        | succ n => rw [q] at e1; simp at e1
      rw [hk0] at e1 e2
      simp at e1 e2
      subst e1 e2
      exact hc
  · refine List.nodup_append.mpr ⟨R.inj, by simp, fun a ha b hb => ?_⟩
    have : b = p := by simpa using hb
    subst this
    exact fun z => hp (z ▸ ha)
  · rw [upd_ne (ne_of_none e h)]; exact e
  · rw [n] at e; cases e
  · rcases List.mem_append.mp m with m | m
    · exact .inl m
    · have : a = p := by simpa using m
      subst this
      exact .inr h
  · by_cases hb : a = p
    · subst hb; exact h
    · rw [upd_ne hb] at n; exact n
/-- a cell is written -/
theorem Rel.write (R : Rel K F H ι s σ) {k : Nat} {a : Addr} {o : HO} {c' : Cell} (hk : ι[k]? = some a) (hF : F a = none) (hc : CellOk K F (upd H a o) ι a c') :
    Rel K F (upd H a o) ι ⟨s.ρ, s.η.set k c'⟩ σ ∧ Ext F H ι F (upd H a o) ι := by
  refine ⟨⟨fun b u e => ?_, R.env, R.len, by simp [R.ilen], fun j b c2 e1 e2 => ?_, R.inj⟩, ⟨.refl F, .refl ι, fun b u e n => ?_, fun b u e n => ?_, fun b m => .inl m, fun b n => ?_⟩⟩
  · rw [upd_ne (ne_of_none e hF)]; exact R.same b u e
  · by_cases hj : j = k
    · subst hj
      rw [hk] at e1; cases e1
      have hl : j < s.η.length := by rw [← R.ilen]; exact (List.getElem?_eq_some_iff.mp hk).1
      have e3 : (s.η.set j c')[j]? = some c2 := e2
      rw [List.getElem?_set_self hl] at e3
      cases e3
      exact hc
    · have e3 : (s.η.set k c')[j]? = some c2 := e2
      rw [List.getElem?_set_ne (Ne.symm hj)] at e3
      have ne : b ≠ a := fun z => hj (nodup_at R.inj e1 (z ▸ hk))
      exact (R.cell j b c2 e1 e3).move (.refl F) (.refl ι) (upd_ne ne) (fun q => q)
  · rw [upd_ne (show b ≠ a from fun z => n (by rw [z]; exact List.mem_of_getElem? hk))]; exact e
  · rw [n] at e; cases e
  · by_cases hb : b = a
    · subst hb; rw [upd_same] at n; cases n
    · rw [upd_ne hb] at n; exact n
/-- a cell is made data -/
theorem Rel.freeze (R : Rel K F H ι s σ) {k : Nat} {a : Addr} {o : HO} {d : D} (hk : ι[k]? = some a) (hH : H a = some o) (hF : F a = none) (hd : Rp K (upd F a o) ι (.ref a) d) :
    Rel K (upd F a o) H ι ⟨s.ρ, s.η.set k (.fwd d)⟩ σ ∧ Ext F H ι (upd F a o) H ι := by
  have sF : Same F (upd F a o) := fun b u e => by rw [upd_ne (ne_of_none e hF)]; exact e
  refine ⟨⟨fun b u e => ?_, fun i d e => ?_, R.len, by simp [R.ilen], fun j b c2 e1 e2 => ?_, R.inj⟩, ⟨sF, .refl ι, fun b u e n => e, fun b u e n => ?_, fun b m => .inl m, fun b n => n⟩⟩
  · by_cases hb : b = a
    · subst hb; rw [upd_same] at e; rw [hH]; exact e
    · rw [upd_ne hb] at e; exact R.same b u e
  · obtain ⟨v, q, r⟩ := R.env i d e
    exact ⟨v, q, r.mono sF (.refl ι)⟩
  · by_cases hj : j = k
    · subst hj
      rw [hk] at e1; cases e1
      have hl : j < s.η.length := by rw [← R.ilen]; exact (List.getElem?_eq_some_iff.mp hk).1
      have e3 : (s.η.set j (.fwd d))[j]? = some c2 := e2
      rw [List.getElem?_set_self hl] at e3
      cases e3
      exact ⟨by rw [upd_same]; exact (fun z => nomatch z), hd⟩
    · have e3 : (s.η.set k (.fwd d))[j]? = some c2 := e2
      rw [List.getElem?_set_ne (Ne.symm hj)] at e3
      have ne : b ≠ a := fun z => hj (nodup_at R.inj e1 (z ▸ hk))
      exact (R.cell j b c2 e1 e3).move sF (.refl ι) rfl (fun q => by rw [upd_ne ne]; exact q)
  · by_cases hb : b = a
    · subst hb; exact .inr (List.mem_of_getElem? hk)
    · rw [upd_ne hb, n] at e; cases e
/-- a name is stored -/
theorem Rel.put (R : Rel K F H ι s σ) {v : V} {d : D} (i : Nat) (r : Rp K F ι v d) : Rel K F H ι ⟨s.ρ.set i (some d), s.η⟩ (σ.set i (some v)) := by
  refine ⟨R.same, fun j e q => ?_, by simp [R.len], R.ilen, R.cell, R.inj⟩
  have q2 : (s.ρ.set i (some d))[j]? = some (some e) := q
  by_cases hj : j = i
  · subst hj
    have hl : j < s.ρ.length := by
      have h2 := (List.getElem?_eq_some_iff.mp q2).1
      simpa using h2
    rw [List.getElem?_set_self hl] at q2
    cases q2
    exact ⟨v, by rw [List.getElem?_set_self (by rw [R.len]; exact hl)], r⟩
  · rw [List.getElem?_set_ne (Ne.symm hj)] at q2
    obtain ⟨w, e1, e2⟩ := R.env j e q2
    exact ⟨w, by rw [List.getElem?_set_ne (Ne.symm hj)]; exact e1, e2⟩
/-- behind a call that left all that was tracked as it was -/
theorem Rel.after (R : Rel K F H ι s σ) (sF : Same F F') (sH : Same H H') (sm : Same F' H') (fr : ∀ a o, F' a = some o → F a = none → H a = none) : Rel K F' H' ι s σ ∧ (∀ _ : (∀ a, H' a = none → H a = none), Ext F H ι F' H' ι) := by
  refine ⟨⟨sm, fun i d e => ?_, R.len, R.ilen, fun k a c e1 e2 => ?_, R.inj⟩, fun al => ⟨sF, .refl ι, fun b o e _ => sH b o e, fun a o e n => .inl (fr a o e n), fun a m => .inl m, al⟩⟩
  · obtain ⟨v, q, r⟩ := R.env i d e
    exact ⟨v, q, r.mono sF (.refl ι)⟩
  · have th := R.here (List.mem_of_getElem? e1)
    refine (R.cell k a c e1 e2).move sF (.refl ι) ?_ (fun n => ?_)
    · cases q : H a with
      | none => exact absurd q th
      | some o => exact sH a o q
    · cases q : F' a with
      | none => rfl
      | some o => exact absurd (fr a o q n) th
end
end VL

set_option Elab.async false
set_option linter.all false
set_option maxRecDepth 20000
/-! Judgements of the value layer, and the plain constructs. -/
namespace VL
open PySem PyProof.Rows PySem.Spec L2
noncomputable section

inductive Res (α : Type) where
  | ok (a : α) (s : S) | exc (C : Str) (fs : List (Str × D)) (s : S) | bad
inductive SR where
  | nx (s : S) | rt (d : D) (s : S) | bk (s : S) | ct (s : S) | exc (C : Str) (fs : List (Str × D)) (s : S) | bad
abbrev VE := S → Res D
abbrev VB := S → Res Bool
abbrev VA := S → Res (List D)
abbrev VS := S → SR
def Res.bind {α β : Type} (r : Res α) (k : α → S → Res β) : Res β := match r with
  | .ok a s => k a s
  | .exc C fs s => .exc C fs s
  | .bad => .bad
def Res.bindS {α : Type} (r : Res α) (k : α → S → SR) : SR := match r with
  | .ok a s => k a s
  | .exc C fs s => .exc C fs s
  | .bad => .bad
@[simp] theorem bind_ok {α β : Type} (a : α) (s : S) (k : α → S → Res β) : Res.bind (.ok a s) k = k a s := rfl
@[simp] theorem bind_exc {α β : Type} (C : Str) (fs : List (Str × D)) (s : S) (k : α → S → Res β) : Res.bind (.exc C fs s) k = .exc C fs s := rfl
@[simp] theorem bind_bad {α β : Type} (k : α → S → Res β) : Res.bind .bad k = .bad := rfl
@[simp] theorem bindS_ok {α : Type} (a : α) (s : S) (k : α → S → SR) : Res.bindS (.ok a s) k = k a s := rfl
@[simp] theorem bindS_exc {α : Type} (C : Str) (fs : List (Str × D)) (s : S) (k : α → S → SR) : Res.bindS (.exc C fs s) k = .exc C fs s := rfl
@[simp] theorem bindS_bad {α : Type} (k : α → S → SR) : Res.bindS .bad k = .bad := rfl

section
variable (K : PySem.W.Frag) (W : WX)
def ExcAt (F H : Hp) (ι : List Addr) (C : Str) (fs : List (Str × D)) (cls : Value) (dx : Option Addr) : Prop :=
  cls = .ref (He.ga K C) ∧ ((fs = [] ∧ dx = none) ∨ (fs ≠ [] ∧ ∃ a fv, dx = some a ∧ H a = some (.xd fv) ∧ RpF K F ι fv fs))
/-- what is wanted behind: R tells how the answer lies -/
def Post {α β : Type} (R : Hp → List Addr → β → α → Prop) (F H : Hp) (ι : List Addr) (σ : L2.St) (r : Res α) (Q : β → Hp → Prop) : Prop := match r with
  | .ok a s => ∀ F' H' ι' v, Rel K F' H' ι' s σ → Ext F H ι F' H' ι' → R F' ι' v a → Q v H'
  | .exc C fs s => ∀ F' H' ι' cls dx, Rel K F' H' ι' s σ → Ext F H ι F' H' ι' → ExcAt K F' H' ι' C fs cls dx → W cls dx σ H'
  | .bad => False
abbrev PostE := Post K W (fun F ι (v : V) (d : D) => Rp K F ι v d)
abbrev PostB := Post K W (fun _ _ (v : Bool) (d : Bool) => v = d)
abbrev PostA := Post K W (fun F ι (v : List V) (d : List D) => Rps K F ι v d)
def PostS (F H : Hp) (ι : List Addr) (r : SR) (Dn : Ends) : Prop := match r with
  | .nx s => ∀ F' H' ι' σ', Rel K F' H' ι' s σ' → Ext F H ι F' H' ι' → Dn.nx σ' H'
  | .bk s => ∀ F' H' ι' σ', Rel K F' H' ι' s σ' → Ext F H ι F' H' ι' → Dn.bk σ' H'
  | .ct s => ∀ F' H' ι' σ', Rel K F' H' ι' s σ' → Ext F H ι F' H' ι' → Dn.ct σ' H'
  | .rt d s => ∀ F' H' ι' σ' v, Rel K F' H' ι' s σ' → Ext F H ι F' H' ι' → Rp K F' ι' v d → Dn.rt v H'
  | .exc C fs s => ∀ F' H' ι' σ' cls dx, Rel K F' H' ι' s σ' → Ext F H ι F' H' ι' → ExcAt K F' H' ι' C fs cls dx → W cls dx σ' H'
  | .bad => False
def tG {α β : Type} (R : Hp → List Addr → β → α → Prop) (f : S → Res α) : L2.St → Hp → (β → Hp → Prop) → Prop := fun σ H Q =>
  ∃ F ι s, Rel K F H ι s σ ∧ Post K W R F H ι σ (f s) Q
abbrev tE (f : VE) : TE := tG K W (fun F ι (v : V) (d : D) => Rp K F ι v d) f
abbrev tT (f : VB) : TT := tG K W (fun _ _ (v : Bool) (d : Bool) => v = d) f
abbrev tA (f : VA) : TA := tG K W (fun F ι (v : List V) (d : List D) => Rps K F ι v d) f
def tS (f : VS) : TS := fun Dn σ H => ∃ F ι s, Rel K F H ι s σ ∧ PostS K W F H ι (f s) Dn
end
section
variable {K : PySem.W.Frag} {W : WX} {F H F1 H1 : Hp} {ι ι₁ : List Addr} {σ : L2.St}
theorem Post.ref {α β : Type} {R : Hp → List Addr → β → α → Prop} {r : Res α} {Q : β → Hp → Prop} (h : Post K W R F H ι σ r Q) (e : Ext F H ι F1 H1 ι₁) : Post K W R F1 H1 ι₁ σ r Q := by
  cases r with
  | ok a s => exact fun F' H' ι' v r x q => h F' H' ι' v r (e.trans x) q
  | exc C fs s => exact fun F' H' ι' cls dx r x q => h F' H' ι' cls dx r (e.trans x) q
  | bad => exact h
theorem PostS.ref {r : SR} {Dn : Ends} (h : PostS K W F H ι r Dn) (e : Ext F H ι F1 H1 ι₁) : PostS K W F1 H1 ι₁ r Dn := by
  cases r with
  | nx s => exact fun F' H' ι' σ' r x => h F' H' ι' σ' r (e.trans x)
  | bk s => exact fun F' H' ι' σ' r x => h F' H' ι' σ' r (e.trans x)
  | ct s => exact fun F' H' ι' σ' r x => h F' H' ι' σ' r (e.trans x)
  | rt d s => exact fun F' H' ι' σ' v r x q => h F' H' ι' σ' v r (e.trans x) q
  | exc C fs s => exact fun F' H' ι' σ' cls dx r x q => h F' H' ι' σ' cls dx r (e.trans x) q
  | bad => exact h
/-- the end of an expression -/
theorem Post.fin {α β : Type} {R : Hp → List Addr → β → α → Prop} {a : α} {s : S} {v : β} {Q : β → Hp → Prop} (h : Post K W R F H ι σ (.ok a s) Q) (r : Rel K F H ι s σ) (q : R F ι v a) : Q v H := h F H ι v r (.refl _ _ _) q
theorem Post.fin' {α β : Type} {R : Hp → List Addr → β → α → Prop} {a : α} {s : S} {v : β} {Q : β → Hp → Prop} (h : Post K W R F H ι σ (.ok a s) Q) (r : Rel K F1 H1 ι₁ s σ) (e : Ext F H ι F1 H1 ι₁) (q : R F1 ι₁ v a) : Q v H1 := h F1 H1 ι₁ v r e q
theorem Post.bind {α β γ δ : Type} {R : Hp → List Addr → β → α → Prop} {R' : Hp → List Addr → δ → γ → Prop} {f : Res α} {k : α → S → Res γ} {Q' : β → Hp → Prop} {Q : δ → Hp → Prop} (h : Post K W R' F H ι σ (f.bind k) Q)
    (hq : ∀ F1 H1 ι₁ s1 v a, Rel K F1 H1 ι₁ s1 σ → Ext F H ι F1 H1 ι₁ → R F1 ι₁ v a → Post K W R' F1 H1 ι₁ σ (k a s1) Q → Q' v H1) : Post K W R F H ι σ f Q' := by
  cases f with
  | ok a s1 => exact fun F' H' ι' v r' x q => hq F' H' ι' s1 v a r' x q (Post.ref h x)
  | exc C fs s1 => exact h
  | bad => exact h
theorem Post.bindS {α β : Type} {R : Hp → List Addr → β → α → Prop} {f : Res α} {k : α → S → SR} {Q' : β → Hp → Prop} {Dn : Ends} (h : PostS K W F H ι (f.bindS k) Dn)
    (hq : ∀ F1 H1 ι₁ s1 v a, Rel K F1 H1 ι₁ s1 σ → Ext F H ι F1 H1 ι₁ → R F1 ι₁ v a → PostS K W F1 H1 ι₁ (k a s1) Dn → Q' v H1) : Post K W R F H ι σ f Q' := by
  cases f with
  | ok a s1 => exact fun F' H' ι' v r' x q => hq F' H' ι' s1 v a r' x q (PostS.ref h x)
  | exc C fs s1 => exact fun F' H' ι' cls dx r x q => h F' H' ι' σ cls dx r x q
  | bad => exact h
/-- a first part is run -/
theorem Post.run {α β γ δ : Type} {R : Hp → List Addr → β → α → Prop} {R' : Hp → List Addr → δ → γ → Prop} {f : S → Res α} {k : α → S → Res γ} {s : S} {Q' : β → Hp → Prop} {Q : δ → Hp → Prop} (r : Rel K F H ι s σ) (h : Post K W R' F H ι σ ((f s).bind k) Q)
    (hq : ∀ F1 H1 ι₁ s1 v a, Rel K F1 H1 ι₁ s1 σ → Ext F H ι F1 H1 ι₁ → R F1 ι₁ v a → Post K W R' F1 H1 ι₁ σ (k a s1) Q → Q' v H1) : tG K W R f σ H Q' := ⟨F, ι, s, r, h.bind hq⟩
/-- .. of a statement -/
theorem PostS.run {α β : Type} {R : Hp → List Addr → β → α → Prop} {f : S → Res α} {k : α → S → SR} {s : S} {Q' : β → Hp → Prop} {Dn : Ends} (r : Rel K F H ι s σ) (h : PostS K W F H ι ((f s).bindS k) Dn)
    (hq : ∀ F1 H1 ι₁ s1 v a, Rel K F1 H1 ι₁ s1 σ → Ext F H ι F1 H1 ι₁ → R F1 ι₁ v a → PostS K W F1 H1 ι₁ (k a s1) Dn → Q' v H1) : tG K W R f σ H Q' := ⟨F, ι, s, r, Post.bindS h hq⟩
end

/-! ### the judgements -/
section
variable {X : Cx}
theorem imE {e : Expr} {t t' : TE} (h : PE X e t) (i : ∀ σ H Q, t' σ H Q → t σ H Q) : PE X e t' := ⟨fun pins s σ H Q I q => h.run pins s σ H Q I (i σ H Q q)⟩
theorem imT {e : Expr} {t t' : TT} (h : PT X e t) (i : ∀ σ H Q, t' σ H Q → t σ H Q) : PT X e t' := ⟨fun pins s σ H Q I q => h.run pins s σ H Q I (i σ H Q q)⟩
theorem imW {e : Expr} {t t' : TT} (h : PW X e t) (i : ∀ σ H Q, t' σ H Q → t σ H Q) : PW X e t' := ⟨fun wh pins s σ H Q I q => h.run wh pins s σ H Q I (i σ H Q q)⟩
theorem imA {e : List Expr} {t t' : TA} (h : PA X e t) (i : ∀ σ H Q, t' σ H Q → t σ H Q) : PA X e t' := ⟨fun pos pins s σ H Q I q => h.run pos pins s σ H Q I (i σ H Q q)⟩
theorem imS {e : Stmt} {t t' : TS} (h : PS X e t) (i : ∀ D σ H, t' D σ H → t D σ H) : PS X e t' := ⟨fun pins s σ H D I q => h.run pins s σ H D I (i D σ H q)⟩
theorem imB {e : List Stmt} {t t' : TS} (h : PSs X e t) (i : ∀ D σ H, t' D σ H → t D σ H) : PSs X e t' := ⟨fun pins s σ H D I q => h.run pins s σ H D I (i D σ H q)⟩
end
abbrev E' (X : Cx) (W : WX) (e : Expr) (f : VE) : Prop := PE X e (tE X.K W f)
abbrev T' (X : Cx) (W : WX) (e : Expr) (f : VB) : Prop := PT X e (tT X.K W f)
abbrev W' (X : Cx) (W : WX) (e : Expr) (f : VB) : Prop := PW X e (tT X.K W f)
abbrev A' (X : Cx) (W : WX) (e : List Expr) (f : VA) : Prop := PA X e (tA X.K W f)
abbrev S' (X : Cx) (W : WX) (e : Stmt) (f : VS) : Prop := PS X e (tS X.K W f)
abbrev B' (X : Cx) (W : WX) (e : List Stmt) (f : VS) : Prop := PSs X e (tS X.K W f)

/-! ### names, constants -/
def S.put (s : S) (i : Nat) (d : D) : S := ⟨s.ρ.set i (some d), s.η⟩
def eVar (i : Nat) (s : S) : Res D := match s.ρ[i]? with
  | some (some d) => .ok d s
  | _ => .bad
def eC (d : D) (s : S) : Res D := .ok d s
section
variable {X : Cx} {W : WX} {pos : Pos}
theorem v_var (i : Nat) {x : Str} (hN : X.N[i]? = some x := by rfl) (hv : Vis X.env.scope x := by first | exact Or.inl rfl | exact Or.inr (Or.inl rfl) | exact Or.inr (Or.inr rfl)) (h1 : (x == ("__debug__" : Str)) = false := by decide)
    (h2 : (x == ("__classdict__" : Str)) = false := by decide) : E' X W (.Name x pos) (eVar i) := by
  refine imE (pe_var hN hv h1 h2) fun σ H Q h => ?_
  obtain ⟨F, ι, s, r, h⟩ := h
  unfold eVar at h
  split at h
  · rename_i d e
    obtain ⟨v, e1, e2⟩ := r.env i d e
    exact ⟨v, e1, h.fin r e2⟩
  · exact h.elim
theorem v_const {e : Expr} {v : V} {d : D} (h : PE X e (tC v)) (hr : ∀ F ι, Rp X.K F ι v d) : E' X W e (eC d) := by
  refine imE h fun σ H Q h => ?_
  obtain ⟨F, ι, s, r, h⟩ := h
  exact Post.fin h r (hr F ι)
theorem v_int {i : Int} {j} : E' X W (.Constant (.int i) j pos) (eC (.int i)) := v_const pe_int fun _ _ => .int i
theorem v_bl {b j} : E' X W (.Constant (.bool b) j pos) (eC (.bl b)) := v_const pe_bl fun _ _ => .bl b
theorem v_non {j} : E' X W (.Constant .none j pos) (eC .non) := v_const pe_non fun _ _ => .non
theorem v_str {x j} : E' X W (.Constant (.str x) j pos) (eC (.str x)) := v_const pe_str fun _ _ => .str x
theorem v_glob {x : Str} {v : V} {u : Value} {d : D} (hg : Gl X x) (hm : X.mg x = some u) (r : RelV v u) (hr : ∀ F ι, Rp X.K F ι v d) (h1 : (x == ("__debug__" : Str)) = false := by decide) : E' X W (.Name x pos) (eC d) := v_const (pe_glob hg hm r h1) hr
end

/-! ### operators -/
def e2 (k : D → D → S → Res D) (f g : VE) (s : S) : Res D := (f s).bind fun a s => (g s).bind fun b s => k a b s
/-- what a rule by values gives for data -/
def Op2 (X : Cx) (W : WX) (r : R2) (k : D → D → S → Res D) : Prop := ∀ F H ι σ s v w a b Q, Rel X.K F H ι s σ → Rp X.K F ι v a → Rp X.K F ι w b → PostE X.K W F H ι σ (k a b s) Q → r v w H Q
theorem two_run {K : PySem.W.Frag} {W : WX} {f g : VE} {k : D → D → S → Res D} {r : R2} {σ : L2.St} {H : Hp} {Q : VK}
    (h : tE K W (e2 k f g) σ H Q) (hr : ∀ F H ι s v w a b, Rel K F H ι s σ → Rp K F ι v a → Rp K F ι w b → PostE K W F H ι σ (k a b s) Q → r v w H Q) : tOp r (tE K W f) (tE K W g) σ H Q := by
  obtain ⟨F, ι, s, R, h⟩ := h
  refine Post.run R h fun F1 H1 ι₁ s1 v a R1 x1 q1 h1 => ?_
  refine Post.run R1 h1 fun F2 H2 ι₂ s2 w b R2 x2 q2 h2 => ?_
  exact hr F2 H2 ι₂ s2 v w a b R2 (q1.mono x2.sub x2.grow) q2 h2
section
variable {X : Cx} {W : WX} {pos : Pos} {a b c : Expr} {f g h : VE}
theorem v_op {op : Operator} {r : R2} {k : D → D → S → Res D} (ho : OpR X (binaryOp op) r) (hk : Op2 X W r k) (ha : E' X W a f) (hb : E' X W b g) : E' X W (.BinOp a op b pos) (e2 k f g) :=
  imE (pe_op ho ha hb) fun σ H Q h => two_run h fun F H ι s v w a b R p q z => hk F H ι σ s v w a b Q R p q z
theorem v_cmp {op : CmpOp} {r : R2} {k : D → D → S → Res D} (ho : OpR X (compareOp op) r) (hk : Op2 X W r k) (ha : E' X W a f) (hb : E' X W b g) (hm : behindInMarks op b = false) : E' X W (.Compare a [op] [b] pos) (e2 k f g) :=
  imE (pe_cmpR ho ha hb hm) fun σ H Q h => two_run h fun F H ι s v w a b R p q z => hk F H ι σ s v w a b Q R p q z
/-- a value that is a bool, as a test -/
def bOf (f : VE) (s : S) : Res Bool := (f s).bind fun d s => match d with
  | .bl b => .ok b s
  | _ => .bad
theorem bOf_run {K : PySem.W.Frag} {σ : L2.St} {H : Hp} {Q : Bool → Hp → Prop} (h : tT K W (bOf f) σ H Q) : tE K W f σ H fun v H' => ∃ b, v = .bl b ∧ Q b H' := by
  obtain ⟨F, ι, s, R, h⟩ := h
  refine Post.run R h fun F1 H1 ι₁ s1 v d R1 x1 q1 h1 => ?_
  cases q1 <;> first | exact ⟨_, rfl, Post.fin h1 R1 rfl⟩ | exact h1.elim
theorem t_cmp {op : CmpOp} {r : R2} {k : D → D → S → Res D} (ho : OpR X (compareOp op) r) (hk : Op2 X W r k) (ha : E' X W a f) (hb : E' X W b g) (hm : behindInMarks op b = false) : T' X W (.Compare a [op] [b] pos) (bOf (e2 k f g)) := by
  refine imT (pt_cmpR ho ha hb hm) fun σ H Q h => ?_
  exact two_run (bOf_run h) fun F H ι s v w a b R p q z => hk F H ι σ s v w a b _ R p q z
end
/-! ints -/
def kInt (g : Int → Int → D) (a b : D) (s : S) : Res D := match a, b with
  | .int i, .int j => .ok (g i j) s
  | _, _ => .bad
open Classical in
def kIntC (C : Int → Int → Prop) (g : Int → Int → D) (a b : D) (s : S) : Res D := match a, b with
  | .int i, .int j => if C i j then .ok (g i j) s else .bad
  | _, _ => .bad
section
variable {X : Cx} {W : WX}
theorem o_int {g : Int → Int → V} {g' : Int → Int → D} (h : ∀ F ι i j, Rp X.K F ι (g i j) (g' i j)) : Op2 X W (rI0 g) (kInt g') := by
  intro F H ι σ s v w a b Q R p q z
  cases p <;> cases q <;> first | exact ⟨_, _, rfl, rfl, z.fin R (h _ _ _ _)⟩ | exact z.elim
theorem o_intC {C : Int → Int → Prop} {g : Int → Int → V} {g' : Int → Int → D} (h : ∀ F ι i j, Rp X.K F ι (g i j) (g' i j)) : Op2 X W (rI C g) (kIntC C g') := by
  intro F H ι σ s v w a b Q R p q z
  cases p <;> cases q <;> first
    | exact z.elim
    | (unfold kIntC at z
       dsimp only at z
       split at z
       · rename_i hc
         exact ⟨_, _, rfl, rfl, hc, Post.fin z R (h _ _ _ _)⟩
       · exact z.elim)
end
abbrev kAdd := kInt fun i j => .int (i + j)
abbrev kSub := kInt fun i j => .int (i - j)
abbrev kMul := kIntC CMul fun i j => .int (i * j)
abbrev kMod := kIntC (fun _ j => 0 < j) fun i j => .int (i % j)
abbrev kDiv := kIntC CDiv fun i j => .int (i / j)
abbrev kPow := kIntC CPow fun i j => .int (i ^ j.toNat)
abbrev kLt := kInt fun i j => .bl (decide (i < j))
abbrev kLe := kInt fun i j => .bl (decide (i ≤ j))
abbrev kGt := kInt fun i j => .bl (decide (j < i))
abbrev kGe := kInt fun i j => .bl (decide (j ≤ i))
section
variable {X : Cx} {W : WX} {pos : Pos} {a b c : Expr} {f g h : VE}
theorem v_add (ha : E' X W a f) (hb : E' X W b g) : E' X W (.BinOp a .Add b pos) (e2 kAdd f g) := v_op op_add (o_int fun _ _ i j => .int (i + j)) ha hb
theorem v_sub (ha : E' X W a f) (hb : E' X W b g) : E' X W (.BinOp a .Sub b pos) (e2 kSub f g) := v_op op_sub (o_int fun _ _ i j => .int (i - j)) ha hb
theorem v_mul (ha : E' X W a f) (hb : E' X W b g) : E' X W (.BinOp a .Mult b pos) (e2 kMul f g) := v_op op_mul (o_intC fun _ _ i j => .int (i * j)) ha hb
theorem v_mod (ha : E' X W a f) (hb : E' X W b g) : E' X W (.BinOp a .Mod b pos) (e2 kMod f g) := v_op op_mod (o_intC fun _ _ i j => .int (i % j)) ha hb
theorem v_div (ha : E' X W a f) (hb : E' X W b g) : E' X W (.BinOp a .FloorDiv b pos) (e2 kDiv f g) := v_op op_fdiv (o_intC fun _ _ i j => .int (i / j)) ha hb
theorem v_pow (ha : E' X W a f) (hb : E' X W b g) : E' X W (.BinOp a .Pow b pos) (e2 kPow f g) := v_op op_pow (o_intC fun _ _ i j => .int (i ^ j.toNat)) ha hb
theorem v_lt (ha : E' X W a f) (hb : E' X W b g) : E' X W (.Compare a [.Lt] [b] pos) (e2 kLt f g) := v_cmp op_lt (o_int fun _ _ i j => .bl _) ha hb (nomark _)
theorem v_le (ha : E' X W a f) (hb : E' X W b g) : E' X W (.Compare a [.LtE] [b] pos) (e2 kLe f g) := v_cmp op_le (o_int fun _ _ i j => .bl _) ha hb (nomark _)
theorem v_gt (ha : E' X W a f) (hb : E' X W b g) : E' X W (.Compare a [.Gt] [b] pos) (e2 kGt f g) := v_cmp op_gt (o_int fun _ _ i j => .bl _) ha hb (nomark _)
theorem v_ge (ha : E' X W a f) (hb : E' X W b g) : E' X W (.Compare a [.GtE] [b] pos) (e2 kGe f g) := v_cmp op_ge (o_int fun _ _ i j => .bl _) ha hb (nomark _)
theorem t_lt (ha : E' X W a f) (hb : E' X W b g) : T' X W (.Compare a [.Lt] [b] pos) (bOf (e2 kLt f g)) := t_cmp op_lt (o_int fun _ _ i j => .bl _) ha hb (nomark _)
theorem t_le (ha : E' X W a f) (hb : E' X W b g) : T' X W (.Compare a [.LtE] [b] pos) (bOf (e2 kLe f g)) := t_cmp op_le (o_int fun _ _ i j => .bl _) ha hb (nomark _)
theorem t_gt (ha : E' X W a f) (hb : E' X W b g) : T' X W (.Compare a [.Gt] [b] pos) (bOf (e2 kGt f g)) := t_cmp op_gt (o_int fun _ _ i j => .bl _) ha hb (nomark _)
theorem t_ge (ha : E' X W a f) (hb : E' X W b g) : T' X W (.Compare a [.GtE] [b] pos) (bOf (e2 kGe f g)) := t_cmp op_ge (o_int fun _ _ i j => .bl _) ha hb (nomark _)

/-! chains of two comparisons -/
def eChain (k k' : D → D → S → Res D) (f g h : VE) (s : S) : Res D := (f s).bind fun a s => (g s).bind fun b s => (k a b s).bind fun d s => match d with
  | .bl t => if t = true then (h s).bind fun c s => k' b c s else .ok (.bl false) s
  | _ => .bad
theorem chain_run {r r' : R2} {k k' : D → D → S → Res D} (hk : Op2 X W r k) (hk' : Op2 X W r' k') {σ : L2.St} {H : Hp} {Q : VK} (z : tE X.K W (eChain k k' f g h) σ H Q) : tChain r r' (tE X.K W f) (tE X.K W g) (tE X.K W h) σ H Q := by
  obtain ⟨F, ι, s, R, z⟩ := z
  refine Post.run R z fun F1 H1 ι₁ s1 v a R1 x1 q1 h1 => ?_
  refine Post.run R1 h1 fun F2 H2 ι₂ s2 w b R2 x2 q2 h2 => ?_
  refine hk F2 H2 ι₂ σ s2 v w a b _ R2 (q1.mono x2.sub x2.grow) q2 ?_
  refine Post.bind h2 fun F3 H3 ι₃ s3 u d R3 x3 q3 h3 => ?_
  cases q3 <;> first | exact h3.elim | skip
  rename_i bb
  refine ⟨bb, rfl, ?_⟩
  cases bb with
  | true =>
    rw [if_pos rfl]
    refine Post.run R3 h3 fun F4 H4 ι₄ s4 u' c R4 x4 q4 h4 => ?_
    have x34 := x3.trans x4
    exact hk' F4 H4 ι₄ σ s4 w u' b c Q R4 (q2.mono x34.sub x34.grow) q4 h4
  | false =>
    rw [if_neg Bool.false_ne_true]
    exact Post.fin h3 R3 (.bl false)
theorem v_chain {op op' : CmpOp} {r r' : R2} {k k' : D → D → S → Res D} (ho : OpR X (compareOp op) r) (ho' : OpR X (compareOp op') r') (hk : Op2 X W r k) (hk' : Op2 X W r' k') (ha : E' X W a f) (hb : E' X W b g) (hc : E' X W c h)
    (hm : lastMarks [op, op'] [b, c] = false := by with_unfolding_all rfl) : E' X W (.Compare a [op, op'] [b, c] pos) (eChain k k' f g h) := imE (pe_chain ho ho' ha hb hc hm) fun σ H Q z => chain_run hk hk' z
theorem t_chain {op op' : CmpOp} {r r' : R2} {k k' : D → D → S → Res D} (ho : OpR X (compareOp op) r) (ho' : OpR X (compareOp op') r') (hk : Op2 X W r k) (hk' : Op2 X W r' k') (ha : E' X W a f) (hb : E' X W b g) (hc : E' X W c h)
    (hm : lastMarks [op, op'] [b, c] = false := by with_unfolding_all rfl) : T' X W (.Compare a [op, op'] [b, c] pos) (bOf (eChain k k' f g h)) := by
  refine imT (pt_chain ho ho' ha hb hc hm) fun σ H Q z => ?_
  refine chain_run (Q := fun v H' => ∃ b, v = .bl b ∧ Q b H') hk hk' ?_
  exact bOf_run z
end
end
end VL

set_option Elab.async false
set_option linter.all false
set_option maxRecDepth 20000
/-! Tests, statements, loops. -/
namespace VL
open PySem PyProof.Rows PySem.Spec L2
noncomputable section

/-! ### and, or, not, if -/
def tAnd' (f g : VB) (s : S) : Res Bool := (f s).bind fun b s => if b = true then g s else .ok false s
def tOr' (f g : VB) (s : S) : Res Bool := (f s).bind fun b s => if b = true then .ok true s else g s
def tNot' (f : VB) (s : S) : Res Bool := (f s).bind fun b s => .ok (!b) s
def eAnd (f g : VE) (s : S) : Res D := (f s).bind fun d s => match d with
  | .bl t => if t = true then g s else .ok (.bl false) s
  | _ => .bad
def eOr (f g : VE) (s : S) : Res D := (f s).bind fun d s => match d with
  | .bl t => if t = true then .ok (.bl true) s else g s
  | _ => .bad
def eNot (f : VE) (s : S) : Res D := (f s).bind fun d s => match d with
  | .bl b => .ok (.bl (!b)) s
  | _ => .bad
def eIf (c : VB) (f g : VE) (s : S) : Res D := (c s).bind fun b s => if b = true then f s else g s
section
variable {X : Cx} {W : WX} {pos : Pos} {a b c : Expr} {rest : List Expr} {f g : VB} {fe ge : VE}
theorem w_and1 (ha : T' X W a f) : W' X W (.BoolOp .And [a] pos) f := pw_and1 ha
theorem w_or1 (ha : T' X W a f) : W' X W (.BoolOp .Or [a] pos) f := pw_or1 ha
theorem w_and (ha : T' X W a f) (hb : W' X W (.BoolOp .And (b :: rest) pos) g) : W' X W (.BoolOp .And (a :: b :: rest) pos) (tAnd' f g) := by
  refine imW (pw_and ha hb) fun σ H Q ⟨F, ι, s, R, h⟩ => ?_
  refine Post.run R h fun F1 H1 ι₁ s1 v d R1 x1 q1 h1 => ?_
  subst q1
  cases v with
  | true => exact iteT ⟨F1, ι₁, s1, R1, h1⟩
  | false => exact iteF (Post.fin h1 R1 rfl)
theorem w_or (ha : T' X W a f) (hb : W' X W (.BoolOp .Or (b :: rest) pos) g) : W' X W (.BoolOp .Or (a :: b :: rest) pos) (tOr' f g) := by
  refine imW (pw_or ha hb) fun σ H Q ⟨F, ι, s, R, h⟩ => ?_
  refine Post.run R h fun F1 H1 ι₁ s1 v d R1 x1 q1 h1 => ?_
  subst q1
  cases v with
  | false => exact iteF ⟨F1, ι₁, s1, R1, h1⟩
  | true => exact iteT (Post.fin h1 R1 rfl)
theorem t_w (h : W' X W a f) : T' X W a f := h.pt
theorem t_not (ha : T' X W a f) : T' X W (.UnaryOp .Not a pos) (tNot' f) := by
  refine imT (pt_not ha) fun σ H Q ⟨F, ι, s, R, h⟩ => ?_
  refine Post.run R h fun F1 H1 ι₁ s1 v d R1 x1 q1 h1 => ?_
  subst q1
  exact Post.fin h1 R1 rfl
theorem v_one {op} (h : E' X W a fe) : E' X W (.BoolOp op [a] pos) fe := pe_one h
theorem v_and (ha : E' X W a fe) (hb : E' X W (.BoolOp .And (b :: rest) pos) ge) : E' X W (.BoolOp .And (a :: b :: rest) pos) (eAnd fe ge) := by
  refine imE (pe_and ha hb) fun σ H Q ⟨F, ι, s, R, h⟩ => ?_
  refine Post.run R h fun F1 H1 ι₁ s1 v d R1 x1 q1 h1 => ?_
  cases q1 <;> first | exact h1.elim | skip
  rename_i bb
  refine ⟨bb, rfl, ?_⟩
  cases bb with
  | true => exact iteT ⟨F1, ι₁, s1, R1, h1⟩
  | false => exact iteF (Post.fin h1 R1 (.bl false))
theorem v_or (ha : E' X W a fe) (hb : E' X W (.BoolOp .Or (b :: rest) pos) ge) : E' X W (.BoolOp .Or (a :: b :: rest) pos) (eOr fe ge) := by
  refine imE (pe_or ha hb) fun σ H Q ⟨F, ι, s, R, h⟩ => ?_
  refine Post.run R h fun F1 H1 ι₁ s1 v d R1 x1 q1 h1 => ?_
  cases q1 <;> first | exact h1.elim | skip
  rename_i bb
  refine ⟨bb, rfl, ?_⟩
  cases bb with
  | false => exact iteF ⟨F1, ι₁, s1, R1, h1⟩
  | true => exact iteT (Post.fin h1 R1 (.bl true))
theorem v_not (ha : E' X W a fe) : E' X W (.UnaryOp .Not a pos) (eNot fe) := by
  refine imE (pe_not ha) fun σ H Q ⟨F, ι, s, R, h⟩ => ?_
  refine Post.run R h fun F1 H1 ι₁ s1 v d R1 x1 q1 h1 => ?_
  cases q1 <;> first | exact h1.elim | exact ⟨_, rfl, Post.fin h1 R1 (.bl _)⟩
theorem v_if (hc : T' X W c f) (ha : E' X W a fe) (hb : E' X W b ge) : E' X W (.IfExp c a b pos) (eIf f fe ge) := by
  refine imE (pe_ifExp hc ha hb) fun σ H Q ⟨F, ι, s, R, h⟩ => ?_
  refine Post.run R h fun F1 H1 ι₁ s1 v d R1 x1 q1 h1 => ?_
  subst q1
  cases v with
  | true => exact iteT ⟨F1, ι₁, s1, R1, h1⟩
  | false => exact iteF ⟨F1, ι₁, s1, R1, h1⟩
/-- is None -/
def kIs (a b : D) (s : S) : Res D := match b with
  | .non => match a with
    | .non => .ok (.bl true) s
    | _ => .ok (.bl false) s
  | _ => .bad
def kIsNot (a b : D) (s : S) : Res D := match b with
  | .non => match a with
    | .non => .ok (.bl false) s
    | _ => .ok (.bl true) s
  | _ => .bad
theorem o_is : Op2 X W (fun x y H Q => y = .non ∧ Q (.bl (decide (x = .non))) H) kIs := by
  intro F H ι σ s v w a b Q R p q z
  cases q <;> first | exact z.elim | skip
  refine ⟨rfl, ?_⟩
  cases p <;> exact Post.fin z R (.bl _)
theorem o_isNot : Op2 X W (fun x y H Q => y = .non ∧ Q (.bl (!decide (x = .non))) H) kIsNot := by
  intro F H ι σ s v w a b Q R p q z
  cases q <;> first | exact z.elim | skip
  refine ⟨rfl, ?_⟩
  cases p <;> exact Post.fin z R (.bl _)
theorem v_is (ha : E' X W a fe) (hb : E' X W b ge) : E' X W (.Compare a [.Is] [b] pos) (e2 kIs fe ge) := v_cmp op_isN o_is ha hb (nomark _)
theorem t_is (ha : E' X W a fe) (hb : E' X W b ge) : T' X W (.Compare a [.Is] [b] pos) (bOf (e2 kIs fe ge)) := t_cmp op_isN o_is ha hb (nomark _)
theorem v_isNot (ha : E' X W a fe) (hb : E' X W b ge) : E' X W (.Compare a [.IsNot] [b] pos) (e2 kIsNot fe ge) := v_cmp op_notN o_isNot ha hb (nomark _)
theorem t_isNot (ha : E' X W a fe) (hb : E' X W b ge) : T' X W (.Compare a [.IsNot] [b] pos) (bOf (e2 kIsNot fe ge)) := t_cmp op_notN o_isNot ha hb (nomark _)
end

/-! ### what stands at data, one pointer followed -/
def look (s : S) : D → D
  | .ptr k => match s.η[k]? with
    | some (.lst xs) => .lst xs
    | some (.dK kvs) => .dK kvs
    | some (.dT kvs) => .dT kvs
    | some (.ins C fs) => .obj C fs
    | some (.fwd d) => d
    | none => .non
  | d => d
section
variable {K : PySem.W.Frag} {F H : Hp} {ι : List Addr} {s : S} {σ : L2.St}
/-- the thing at hand lies in H as its data says -/
inductive At (K : PySem.W.Frag) (F H : Hp) (ι : List Addr) : V → D → Prop
  | sc {v : V} {d : D} (h : Rp K F ι v d) : At K F H ι v d
  | lst {a : Addr} {vs : List V} {ds : List D} (h : H a = some (.lst vs)) (r : Rps K F ι vs ds) : At K F H ι (.ref a) (.lst ds)
  | dK {a : Addr} {vs : List (Key × V)} {ds : List (Key × D)} (h : H a = some (.dK vs)) (r : RpK K F ι vs ds) : At K F H ι (.ref a) (.dK ds)
  | dT {a : Addr} {vs : List (List Key × V)} {ds : List (List Key × D)} (h : H a = some (.dT vs)) (r : RpT K F ι vs ds) : At K F H ι (.ref a) (.dT ds)
  | obj {a dx : Addr} {C : Str} {fv : List (Str × V)} {fs : List (Str × D)} (h : H a = some (.ins (He.ga K C) dx fv)) (r : RpF K F ι fv fs) : At K F H ι (.ref a) (.obj C fs)
theorem Rel.at (R : Rel K F H ι s σ) {v : V} {d : D} (p : Rp K F ι v d) : At K F H ι v (look s d) := by
  cases p with
  | ptr e =>
    rename_i k a
    have hk : k < s.η.length := by rw [← R.ilen]; exact (List.getElem?_eq_some_iff.mp e).1
    have hc := R.cell k a _ e (List.getElem?_eq_getElem hk)
    unfold look
    dsimp only
    rw [List.getElem?_eq_getElem hk]
    cases q : s.η[k] with
    | lst xs => rw [q] at hc; obtain ⟨_, vs, h, r⟩ := hc; exact .lst h r
    | dK xs => rw [q] at hc; obtain ⟨_, vs, h, r⟩ := hc; exact .dK h r
    | dT xs => rw [q] at hc; obtain ⟨_, vs, h, r⟩ := hc; exact .dT h r
    | ins C fs => rw [q] at hc; obtain ⟨_, dx, fv, h, r⟩ := hc; exact .obj h r
    | fwd d => rw [q] at hc; exact .sc hc.2
  | non => exact .sc .non
  | bl b => exact .sc (.bl b)
  | int i => exact .sc (.int i)
  | str x => exact .sc (.str x)
  | ty n => exact .sc (.ty n)
  | tup h r => exact .sc (.tup h r)
  | lst h r => exact .sc (.lst h r)
  | scr h r => exact .sc (.scr h r)
  | dK h r => exact .sc (.dK h r)
  | dT h r => exact .sc (.dT h r)
  | obj h r => exact .sc (.obj h r)
theorem At.lstD (e : Same F H) {v : V} {ds : List D} (h : At K F H ι v (.lst ds)) : ∃ a vs, v = .ref a ∧ H a = some (.lst vs) ∧ Rps K F ι vs ds := by
  cases h with
  | sc h => cases h with | lst h r => exact ⟨_, _, rfl, e _ _ h, r⟩
  | lst h r => exact ⟨_, _, rfl, h, r⟩
theorem At.scrD (e : Same F H) {v : V} {ds : List D} (h : At K F H ι v (.scr ds)) : ∃ a vs, v = .ref a ∧ SqL K H a vs ∧ Rps K F ι vs ds := by
  cases h with
  | sc h => cases h with | scr h r => exact ⟨_, _, rfl, sqL_mono e h, r⟩
theorem At.tupD (e : Same F H) {v : V} {ds : List D} (h : At K F H ι v (.tup ds)) : ∃ a vs, v = .ref a ∧ SqT K H a vs ∧ Rps K F ι vs ds := by
  cases h with
  | sc h => cases h with | tup h r => exact ⟨_, _, rfl, sqT_mono e h, r⟩
theorem At.dKD (e : Same F H) {v : V} {ds : List (Key × D)} (h : At K F H ι v (.dK ds)) : ∃ a vs, v = .ref a ∧ H a = some (.dK vs) ∧ RpK K F ι vs ds := by
  cases h with
  | sc h => cases h with | dK h r => exact ⟨_, _, rfl, e _ _ h, r⟩
  | dK h r => exact ⟨_, _, rfl, h, r⟩
theorem At.dTD (e : Same F H) {v : V} {ds : List (List Key × D)} (h : At K F H ι v (.dT ds)) : ∃ a vs, v = .ref a ∧ H a = some (.dT vs) ∧ RpT K F ι vs ds := by
  cases h with
  | sc h => cases h with | dT h r => exact ⟨_, _, rfl, e _ _ h, r⟩
  | dT h r => exact ⟨_, _, rfl, h, r⟩
theorem At.objD (e : Same F H) {v : V} {C : Str} {fs : List (Str × D)} (h : At K F H ι v (.obj C fs)) : ∃ a dx fv, v = .ref a ∧ H a = some (.ins (He.ga K C) dx fv) ∧ RpF K F ι fv fs := by
  cases h with
  | sc h => cases h with | obj h r => exact ⟨_, _, _, rfl, e _ _ h, r⟩
  | obj h r => exact ⟨_, _, _, rfl, h, r⟩
theorem At.intD {v : V} {i : Int} (h : At K F H ι v (.int i)) : v = .int i := by
  cases h with | sc h => cases h; rfl
theorem At.blD {v : V} {i : Bool} (h : At K F H ι v (.bl i)) : v = .bl i := by
  cases h with | sc h => cases h; rfl
theorem At.strD {v : V} {i : Str} (h : At K F H ι v (.str i)) : v = .str i := by
  cases h with | sc h => cases h; rfl
theorem At.nonD {v : V} (h : At K F H ι v .non) : v = .non := by
  cases h with | sc h => cases h; rfl
theorem RpK.isEmpty {vs : List (Key × V)} {ds : List (Key × D)} (r : RpK K F ι vs ds) : vs.isEmpty = ds.isEmpty := by cases r <;> rfl
theorem Rps.isEmpty {vs : List V} {ds : List D} (r : Rps K F ι vs ds) : vs.isEmpty = ds.isEmpty := by cases r <;> rfl
end
/-! ### truth -/
open Classical in
def truD (d : D) (s : S) : Res Bool := match look s d with
  | .non => .ok false s
  | .bl b => .ok b s
  | .int i => .ok (i != 0) s
  | .str x => if x.length ≤ sizeLine then .ok ((x.length : Int) != 0) s else .bad
  | .lst xs => .ok (!xs.isEmpty) s
  | .scr xs => .ok (!xs.isEmpty) s
  | .tup xs => .ok (!xs.isEmpty) s
  | .dK kvs => .ok (!kvs.isEmpty) s
  | _ => .bad
def tTru (f : VE) (s : S) : Res Bool := (f s).bind truD
section
variable {X : Cx} {W : WX} {pos : Pos} {a b c : Expr} {fe ge : VE}
theorem t_tru (ha : E' X W a fe) (he : ∀ whole, isTrue a X.env whole = (do let v ← whole; standAt a.pos; holding [v] (truthy v)) := by intro _; rfl) : T' X W a (tTru fe) := by
  refine imT (pt_truth ha he) fun σ H Q ⟨F, ι, s, R, h⟩ => ?_
  refine Post.run R h fun F1 H1 ι₁ s1 v d R1 x1 q1 h1 => ?_
  have z := R1.at q1
  unfold truD at h1
  cases e : look s1 d with
  | non => rw [e] at h1 z; rw [z.nonD]; exact ⟨false, rfl, Post.fin h1 R1 rfl⟩
  | bl b => rw [e] at h1 z; rw [z.blD]; exact ⟨b, rfl, Post.fin h1 R1 rfl⟩
  | int i => rw [e] at h1 z; rw [z.intD]; exact ⟨_, rfl, Post.fin h1 R1 rfl⟩
  | str x =>
    rw [e] at h1 z; rw [z.strD]
    dsimp only at h1
    split at h1
    · rename_i hl
      exact ⟨_, ⟨hl, rfl⟩, Post.fin h1 R1 rfl⟩
    · exact h1.elim
  | lst xs => rw [e] at h1 z; obtain ⟨p, vs, rfl, hs, r⟩ := z.lstD R1.same; exact ⟨_, .inl ⟨vs, .of hs, rfl⟩, Post.fin h1 R1 (by rw [r.isEmpty])⟩
  | scr xs => rw [e] at h1 z; obtain ⟨p, vs, rfl, hs, r⟩ := z.scrD R1.same; exact ⟨_, .inl ⟨vs, hs, rfl⟩, Post.fin h1 R1 (by rw [r.isEmpty])⟩
  | tup xs => rw [e] at h1 z; obtain ⟨p, vs, rfl, hs, r⟩ := z.tupD R1.same; exact ⟨_, .inr (.inl ⟨vs, hs, rfl⟩), Post.fin h1 R1 (by rw [r.isEmpty])⟩
  | dK xs => rw [e] at h1 z; obtain ⟨p, vs, rfl, hs, r⟩ := z.dKD R1.same; exact ⟨_, .inr (.inr ⟨vs, hs, rfl⟩), Post.fin h1 R1 (by rw [r.isEmpty])⟩
  | dT _ => rw [e] at h1; exact h1.elim
  | obj _ _ => rw [e] at h1; exact h1.elim
  | ty _ => rw [e] at h1; exact h1.elim
  | ptr _ => rw [e] at h1; exact h1.elim
end

/-! ### statements -/
def sNil (s : S) : SR := .nx s
def sSeq (f g : VS) (s : S) : SR := match f s with
  | .nx s => g s
  | r => r
def sExpr (f : VE) (s : S) : SR := (f s).bindS fun _ s => .nx s
def sRet (f : VE) (s : S) : SR := (f s).bindS fun d s => .rt d s
def sRetN (s : S) : SR := .rt .non s
def sSet (i : Nat) (f : VE) (s : S) : SR := (f s).bindS fun d s => .nx (s.put i d)
def sIf (c : VB) (f g : VS) (s : S) : SR := (c s).bindS fun b s => if b = true then f s else g s
def sBrk (s : S) : SR := .bk s
def sCnt (s : S) : SR := .ct s
def sBad (_ : S) : SR := .bad
section
variable {X : Cx} {W : WX} {pos : Pos} {st : Stmt} {rest : List Stmt} {e : Expr} {f g : VS} {fe : VE} {c : VB}
theorem b_nil : B' X W [] sNil := imB pss_nil fun D σ H ⟨F, ι, s, R, h⟩ => h F H ι σ R (.refl _ _ _)
theorem b_cons (h1 : S' X W st f) (h2 : B' X W rest g) : B' X W (st :: rest) (sSeq f g) := by
  refine imB (pss_cons h1 h2) fun D σ H ⟨F, ι, s, R, h⟩ => ?_
  refine ⟨F, ι, s, R, ?_⟩
  unfold sSeq at h
  cases q : f s with
  | nx s1 => rw [q] at h; exact fun F' H' ι' σ' R' x => ⟨F', ι', s1, R', PostS.ref h x⟩
  | bk s1 => rw [q] at h; exact h
  | ct s1 => rw [q] at h; exact h
  | rt d s1 => rw [q] at h; exact h
  | exc C fs s1 => rw [q] at h; exact h
  | bad => rw [q] at h; exact h
theorem b_one (h1 : S' X W st f) : B' X W [st] f := imB (pss_one h1) fun D σ H h => h
theorem s_pass : S' X W (.Pass pos) sNil := imS ps_pass fun D σ H ⟨F, ι, s, R, h⟩ => h F H ι σ R (.refl _ _ _)
theorem s_doc {x j pos'} : S' X W (.Expr (.Constant (.str x) j pos) pos') sNil := imS ps_doc fun D σ H ⟨F, ι, s, R, h⟩ => h F H ι σ R (.refl _ _ _)
theorem s_brk : S' X W (.Break pos) sBrk := imS ps_break fun D σ H ⟨F, ι, s, R, h⟩ => h F H ι σ R (.refl _ _ _)
theorem s_cnt : S' X W (.Continue pos) sCnt := imS ps_continue fun D σ H ⟨F, ι, s, R, h⟩ => h F H ι σ R (.refl _ _ _)
theorem s_bad : S' X W st sBad := imS ps_never fun D σ H ⟨F, ι, s, R, h⟩ => h
theorem b_bad : B' X W rest sBad := imB pss_never fun D σ H ⟨F, ι, s, R, h⟩ => h
theorem s_expr (he : E' X W e fe) (hs : swapsWith e none pos.line X.env = pure false := by rfl) : S' X W (.Expr e pos) (sExpr fe) := by
  refine imS (ps_expr he hs) fun D σ H ⟨F, ι, s, R, h⟩ => ?_
  exact PostS.run R h fun F1 H1 ι₁ s1 v d R1 x1 q1 h1 => h1 F1 H1 ι₁ σ R1 (.refl _ _ _)
theorem s_ret (he : E' X W e fe) : S' X W (.Return (some e) pos) (sRet fe) := by
  refine imS (ps_ret he) fun D σ H ⟨F, ι, s, R, h⟩ => ?_
  exact PostS.run R h fun F1 H1 ι₁ s1 v d R1 x1 q1 h1 => h1 F1 H1 ι₁ σ v R1 (.refl _ _ _) q1
theorem s_retN : S' X W (.Return none pos) sRetN := imS ps_retN fun D σ H ⟨F, ι, s, R, h⟩ => h F H ι σ .non R (.refl _ _ _) .non
theorem s_set {i : Nat} {x : Str} {pos' : Pos} (hN : X.N.Nodup) (he : E' X W e fe) (hi : X.N[i]? = some x := by rfl) (hx : Loc X.env.scope x := by first | exact Or.inl rfl | exact Or.inr rfl) (hs : swapsWith e (some (.Name x pos')) pos.line X.env = pure false := by rfl) (hf : X.fn x = true ∨ X.env.scope.names.lookup x = some .local := by first | exact .inl rfl | exact .inr rfl | assumption) :
    S' X W (.Assign [.Name x pos'] e pos) (sSet i fe) := by
  refine imS (ps_set hN hi hx he hs hf) fun D σ H ⟨F, ι, s, R, h⟩ => ?_
  exact PostS.run R h fun F1 H1 ι₁ s1 v d R1 x1 q1 h1 => h1 F1 H1 ι₁ _ (R1.put i q1) (.refl _ _ _)
theorem s_if {cx : Expr} {a b : List Stmt} (hc : T' X W cx c) (ha : B' X W a f) (hb : B' X W b g) : S' X W (.If cx a b pos) (sIf c f g) := by
  refine imS (ps_if hc ha hb) fun D σ H ⟨F, ι, s, R, h⟩ => ?_
  refine PostS.run R h fun F1 H1 ι₁ s1 v d R1 x1 q1 h1 => ?_
  subst q1
  cases v with
  | true => exact iteT ⟨F1, ι₁, s1, R1, h1⟩
  | false => exact iteF ⟨F1, ι₁, s1, R1, h1⟩
end

/-! ### targets -/
abbrev VG := D → S → SR
abbrev VGs := List D → S → SR
/-- only the slots of L differ -/
def Outside (L : List Nat) (σ σ' : L2.St) : Prop := ∀ vs : List Nat, (∀ i ∈ L, i ∈ vs) → wipe σ' vs = wipe σ vs
theorem wipe_over {σ : L2.St} {i : Nat} {x : Option V} : ∀ {vs : List Nat}, i ∉ vs → wipe (σ.set i x) vs = (wipe σ vs).set i x
  | [], _ => rfl
  | v :: vs, h => by
    have h1 : i ≠ v := fun e => h (by rw [e]; exact List.mem_cons_self)
    have h2 : i ∉ vs := fun e => h (List.mem_cons_of_mem _ e)
    show (wipe (σ.set i x) vs).set v none = ((wipe σ vs).set v none).set i x
    rw [wipe_over h2, List.set_comm _ _ h1]
theorem wipe_in {σ : L2.St} {i : Nat} {x : Option V} : ∀ {vs : List Nat}, i ∈ vs → wipe (σ.set i x) vs = wipe σ vs
  | [], h => by cases h
  | v :: vs, h => by
    show (wipe (σ.set i x) vs).set v none = (wipe σ vs).set v none
    by_cases h2 : i ∈ vs
    · rw [wipe_in h2]
    · have e : v = i := by
        rcases List.mem_cons.mp h with e | e
        · exact e.symm
        · exact absurd e h2
      subst e
      rw [wipe_over h2, List.set_set]
theorem Outside.refl (σ : L2.St) : Outside [] σ σ := fun _ _ => rfl
theorem Outside.one (σ : L2.St) (i : Nat) (x : Option V) : Outside [i] σ (σ.set i x) := fun vs h => wipe_in (h i List.mem_cons_self)
theorem Outside.app {L L' : List Nat} {σ σ' σ'' : L2.St} (a : Outside L σ σ') (b : Outside L' σ' σ'') : Outside (L ++ L') σ σ'' := fun vs h =>
  (b vs fun i hi => h i (List.mem_append_right _ hi)).trans (a vs fun i hi => h i (List.mem_append_left _ hi))
def PostG (K : PySem.W.Frag) (F H : Hp) (ι : List Addr) (r : SR) (σ : L2.St) (L : List Nat) (Q : L2.St → Hp → Prop) : Prop := match r with
  | .nx s => ∀ F' H' ι' σ', Rel K F' H' ι' s σ' → Ext F H ι F' H' ι' → Outside L σ σ' → Q σ' H'
  | _ => False
def tGt (K : PySem.W.Frag) (L : List Nat) (f : VG) : TG := fun v σ H Q => ∃ F ι s d, Rel K F H ι s σ ∧ Rp K F ι v d ∧ PostG K F H ι (f d s) σ L Q
def tGts (K : PySem.W.Frag) (L : List Nat) (f : VGs) : TGs := fun vs σ H Q => ∃ F ι s ds, Rel K F H ι s σ ∧ Rps K F ι vs ds ∧ PostG K F H ι (f ds s) σ L Q
abbrev G' (X : Cx) (e : Expr) (L : List Nat) (f : VG) : Prop := PG X e (tGt X.K L f)
abbrev Gs' (X : Cx) (e : List Expr) (L : List Nat) (f : VGs) : Prop := PGs X e (tGts X.K L f)
def gNm (i : Nat) (d : D) (s : S) : SR := .nx (s.put i d)
def gNil' (ds : List D) (s : S) : SR := match ds with
  | [] => .nx s
  | _ => .bad
def gCons' (f : VG) (g : VGs) (ds : List D) (s : S) : SR := match ds with
  | d :: ds => (match f d s with
    | .nx s => g ds s
    | _ => .bad)
  | _ => .bad
def gTup' (n : Nat) (g : VGs) (d : D) (s : S) : SR := match d with
  | .tup ds => if ds.length = n then g ds s else .bad
  | _ => .bad
section
variable {X : Cx} {W : WX} {pos : Pos}
theorem imG {e : Expr} {t t' : TG} (h : PG X e t) (i : ∀ v σ H Q, t' v σ H Q → t v σ H Q) : PG X e t' := ⟨fun pins s σ H v u Q I r q => h.run pins s σ H v u Q I r (i v σ H Q q)⟩
theorem imGs {e : List Expr} {t t' : TGs} (h : PGs X e t) (i : ∀ v σ H Q, t' v σ H Q → t v σ H Q) : PGs X e t' := ⟨fun pins s σ H v u Q I r q => h.run pins s σ H v u Q I r (i v σ H Q q)⟩
theorem PostG.ref {K : PySem.W.Frag} {F H F1 H1 : Hp} {ι ι₁ : List Addr} {r : SR} {σ : L2.St} {L : List Nat} {Q : L2.St → Hp → Prop} (h : PostG K F H ι r σ L Q) (e : Ext F H ι F1 H1 ι₁) : PostG K F1 H1 ι₁ r σ L Q := by
  cases r with
  | nx s => exact fun F' H' ι' σ' r x o => h F' H' ι' σ' r (e.trans x) o
  | _ => exact h
theorem g_nm (hN : X.N.Nodup) (i : Nat) {x : Str} (hi : X.N[i]? = some x := by rfl) (hx : Loc X.env.scope x := by first | exact Or.inl rfl | exact Or.inr rfl) (hf : X.fn x = true ∨ X.env.scope.names.lookup x = some .local := by first | exact .inl rfl | exact .inr rfl | assumption) : G' X (.Name x pos) [i] (gNm i) :=
  imG (pg_name hN hi hx hf) fun v σ H Q ⟨F, ι, s, d, R, p, h⟩ => h F H ι _ (R.put i p) (.refl _ _ _) (.one σ i _)
theorem g_nil : Gs' X [] [] gNil' := imGs pgs_nil fun v σ H Q ⟨F, ι, s, d, R, p, h⟩ => by
  cases p with
  | nil => exact ⟨rfl, h F H ι σ R (.refl _ _ _) (.refl σ)⟩
  | cons _ _ => exact h.elim
theorem g_cons {e : Expr} {es : List Expr} {L M : List Nat} {f : VG} {g : VGs} (h1 : G' X e L f) (h2 : Gs' X es M g)
    (hs : (assignEach (e :: es) X.env).map (·.2) = assign e X.env :: (assignEach es X.env).map (·.2) := by rfl) : Gs' X (e :: es) (L ++ M) (gCons' f g) := by
  refine imGs (pgs_cons h1 h2 hs) fun v σ H Q ⟨F, ι, s, d, R, p, h⟩ => ?_
  cases p with
  | nil => exact h.elim
  | @cons v0 vs d0 ds p t =>
    refine ⟨v0, vs, rfl, F, ι, s, d0, R, p, ?_⟩
    unfold gCons' at h
    dsimp only at h
    cases q : f d0 s with
    | nx s1 =>
      rw [q] at h
      intro F' H' ι' σ' R' x o
      refine ⟨F', ι', s1, ds, R', t.mono x.sub x.grow, ?_⟩
      dsimp only at h
      cases q2 : g ds s1 with
      | nx s2 => rw [q2] at h; exact fun F2 H2 ι₂ σ2 R2 x2 o2 => h F2 H2 ι₂ σ2 R2 (x.trans x2) (o.app o2)
      | bk s2 => rw [q2] at h; exact h.elim
      | ct s2 => rw [q2] at h; exact h.elim
      | rt d s2 => rw [q2] at h; exact h.elim
      | exc C fs s2 => rw [q2] at h; exact h.elim
      | bad => rw [q2] at h; exact h.elim
    | bk s1 => rw [q] at h; exact h.elim
    | ct s1 => rw [q] at h; exact h.elim
    | rt d s1 => rw [q] at h; exact h.elim
    | exc C fs s1 => rw [q] at h; exact h.elim
    | bad => rw [q] at h; exact h.elim
theorem g_tup {es : List Expr} {k : Nat} {L : List Nat} {g : VGs} {n : Nat} (hc : X.calm = true) (h : Gs' X es L g)
    (hn : (assignEach es X.env).length = n := by rfl) (hst : (assignEach es X.env).findIdx? (·.1) = none := by rfl) : G' X (.Tuple es k pos) L (gTup' n g) := by
  refine imG (pg_tup hc h hn hst) fun v σ H Q ⟨F, ι, s, d, R, p, h⟩ => ?_
  cases p <;> first | exact h.elim | skip
  rename_i a vs ds hs r _
  unfold gTup' at h
  dsimp only at h
  split at h
  · rename_i hl
    exact ⟨a, vs, rfl, sqT_mono R.same hs, by rw [r.length]; exact hl, F, ι, s, ds, R, r, h⟩
  · exact h.elim
/-- target = value -/
def sAsg (g : VG) (f : VE) (s : S) : SR := (f s).bindS fun d s => match g d s with
  | .nx s => .nx s
  | _ => .bad
theorem s_asg {tg e : Expr} {L : List Nat} {f : VE} {g : VG} (he : E' X W e f) (hg : G' X tg L g) (hs : swapsWithSole [tg] e pos.line X.env = pure false := by rfl) (hw : swappedStores [tg] e X.env = pure none := by rfl)
    (h1 : (assignEach [tg] X.env).map (·.2) = [assign tg X.env] := by rfl) : S' X W (.Assign [tg] e pos) (sAsg g f) := by
  refine imS (ps_asg he hg hs hw h1) fun D σ H ⟨F, ι, s, R, h⟩ => ?_
  refine PostS.run R h fun F1 H1 ι₁ s1 v d R1 x1 q1 h1 => ?_
  refine ⟨F1, ι₁, s1, d, R1, q1, ?_⟩
  cases q : g d s1 with
  | nx s2 => rw [q] at h1; exact fun F' H' ι' σ' R' x _ => h1 F' H' ι' σ' R' x
  | _ => rw [q] at h1; exact h1.elim
end

/-! ### for over items that stand -/
def loopF (g : VG) (body : VS) : List D → S → SR
  | [], s => .nx s
  | d :: r, s => match g d s with
    | .nx s => (match body s with
      | .nx s => loopF g body r s
      | .ct s => loopF g body r s
      | .bk s => .nx s
      | .rt d s => .rt d s
      | .exc C fs s => .exc C fs s
      | .bad => .bad)
    | _ => .bad
/-- one turn of it -/
theorem loop_turn {K : PySem.W.Frag} {W : WX} {L : List Nat} {g : VG} {body : VS} {r : List D} {d : D} {v : V} {F H F0 H0 : Hp} {ι ι0 : List Addr} {s : S} {σ : L2.St} {Dn : Ends} {N : L2.St → Hp → Prop}
    (R : Rel K F H ι s σ) (x0 : Ext F0 H0 ι0 F H ι) (p : Rp K F ι v d) (h : PostS K W F0 H0 ι0 (loopF g body (d :: r) s) Dn)
    (hN : ∀ F' H' ι' s' σ', Rel K F' H' ι' s' σ' → Ext F0 H0 ι0 F' H' ι' → Ext F H ι F' H' ι' → PostS K W F0 H0 ι0 (loopF g body r s') Dn → N σ' H') :
    tGt K L g v σ H fun σ2 H2 => tS K W body { Dn with nx := N, ct := N, bk := Dn.nx } σ2 H2 := by
  refine ⟨F, ι, s, d, R, p, ?_⟩
  unfold loopF at h
  cases q : g d s with
  | nx s1 =>
    rw [q] at h
    dsimp only at h
    refine fun F1 H1 ι₁ σ1 R1 x1 _ => ⟨F1, ι₁, s1, R1, ?_⟩
    cases q2 : body s1 with
    | nx s2 => rw [q2] at h; exact fun F' H' ι' σ' R' x => hN F' H' ι' s2 σ' R' (x0.trans (x1.trans x)) (x1.trans x) h
    | ct s2 => rw [q2] at h; exact fun F' H' ι' σ' R' x => hN F' H' ι' s2 σ' R' (x0.trans (x1.trans x)) (x1.trans x) h
    | bk s2 => rw [q2] at h; exact fun F' H' ι' σ' R' x => h F' H' ι' σ' R' (x0.trans (x1.trans x))
    | rt d s2 => rw [q2] at h; exact fun F' H' ι' σ' v R' x z => h F' H' ι' σ' v R' (x0.trans (x1.trans x)) z
    | exc C fs s2 => rw [q2] at h; exact fun F' H' ι' σ' cls dx R' x z => h F' H' ι' σ' cls dx R' (x0.trans (x1.trans x)) z
    | bad => rw [q2] at h; exact h.elim
  | _ => rw [q] at h; exact h.elim
/-- what an iterator will yield, whatever is done meanwhile -/
def Items (K : PySem.W.Frag) (F1 : Hp) (ι₁ : List Addr) (J : It) (ds : List D) : Prop :=
  ∀ (i : Nat) F H ι s σ, Rel K F H ι s σ → Same F1 F → Grow ι₁ ι → (i < ds.length → J.go i H) ∧ (ds.length ≤ i → J.stop i H) ∧
    ∀ x H', J.yld i H x H' → i < ds.length → ∃ F' ι' d, Rel K F' H' ι' s σ ∧ Ext F H ι F' H' ι' ∧ ds[i]? = some d ∧ Rp K F' ι' x d
abbrev tI (K : PySem.W.Frag) (W : WX) (it : VA) : TI := tG K W (fun F ι (J : It) (ds : List D) => Items K F ι J ds) it
abbrev I' (X : Cx) (W : WX) (tg iter : Expr) (it : VA) : Prop := PI X tg iter (tI X.K W it)
theorem imI {X : Cx} {tg iter : Expr} {t t' : TI} (h : PI X tg iter t) (i : ∀ σ H Q, t' σ H Q → t σ H Q) : PI X tg iter t' := ⟨fun pins s σ H R I q => h.run pins s σ H R I (i σ H R q)⟩
def sFor (g : VG) (it : VA) (body : VS) (s : S) : SR := (it s).bindS fun ds s => loopF g body ds s
section
variable {X : Cx} {W : WX} {pos : Pos} {tg iter : Expr} {bs : List Stmt} {L : List Nat} {g : VG} {f : VE} {it : VA} {body : VS}
theorem s_for (hp : PassesOwn (model X.prog X.w) X.A X.env X.xe) (hc : X.calm = true) (hi : I' X W tg iter it) (hg : G' X tg L g) (hb : B' X W bs body)
    (hs : ∀ x, foldedSetIterable iter X.env x = pure x := by intro _; rfl) : S' X W (.For tg iter bs [] pos) (sFor g it body) := by
  refine imS (ps_for hp hc hi hg hb hs) fun Dn σ H ⟨F, ι, s, R, h⟩ => ?_
  refine PostS.run R h fun F1 H1 ι₁ s1 J ds R1 x1 q1 h1 => ?_
  let I : Nat → L2.St → Hp → Prop := fun i σ H => ∃ F ι s, Rel X.K F H ι s σ ∧ Ext F1 H1 ι₁ F H ι ∧ PostS X.K W F1 H1 ι₁ (loopF g body (ds.drop i) s) Dn
  refine ⟨fun i m σ H => m = ds.length - i ∧ i ≤ ds.length ∧ I i σ H, ⟨_, rfl, Nat.zero_le _, F1, ι₁, s1, R1, .refl _ _ _, h1⟩, ?_⟩
  rintro i m σ2 H2 ⟨rfl, hi, F, ι, s, R2, x2, h2⟩
  obtain ⟨go, st, yl⟩ := q1 i F H2 ι s σ2 R2 x2.sub x2.grow
  by_cases hlt : i < ds.length
  · refine .inr ⟨go hlt, I (i + 1), fun σ' H' p' => ⟨ds.length - (i + 1), by omega, rfl, hlt, p'⟩, fun x H' y => ?_⟩
    obtain ⟨F', ι', d, R', x', e1, e2⟩ := yl x H' y hlt
    have ed : ds.drop i = d :: ds.drop (i + 1) := by
      rw [List.drop_eq_getElem_cons hlt]
      rw [List.getElem?_eq_getElem hlt] at e1
      rw [Option.some.inj e1]
    rw [ed] at h2
    exact loop_turn R' (x2.trans x') e2 h2 fun F' H' ι' s' σ' R' x' _ h' => ⟨F', ι', s', R', x', h'⟩
  · have e : i = ds.length := by omega
    subst e
    refine .inl ⟨st (Nat.le_refl _), ?_⟩
    rw [List.drop_length] at h2
    exact h2 F H2 ι σ2 R2 x2
/-! what is walked -/
def itL (f : VE) (s : S) : Res (List D) := (f s).bind fun d s => match d with
  | .lst ds => .ok ds s
  | _ => .bad
def itT (f : VE) (s : S) : Res (List D) := (f s).bind fun d s => match d with
  | .tup ds => .ok ds s
  | _ => .bad
theorem i_list (he : E' X W iter f) : I' X W tg iter (itL f) := by
  refine imI (pi_list he) fun σ H Q ⟨F, ι, s, R, h⟩ => ?_
  refine Post.run R h fun F1 H1 ι₁ s1 v d R1 x1 q1 h1 => ?_
  cases q1 with
  | @lst a vs ds hs r =>
    refine ⟨a, rfl, ⟨vs, .of (R1.same _ _ hs)⟩, Post.fin h1 R1 fun i F2 H2 ι₂ s2 σ2 R2 sF gr => ?_⟩
    have hs2 : SqL X.K H2 a vs := .of (R2.same _ _ (sF _ _ hs))
    have hl := r.length
    refine ⟨fun hi => ?_, fun hi => ⟨vs, hs2, by omega⟩, fun x H' y hi => ?_⟩
    · exact ⟨vs, vs[i]'(by omega), hs2, List.getElem?_eq_getElem _⟩
    · obtain ⟨rfl, y⟩ := y
      obtain ⟨d, e1, e2⟩ := r.get' (y vs hs2)
      exact ⟨F2, ι₂, d, R2, .refl _ _ _, e1, e2.mono sF gr⟩
  | _ => exact h1.elim
theorem i_tup (he : E' X W iter f) : I' X W tg iter (itT f) := by
  refine imI (pi_tup he) fun σ H Q ⟨F, ι, s, R, h⟩ => ?_
  refine Post.run R h fun F1 H1 ι₁ s1 v d R1 x1 q1 h1 => ?_
  cases q1 with
  | @tup a vs ds hs r =>
    refine ⟨a, rfl, ⟨vs, sqT_mono R1.same hs⟩, Post.fin h1 R1 fun i F2 H2 ι₂ s2 σ2 R2 sF gr => ?_⟩
    have hs2 : SqT X.K H2 a vs := sqT_mono R2.same (sqT_mono sF hs)
    have hl := r.length
    refine ⟨fun hi => ?_, fun hi => ⟨vs, hs2, by omega⟩, fun x H' y hi => ?_⟩
    · exact ⟨vs, vs[i]'(by omega), hs2, List.getElem?_eq_getElem _⟩
    · obtain ⟨rfl, y⟩ := y
      obtain ⟨d, e1, e2⟩ := r.get' (y vs hs2)
      exact ⟨F2, ι₂, d, R2, .refl _ _ _, e1, e2.mono sF gr⟩
  | _ => exact h1.elim
/-- lo, lo + 1, .. -/
def rgD (lo : Int) (n : Nat) : List D := (List.range n).map fun i => .int (lo + (i : Nat))
def small62 (i : Int) : Prop := -(2 ^ 62) ≤ i ∧ i < 2 ^ 62
open Classical in
def itR1 (f : VA) (s : S) : Res (List D) := (f s).bind fun d s => match d with
  | [.int j] => if small62 j then .ok (rgD 0 j.toNat) s else .bad
  | _ => .bad
open Classical in
def itR2 (f : VA) (s : S) : Res (List D) := (f s).bind fun d s => match d with
  | [.int i, .int j] => if small62 i ∧ small62 j then .ok (rgD i (j - i).toNat) s else .bad
  | _ => .bad
def aNil (s : S) : Res (List D) := .ok [] s
def aCons (f : VE) (g : VA) (s : S) : Res (List D) := (f s).bind fun d s => (g s).bind fun ds s => .ok (d :: ds) s
theorem a_nil : A' X W [] aNil := imA pa_nil fun σ H Q ⟨F, ι, s, R, h⟩ => Post.fin h R .nil
theorem a_cons {a : Expr} {es : List Expr} {g : VA} (ha : E' X W a f) (hr : A' X W es g) (hs : starEach (a :: es) X.env = (false, eval a X.env) :: starEach es X.env := by rfl) : A' X W (a :: es) (aCons f g) := by
  refine imA (pa_cons ha hr hs) fun σ H Q ⟨F, ι, s, R, h⟩ => ?_
  refine Post.run R h fun F1 H1 ι₁ s1 v d R1 x1 q1 h1 => ?_
  refine Post.run R1 h1 fun F2 H2 ι₂ s2 w e R2 x2 q2 h2 => ?_
  exact Post.fin h2 R2 (.cons (q1.mono x2.sub x2.grow) q2)
theorem Rps.one_inv {K : PySem.W.Frag} {F : Hp} {ι : List Addr} {vs : List V} {d : D} (h : Rps K F ι vs [d]) : ∃ v, vs = [v] ∧ Rp K F ι v d := by
  cases h with
  | cons r t => cases t; exact ⟨_, rfl, r⟩
theorem Rps.two_inv {K : PySem.W.Frag} {F : Hp} {ι : List Addr} {vs : List V} {d e : D} (h : Rps K F ι vs [d, e]) : ∃ v w, vs = [v, w] ∧ Rp K F ι v d ∧ Rp K F ι w e := by
  cases h with
  | cons r t => obtain ⟨w, rfl, q⟩ := t.one_inv; exact ⟨_, w, rfl, r, q⟩
theorem items_rg {K : PySem.W.Frag} {F1 : Hp} {ι₁ : List Addr} {lo : Int} {n : Nat} : Items K F1 ι₁ (Itr lo n) (rgD lo n) := by
  intro i F2 H2 ι₂ s2 σ2 R2 sF gr
  have hl : (rgD lo n).length = n := by unfold rgD; rw [List.length_map, List.length_range]
  rw [hl]
  refine ⟨fun hi => hi, fun hi => hi, fun x H' y hi => ?_⟩
  obtain ⟨rfl, rfl⟩ := y
  exact ⟨F2, ι₂, .int (lo + (i : Nat)), R2, .refl _ _ _, by unfold rgD; rw [List.getElem?_map, List.getElem?_range hi]; rfl, .int _⟩
theorem i_rg1 {a : Expr} {p : Pos} {fa : VA} (hg : Gl X "range") (hm : X.mg "range" = none) (ha : A' X W [a] fa) (hs : starEach [a] X.env = [(false, eval a X.env)] := by rfl) : I' X W tg (.Call (.Name "range" p) [a] [] pos) (itR1 fa) := by
  refine imI (pi_range1 hg hm ha hs) fun σ H Q ⟨F, ι, s, R, h⟩ => ?_
  refine Post.run R h fun F1 H1 ι₁ s1 v d R1 x1 q1 h1 => ?_
  split at h1
  · rename_i j
    obtain ⟨w, rfl, r⟩ := q1.one_inv
    cases r
    split at h1
    · rename_i hc
      exact ⟨j, rfl, hc.1, hc.2, Post.fin h1 R1 items_rg⟩
    · exact h1.elim
  · exact h1.elim
theorem i_rg2 {a b : Expr} {p : Pos} {fa : VA} (hg : Gl X "range") (hm : X.mg "range" = none) (ha : A' X W [a, b] fa) (hs : starEach [a, b] X.env = [(false, eval a X.env), (false, eval b X.env)] := by rfl) (hs2 : starEach [b] X.env = [(false, eval b X.env)] := by rfl) :
    I' X W tg (.Call (.Name "range" p) [a, b] [] pos) (itR2 fa) := by
  refine imI (pi_range2 hg hm ha hs hs2) fun σ H Q ⟨F, ι, s, R, h⟩ => ?_
  refine Post.run R h fun F1 H1 ι₁ s1 v d R1 x1 q1 h1 => ?_
  split at h1
  · rename_i i j
    obtain ⟨w, w', rfl, r, r'⟩ := q1.two_inv
    cases r
    cases r'
    split at h1
    · rename_i hc
      obtain ⟨⟨c1, c2⟩, c3, c4⟩ := hc
      exact ⟨i, j, rfl, ⟨c1, c2, c3, c4⟩, Post.fin h1 R1 items_rg⟩
    · exact h1.elim
  · exact h1.elim
end

/-! ### while -/
/-- n turns at most -/
def turns (c : VB) (body : VS) : Nat → S → Option SR
  | 0, _ => none
  | n + 1, s => match c s with
    | .ok true s => (match body s with
      | .nx s => turns c body n s
      | .ct s => turns c body n s
      | .bk s => some (.nx s)
      | .rt d s => some (.rt d s)
      | .exc C fs s => some (.exc C fs s)
      | .bad => some .bad)
    | .ok false s => some (.nx s)
    | .exc C fs s => some (.exc C fs s)
    | .bad => some .bad
theorem turns_more {c : VB} {body : VS} : ∀ {n : Nat} {s : S} {r : SR}, turns c body n s = some r → turns c body (n + 1) s = some r
  | 0, _, _, h => by cases h
  | n + 1, s, r, h => by
    unfold turns at h ⊢
    cases q : c s with
    | ok b s1 =>
      rw [q] at h
      cases b with
      | false => exact h
      | true =>
        dsimp only at h ⊢
        cases q2 : body s1 with
        | nx s2 => rw [q2] at h; exact turns_more h
        | ct s2 => rw [q2] at h; exact turns_more h
        | bk s2 => rw [q2] at h; exact h
        | rt d s2 => rw [q2] at h; exact h
        | exc C fs s2 => rw [q2] at h; exact h
        | bad => rw [q2] at h; exact h
    | exc C fs s1 => rw [q] at h; exact h
    | bad => rw [q] at h; exact h
theorem turns_le {c : VB} {body : VS} {n m : Nat} {s : S} {r : SR} (h : turns c body n s = some r) (hm : n ≤ m) : turns c body m s = some r := by
  obtain ⟨k, rfl⟩ := Nat.exists_eq_add_of_le hm
  clear hm
  induction k with
  | zero => exact h
  | succ k ih => exact turns_more ih
open Classical in
/-- as many turns as it takes; bad where it never ends -/
def sWhile (c : VB) (body : VS) (s : S) : SR := if h : ∃ n r, turns c body n s = some r then h.choose_spec.choose else .bad
theorem while_is {c : VB} {body : VS} {n : Nat} {s : S} {r : SR} (h : turns c body n s = some r) : sWhile c body s = r := by
  have hx : ∃ n r, turns c body n s = some r := ⟨n, r, h⟩
  unfold sWhile
  rw [dif_pos hx]
  have e := hx.choose_spec.choose_spec
  have e1 := turns_le e (Nat.le_max_left hx.choose n)
  have e2 := turns_le h (Nat.le_max_right hx.choose n)
  rw [e1] at e2
  exact Option.some.inj e2
/-- one turn of it -/
theorem while_eq (c : VB) (body : VS) (s : S) : sWhile c body s = match c s with
    | .ok true s => (match body s with
      | .nx s => sWhile c body s
      | .ct s => sWhile c body s
      | .bk s => .nx s
      | .rt d s => .rt d s
      | .exc C fs s => .exc C fs s
      | .bad => .bad)
    | .ok false s => .nx s
    | .exc C fs s => .exc C fs s
    | .bad => .bad := by
  have one : ∀ s1 : S, (∀ n r, turns c body n s1 = some r → ∃ m, turns c body m s = some r) → (∀ n r, turns c body (n + 1) s = some r → turns c body n s1 = some r) → sWhile c body s = sWhile c body s1 := fun s1 h1 h2 => by
    by_cases hx : ∃ n r, turns c body n s1 = some r
    · obtain ⟨n, r, h⟩ := hx
      obtain ⟨m, h'⟩ := h1 n r h
      rw [while_is h, while_is h']
    · have hy : ¬ ∃ n r, turns c body n s = some r := fun ⟨n, r, h⟩ => hx ⟨n, r, h2 n r (turns_more h)⟩
      unfold sWhile
      rw [dif_neg hx, dif_neg hy]
  cases q : c s with
  | ok b s1 =>
    cases b with
    | false => exact while_is (n := 1) (by unfold turns; rw [q])
    | true =>
      dsimp only
      cases q2 : body s1 with
      | nx s2 => exact one s2 (fun n r h => ⟨n + 1, by unfold turns; rw [q]; dsimp only; rw [q2]; exact h⟩) fun n r h => by unfold turns at h; rw [q] at h; dsimp only at h; rw [q2] at h; exact h
      | ct s2 => exact one s2 (fun n r h => ⟨n + 1, by unfold turns; rw [q]; dsimp only; rw [q2]; exact h⟩) fun n r h => by unfold turns at h; rw [q] at h; dsimp only at h; rw [q2] at h; exact h
      | bk s2 => exact while_is (n := 1) (by unfold turns; rw [q]; dsimp only; rw [q2])
      | rt d s2 => exact while_is (n := 1) (by unfold turns; rw [q]; dsimp only; rw [q2])
      | exc C fs s2 => exact while_is (n := 1) (by unfold turns; rw [q]; dsimp only; rw [q2])
      | bad => exact while_is (n := 1) (by unfold turns; rw [q]; dsimp only; rw [q2])
  | exc C fs s1 => exact while_is (n := 1) (by unfold turns; rw [q])
  | bad => exact while_is (n := 1) (by unfold turns; rw [q])
section
variable {X : Cx} {W : WX} {pos : Pos} {e : Expr} {bs : List Stmt} {c : VB} {body : VS}
theorem s_while (hp : PassesOwn (model X.prog X.w) X.A X.env X.xe) (hc : T' X W e c) (hb : B' X W bs body) : S' X W (.While e bs [] pos) (sWhile c body) := by
  refine imS (ps_while hp hc hb) fun Dn σ H ⟨F, ι, s, R, h⟩ => ?_
  let I : Nat → L2.St → Hp → Prop := fun m σ' H' => ∃ F' ι' s' r, Rel X.K F' H' ι' s' σ' ∧ Ext F H ι F' H' ι' ∧ turns c body m s' = some r ∧ PostS X.K W F H ι r Dn
  have hx : ∃ n r, turns c body n s = some r := by
    apply Classical.byContradiction
    intro hn
    unfold sWhile at h
    rw [dif_neg hn] at h
    exact h
  obtain ⟨n, r, hr⟩ := hx
  refine ⟨I, ⟨n, F, ι, s, r, R, .refl _ _ _, hr, by rw [← while_is hr]; exact h⟩, ?_⟩
  rintro m σ1 H1 ⟨F1, ι₁, s1, r1, R1, x1, e1, p1⟩
  cases m with
  | zero => cases e1
  | succ m =>
    refine ⟨F1, ι₁, s1, R1, ?_⟩
    unfold turns at e1
    cases q : c s1 with
    | ok b s2 =>
      rw [q] at e1
      cases b with
      | false =>
        cases e1
        intro F2 H2 ι₂ v R2 x2 e2
        subst e2
        exact iteF (p1 F2 H2 ι₂ σ1 R2 (x1.trans x2))
      | true =>
        intro F2 H2 ι₂ v R2 x2 e2
        subst e2
        refine iteT ⟨I m, fun σ' H' i' => ⟨m, Nat.lt_succ_self _, i'⟩, F2, ι₂, s2, R2, ?_⟩
        dsimp only at e1
        cases q2 : body s2 with
        | nx s3 => rw [q2] at e1; exact fun F' H' ι' σ' R' x' => ⟨F', ι', s3, r1, R', x1.trans (x2.trans x'), e1, p1⟩
        | ct s3 => rw [q2] at e1; exact fun F' H' ι' σ' R' x' => ⟨F', ι', s3, r1, R', x1.trans (x2.trans x'), e1, p1⟩
        | bk s3 => rw [q2] at e1; cases e1; exact fun F' H' ι' σ' R' x' => p1 F' H' ι' σ' R' (x1.trans (x2.trans x'))
        | rt d s3 => rw [q2] at e1; cases e1; exact fun F' H' ι' σ' v R' x' z => p1 F' H' ι' σ' v R' (x1.trans (x2.trans x')) z
        | exc C fs s3 => rw [q2] at e1; cases e1; exact fun F' H' ι' σ' cls dx R' x' z => p1 F' H' ι' σ' cls dx R' (x1.trans (x2.trans x')) z
        | bad => rw [q2] at e1; cases e1; exact p1.elim
    | exc C fs s2 =>
      rw [q] at e1
      cases e1
      exact fun F' H' ι' cls dx R' x' z => p1 F' H' ι' σ1 cls dx R' (x1.trans x') z
    | bad =>
      rw [q] at e1
      cases e1
      exact p1.elim
end
end
end VL

set_option Elab.async false
set_option linter.all false
set_option maxRecDepth 20000
/-! Displays, items, slices, calls, comprehensions, what a def promises. -/
namespace VL
open PySem PyProof.Rows PySem.Spec L2
noncomputable section

/-! ### new lists, tuples -/
/-- a new list: m: it will be changed -/
def newL (m : Bool) (ds : List D) (s : S) : Res D := if m = true then .ok (.ptr s.η.length) ⟨s.ρ, s.η ++ [.lst ds]⟩ else .ok (.lst ds) s
section
variable {K : PySem.W.Frag} {W : WX} {F H : Hp} {ι : List Addr} {s : S} {σ : L2.St} {Q : VK}
theorem new_lst {m : Bool} {vs : List V} {ds : List D} (R : Rel K F H ι s σ) (r : Rps K F ι vs ds) (h : PostE K W F H ι σ (newL m ds s) Q) : ∀ p, H p = none → Q (.ref p) (upd H p (.lst vs)) := fun p hp => by
  unfold newL at h
  cases m with
  | false =>
    rw [if_neg Bool.false_ne_true] at h
    obtain ⟨R', x⟩ := R.allocF (o := .lst vs) hp
    exact Post.fin' h R' x (.lst upd_same (r.mono x.sub (.refl ι)))
  | true =>
    rw [if_pos rfl] at h
    obtain ⟨R', x⟩ := R.allocM (o := .lst vs) (c := .lst ds) hp ⟨(R.new hp).1, vs, upd_same, r.mono (.refl F) (.app ι [p])⟩
    refine Post.fin' h R' x (.ptr ?_)
    rw [← R.ilen, List.getElem?_append_right (Nat.le_refl _), Nat.sub_self]
    rfl
theorem new_tup {vs : List V} {ds : List D} (R : Rel K F H ι s σ) (r : Rps K F ι vs ds) (h : PostE K W F H ι σ (.ok (.tup ds) s) Q) : ∀ p, H p = none → Q (.ref p) (upd H p (.tup vs)) := fun p hp => by
  obtain ⟨R', x⟩ := R.allocF (o := .tup vs) hp
  exact Post.fin' h R' x (.tup (.of upd_same) (r.mono x.sub (.refl ι)))
end
open Classical in
def eTup (f : VA) (s : S) : Res D := (f s).bind fun ds s => if ds.length ≤ sizeLine then .ok (.tup ds) s else .bad
open Classical in
def eLst (m : Bool) (f : VA) (s : S) : Res D := (f s).bind fun ds s => if ds.length ≤ sizeLine then newL m ds s else .bad
section
variable {X : Cx} {W : WX} {pos : Pos} {es : List Expr} {f : VA}
theorem v_tup {k} (h : A' X W es f) : E' X W (.Tuple es k pos) (eTup f) := by
  refine imE (pe_tup h) fun σ H Q ⟨F, ι, s, R, h⟩ => ?_
  refine Post.run R h fun F1 H1 ι₁ s1 vs ds R1 x1 q1 h1 => ?_
  split at h1
  · rename_i hl
    exact ⟨by rw [q1.length]; exact hl, new_tup R1 q1 h1⟩
  · exact h1.elim
theorem v_lst (m : Bool) (h : A' X W es f) : E' X W (.List es pos) (eLst m f) := by
  refine imE (pe_lst h) fun σ H Q ⟨F, ι, s, R, h⟩ => ?_
  refine Post.run R h fun F1 H1 ι₁ s1 vs ds R1 x1 q1 h1 => ?_
  split at h1
  · rename_i hl
    exact ⟨by rw [q1.length]; exact hl, new_lst R1 q1 h1⟩
  · exact h1.elim
end

/-! ### items, slices -/
theorem Rps.atI {K : PySem.W.Frag} {F : Hp} {ι : List Addr} {vs : List V} {ds : List D} {i : Int} {d : D} (r : Rps K F ι vs ds) (h : atI ds i = some d) : ∃ v, L2.atI vs i = some v ∧ Rp K F ι v d := by
  unfold L2.atI at h ⊢
  rw [r.length]
  cases e : ixN ds.length i with
  | none => rw [e] at h; cases h
  | some j =>
    rw [e] at h
    exact r.get h
open Classical in
def kIx (a b : D) (s : S) : Res D := match look s a, b with
  | .lst ds, .int i => (match atI ds i with
    | some d => .ok d s
    | none => .bad)
  | .tup ds, .int i => (match atI ds i with
    | some d => .ok d s
    | none => .bad)
  | .str z, .int i => if z.length ≤ sizeLine then (match atI z.cps.toList i with
    | some c => .ok (.str ⟨#[c]⟩) s
    | none => .bad) else .bad
  | _, _ => .bad
section
variable {X : Cx} {W : WX} {pos : Pos} {a b : Expr} {f g : VE}
theorem o_ix : Op2 X W (rIx X.K) kIx := by
  intro F H ι σ s v w a b Q R p q z
  have y := R.at p
  unfold kIx at z
  split at z
  · rename_i ds i e
    rw [e] at y
    cases q
    obtain ⟨t, vs, rfl, hs, r⟩ := y.lstD R.same
    split at z
    · rename_i d e2
      obtain ⟨u, e3, r3⟩ := r.atI e2
      exact .inl ⟨t, vs, i, u, rfl, rfl, .of hs, e3, Post.fin z R r3⟩
    · exact z.elim
  · rename_i ds i e
    rw [e] at y
    cases q
    obtain ⟨t, vs, rfl, hs, r⟩ := y.tupD R.same
    split at z
    · rename_i d e2
      obtain ⟨u, e3, r3⟩ := r.atI e2
      exact .inr (.inl ⟨t, vs, i, u, rfl, rfl, hs, e3, Post.fin z R r3⟩)
    · exact z.elim
  · rename_i x i e
    rw [e] at y
    cases q
    rw [y.strD]
    split at z
    · rename_i hl
      split at z
      · rename_i c e2
        exact .inr (.inr ⟨x, i, c, rfl, rfl, hl, e2, Post.fin z R (.str _)⟩)
      · exact z.elim
    · exact z.elim
  · exact z.elim
theorem v_ix (ha : E' X W a f) (hb : E' X W b g) (hs : PlainIx b := by intro _ _; rfl) : E' X W (.Subscript a b pos) (e2 kIx f g) :=
  imE (pe_ix ix_seq ha hb hs) fun σ H Q h => two_run h fun F H ι s v w a b R p q z => o_ix F H ι σ s v w a b Q R p q z
/-- a slice's part -/
def VO := S → Res (Option Int)
abbrev O' (X : Cx) (W : WX) (e : Option Expr) (f : S → Res (Option Int)) : Prop := PO X e (tG X.K W (fun _ _ (v : Option Int) (d : Option Int) => v = d) f)
def oNone (s : S) : Res (Option Int) := .ok none s
def oSome (f : VE) (s : S) : Res (Option Int) := (f s).bind fun d s => match d with
  | .int i => .ok (some i) s
  | _ => .bad
theorem imO {e : Option Expr} {t t' : TO} (h : PO X e t) (i : ∀ σ H Q, t' σ H Q → t σ H Q) : PO X e t' := ⟨fun pins s σ H Q I q => h.run pins s σ H Q I (i σ H Q q)⟩
theorem o_none : O' X W none oNone := imO po_none fun σ H Q ⟨F, ι, s, R, h⟩ => Post.fin h R rfl
theorem o_some (h : E' X W a f) : O' X W (some a) (oSome f) := by
  refine imO (po_some h) fun σ H Q ⟨F, ι, s, R, h⟩ => ?_
  refine Post.run R h fun F1 H1 ι₁ s1 v d R1 x1 q1 h1 => ?_
  cases q1 <;> first | exact h1.elim | exact ⟨_, rfl, Post.fin h1 R1 rfl⟩
def cutD {α : Type} (xs : List α) (lo hi : Option Int) : List α := (xs.drop (HT.sIx xs.length 0 lo)).take (HT.sIx xs.length xs.length hi - HT.sIx xs.length 0 lo)
theorem Rps.cut {K : PySem.W.Frag} {F : Hp} {ι : List Addr} {vs : List V} {ds : List D} (r : Rps K F ι vs ds) (lo hi : Option Int) : Rps K F ι (cutV vs lo hi) (cutD ds lo hi) := by
  unfold cutV cutD
  rw [r.length]
  exact (r.drop _).take _
open Classical in
def kSl (m : Bool) (a : D) (lo hi : Option Int) (s : S) : Res D := match look s a with
  | .lst ds => newL m (cutD ds lo hi) s
  | .scr ds => newL m (cutD ds lo hi) s
  | .str z => if z.length ≤ sizeLine then .ok (.str (cutS z lo hi)) s else .bad
  | .tup ds => if (cutD ds lo hi).length < ds.length then .ok (.tup (cutD ds lo hi)) s else .bad
  | _ => .bad
def eSl (m : Bool) (f : VE) (l h : S → Res (Option Int)) (s : S) : Res D := (f s).bind fun d s => (l s).bind fun lo s => (h s).bind fun hi s => kSl m d lo hi s
abbrev rSl3 (K : PySem.W.Frag) : V → Option Int → Option Int → Hp → VK → Prop := fun x lo hi H Q => rSlL K x lo hi H Q ∨ (rSlS x lo hi H Q ∨ rSlT K x lo hi H Q)
theorem v_sl (m : Bool) {lo hi : Option Expr} {p2 : Pos} {l h : S → Res (Option Int)} (ha : E' X W a f) (hl : O' X W lo l) (hh : O' X W hi h) : E' X W (.Subscript a (.Slice lo hi none p2) pos) (eSl m f l h) := by
  refine imE (pe_slice (sl_list.or (sl_str.or sl_tup)) ha hl hh) fun σ H Q ⟨F, ι, s, R, z⟩ => ?_
  refine Post.run R z fun F1 H1 ι₁ s1 v d R1 x1 q1 h1 => ?_
  refine Post.run R1 h1 fun F2 H2 ι₂ s2 lo' lo R2 x2 q2 h2 => ?_
  refine Post.run R2 h2 fun F3 H3 ι₃ s3 hi' hi R3 x3 q3 h3 => ?_
  subst q2 q3
  have x23 := x2.trans x3
  have y := R3.at (q1.mono x23.sub x23.grow)
  unfold kSl at h3
  split at h3
  · rename_i ds e
    rw [e] at y
    obtain ⟨t, vs, rfl, hs, r⟩ := y.lstD R3.same
    exact .inl ⟨t, vs, rfl, .of hs, new_lst R3 (r.cut _ _) h3⟩
  · rename_i ds e
    rw [e] at y
    obtain ⟨t, vs, rfl, hs, r⟩ := y.scrD R3.same
    exact .inl ⟨t, vs, rfl, hs, new_lst R3 (r.cut _ _) h3⟩
  · rename_i x e
    rw [e] at y
    rw [y.strD]
    split at h3
    · rename_i hl
      exact .inr (.inl ⟨x, rfl, hl, Post.fin h3 R3 (.str _)⟩)
    · exact h3.elim
  · rename_i ds e
    rw [e] at y
    obtain ⟨t, vs, rfl, hs, r⟩ := y.tupD R3.same
    split at h3
    · rename_i hlt
      have hr := r.cut lo' hi'
      refine .inr (.inr ⟨t, vs, rfl, hs, ?_⟩)
      have hlt2 : (cutV vs lo' hi').length < vs.length := by rw [hr.length, r.length]; exact hlt
      exact ⟨fun ⟨c1, c2⟩ => absurd hlt2 (by unfold cutV; rw [c1, c2]; simp), new_tup R3 hr h3⟩
    · exact h3.elim
  · exact h3.elim
end

/-! ### built-in functions and methods -/
/-- what a built-in gives for data -/
def OpN (X : Cx) (W : WX) (r : List V → Hp → VK → Prop) (k : List D → S → Res D) : Prop := ∀ F H ι σ s vs ds Q, Rel X.K F H ι s σ → Rps X.K F ι vs ds → PostE X.K W F H ι σ (k ds s) Q → r vs H Q
def eCall (k : List D → S → Res D) (f : VA) (s : S) : Res D := (f s).bind k
section
variable {X : Cx} {W : WX} {pos p : Pos} {x : Str} {e : Expr} {es : List Expr} {f : VA} {id T : String} {r : List V → Hp → VK → Prop} {k : List D → S → Res D}
theorem v_callB (hc : CallR X (.builtin id) r) (hk : OpN X W r k) (hm : X.mg x = none) (ha : A' X W (e :: es) f) (hg : Gl X x := by rfl) (hv : bootBuiltins x = some (.builtin id) := by decide +kernel) (hn : x ≠ "__name__" := by decide) (hdb : (x == ("__debug__" : Str)) = false := by decide)
    (he : starEach (e :: es) X.env = (false, eval e X.env) :: starEach es X.env := by rfl) (hpl : (backTo pos (starEach es X.env)).any (·.1) = false := by rfl) : E' X W (.Call (.Name x p) (e :: es) [] pos) (eCall k f) := by
  refine imE (pe_callB hc hg hm hv ha hn hdb he hpl) fun σ H Q ⟨F, ι, s, R, z⟩ => ?_
  exact Post.run R z fun F1 H1 ι₁ s1 vs ds R1 x1 q1 h1 => hk F1 H1 ι₁ σ s1 vs ds Q R1 q1 h1
theorem v_callTy (hc : CallR X (.type T) r) (hk : OpN X W r k) (hm : X.mg x = none) (ha : A' X W (e :: es) f) (hg : Gl X x := by rfl) (hv : bootBuiltins x = some (.type T) := by decide +kernel) (hn : x ≠ "__name__" := by decide) (hdb : (x == ("__debug__" : Str)) = false := by decide)
    (he : starEach (e :: es) X.env = (false, eval e X.env) :: starEach es X.env := by rfl) (hpl : (backTo pos (starEach es X.env)).any (·.1) = false := by rfl) : E' X W (.Call (.Name x p) (e :: es) [] pos) (eCall k f) := by
  refine imE (pe_callTy hc hg hm hv ha hn hdb he hpl) fun σ H Q ⟨F, ι, s, R, z⟩ => ?_
  exact Post.run R z fun F1 H1 ι₁ s1 vs ds R1 x1 q1 h1 => hk F1 H1 ι₁ σ s1 vs ds Q R1 q1 h1
end
open Classical in
def kLen (ds : List D) (s : S) : Res D := match ds with
  | [d] => (match look s d with
    | .lst xs => .ok (.int xs.length) s
    | .scr xs => .ok (.int xs.length) s
    | .tup xs => .ok (.int xs.length) s
    | .str z => if z.length ≤ sizeLine then .ok (.int z.length) s else .bad
    | _ => .bad)
  | _ => .bad
def kAbs (ds : List D) (s : S) : Res D := match ds with
  | [.int i] => .ok (.int (if i < 0 then -i else i)) s
  | _ => .bad
def kMax2 (ds : List D) (s : S) : Res D := match ds with
  | [.int i, .int j] => .ok (.int (if j > i then j else i)) s
  | _ => .bad
def kMin2 (ds : List D) (s : S) : Res D := match ds with
  | [.int i, .int j] => .ok (.int (if j < i then j else i)) s
  | _ => .bad
def kIntOf (ds : List D) (s : S) : Res D := match ds with
  | [.int i] => .ok (.int i) s
  | [.bl b] => .ok (.int (if b then 1 else 0)) s
  | _ => .bad
section
variable {X : Cx} {W : WX} {pos p : Pos} {e : Expr} {es : List Expr} {f : VA}
theorem o_len : OpN X W (fun xs H Q => ∃ x n, xs = [x] ∧ LenV X.K x H n ∧ Q (.int n) H) kLen := by
  intro F H ι σ s vs ds Q R q z
  unfold kLen at z
  split at z
  · rename_i d
    obtain ⟨v, rfl, q1⟩ := q.one_inv
    have y := R.at q1
    split at z
    · rename_i xs e
      rw [e] at y
      obtain ⟨t, vs, rfl, hs, r⟩ := y.lstD R.same
      exact ⟨_, xs.length, rfl, .inl ⟨vs, .of hs, r.length.symm⟩, Post.fin z R (.int _)⟩
    · rename_i xs e
      rw [e] at y
      obtain ⟨t, vs, rfl, hs, r⟩ := y.scrD R.same
      exact ⟨_, xs.length, rfl, .inl ⟨vs, hs, r.length.symm⟩, Post.fin z R (.int _)⟩
    · rename_i xs e
      rw [e] at y
      obtain ⟨t, vs, rfl, hs, r⟩ := y.tupD R.same
      exact ⟨_, xs.length, rfl, .inr ⟨vs, hs, r.length.symm⟩, Post.fin z R (.int _)⟩
    · rename_i x e
      rw [e] at y
      rw [y.strD]
      split at z
      · rename_i hl
        exact ⟨_, x.length, rfl, ⟨hl, rfl⟩, Post.fin z R (.int _)⟩
      · exact z.elim
    · exact z.elim
  · exact z.elim
theorem v_len (hm : X.mg "len" = none) (ha : A' X W [e] f) (hg : Gl X "len" := by rfl) (he : starEach [e] X.env = (false, eval e X.env) :: starEach [] X.env := by rfl) : E' X W (.Call (.Name "len" p) [e] [] pos) (eCall kLen f) := v_callB call_len o_len hm ha hg (he := he)
theorem v_abs (hm : X.mg "abs" = none) (ha : A' X W [e] f) (hg : Gl X "abs" := by rfl) (he : starEach [e] X.env = (false, eval e X.env) :: starEach [] X.env := by rfl) : E' X W (.Call (.Name "abs" p) [e] [] pos) (eCall kAbs f) := by
  refine v_callB call_abs (fun F H ι σ s vs ds Q R q z => ?_) hm ha hg (he := he)
  unfold kAbs at z
  split at z
  · obtain ⟨v, rfl, q1⟩ := q.one_inv
    cases q1
    exact ⟨_, rfl, Post.fin z R (.int _)⟩
  · exact z.elim
theorem v_max2 {e2 : Expr} (hc : X.calm = true) (hm : X.mg "max" = none) (ha : A' X W [e, e2] f) (hg : Gl X "max" := by rfl) (he : starEach [e, e2] X.env = (false, eval e X.env) :: starEach [e2] X.env := by rfl) (hpl : (backTo pos (starEach [e2] X.env)).any (·.1) = false := by rfl) : E' X W (.Call (.Name "max" p) [e, e2] [] pos) (eCall kMax2 f) := by
  refine v_callB (call_max2 hc) (fun F H ι σ s vs ds Q R q z => ?_) hm ha hg (he := he) (hpl := hpl)
  unfold kMax2 at z
  split at z
  · obtain ⟨v, w, rfl, q1, q2⟩ := q.two_inv
    cases q1
    cases q2
    exact ⟨_, _, rfl, Post.fin z R (.int _)⟩
  · exact z.elim
theorem v_min2 {e2 : Expr} (hc : X.calm = true) (hm : X.mg "min" = none) (ha : A' X W [e, e2] f) (hg : Gl X "min" := by rfl) (he : starEach [e, e2] X.env = (false, eval e X.env) :: starEach [e2] X.env := by rfl) (hpl : (backTo pos (starEach [e2] X.env)).any (·.1) = false := by rfl) : E' X W (.Call (.Name "min" p) [e, e2] [] pos) (eCall kMin2 f) := by
  refine v_callB (call_min2 hc) (fun F H ι σ s vs ds Q R q z => ?_) hm ha hg (he := he) (hpl := hpl)
  unfold kMin2 at z
  split at z
  · obtain ⟨v, w, rfl, q1, q2⟩ := q.two_inv
    cases q1
    cases q2
    exact ⟨_, _, rfl, Post.fin z R (.int _)⟩
  · exact z.elim
theorem v_intOf (hm : X.mg "int" = none) (ha : A' X W [e] f) (hg : Gl X "int" := by rfl) (he : starEach [e] X.env = (false, eval e X.env) :: starEach [] X.env := by rfl) : E' X W (.Call (.Name "int" p) [e] [] pos) (eCall kIntOf f) := by
  refine v_callTy call_int1 (fun F H ι σ s vs ds Q R q z => ?_) hm ha hg (he := he)
  unfold kIntOf at z
  split at z
  · obtain ⟨v, rfl, q1⟩ := q.one_inv
    cases q1
    exact .inl ⟨_, rfl, Post.fin z R (.int _)⟩
  · obtain ⟨v, rfl, q1⟩ := q.one_inv
    cases q1
    exact .inr ⟨_, rfl, Post.fin z R (.int _)⟩
  · exact z.elim
end
/-- a built-in type's method -/
def eMeth (k : D → List D → S → Res D) (f : VE) (g : VA) (s : S) : Res D := (f s).bind fun d s => (g s).bind fun ds s => k d ds s
open Classical in
def kApp (d : D) (ds : List D) (s : S) : Res D := match d, ds with
  | .ptr j, [x] => (match s.η[j]? with
    | some (.lst xs) => if xs.length < sizeLine then .ok .non ⟨s.ρ, s.η.set j (.lst (xs ++ [x]))⟩ else .bad
    | _ => .bad)
  | _, _ => .bad
def eApp (f : VE) (g : VA) (s : S) : Res D := (f s).bind fun d s => match look s d with
  | .lst _ => (g s).bind fun ds s => kApp d ds s
  | _ => .bad
section
variable {K : PySem.W.Frag} {W : WX} {F H : Hp} {ι : List Addr} {s : S} {σ : L2.St}
theorem Rel.cellL (R : Rel K F H ι s σ) {v : V} {j : Nat} {xs : List D} (p : Rp K F ι v (.ptr j)) (e : s.η[j]? = some (.lst xs)) : ∃ a vs, v = .ref a ∧ ι[j]? = some a ∧ F a = none ∧ H a = some (.lst vs) ∧ Rps K F ι vs xs := by
  cases p with
  | ptr q =>
    obtain ⟨n, vs, h, r⟩ := R.cell j _ _ q e
    exact ⟨_, vs, rfl, q, n, h, r⟩
end
section
variable {X : Cx} {W : WX} {pos apos : Pos} {o e : Expr} {f : VE} {g : VA}
/-- xs.append(e): xs a cell -/
theorem v_app (ho : E' X W o f) (ha : A' X W [e] g) (hbase : attributeBase o "append" X.env (eval o X.env) = eval o X.env := by rfl)
    (hfew : ((backTo pos (starEach [e] X.env)).all (fun x => !x.1) && (backToKw pos (keywordEach [] X.env)).all (fun x => x.1.isSome)
      && decide (([e] : List Expr).length + ([] : List Keyword).length + (if ([] : List Keyword).isEmpty then 0 else 1) < 30)) = true := by rfl)
    (hline : (apos.endLine == pos.line) = true := by rfl) (hs : starEach [e] X.env = (false, eval e X.env) :: starEach [] X.env := by rfl) (hplain : (backTo pos (starEach [] X.env)).any (·.1) = false := by rfl) :
    E' X W (.Call (.Attribute o "append" apos) [e] [] pos) (eApp f g) := by
  refine imE (pe_bm PySem.F.plainAttrs_list PySem.F.slot_list_append PySem.F.type_list_append mt_append ho ha hbase hfew hline hs hplain) fun σ H Q ⟨F, ι, s, R, z⟩ => ?_
  refine Post.run R z fun F1 H1 ι₁ s1 v d R1 x1 q1 h1 => ?_
  have y := R1.at q1
  split at h1
  · rename_i xs0 e0
    rw [e0] at y
    obtain ⟨t, vs0, rfl, hs0, r0⟩ := y.lstD R1.same
    refine ⟨.inl ⟨rfl, vs0, .of hs0⟩, ?_⟩
    refine Post.run R1 h1 fun F2 H2 ι₂ s2 vs ds R2 x2 q2 h2 => ?_
    unfold kApp at h2
    split at h2
    · rename_i j x
      obtain ⟨w, rfl, q3⟩ := q2.one_inv
      split at h2
      · rename_i xs e
        obtain ⟨a, us, e1, hj, hF, hH, r⟩ := R2.cellL (q1.mono x2.sub x2.grow) e
        cases e1
        split at h2
        · rename_i hl
          refine ⟨t, us, w, rfl, rfl, hH, by rw [r.length]; exact hl, ?_⟩
          obtain ⟨R', x'⟩ := R2.write (o := .lst (us ++ [w])) (c' := .lst (xs ++ [x])) hj hF ⟨hF, _, upd_same, r.app (Rps.one q3)⟩
          exact Post.fin' h2 R' x' .non
        · exact h2.elim
      · exact h2.elim
    · exact h2.elim
  · exact h1.elim
end

end
end VL

set_option Elab.async false
set_option linter.all false
set_option maxRecDepth 20000
/-! Calls of the text's own defs; what a def promises; raise. -/
namespace VL
open PySem PyProof.Rows PySem.Spec L2
noncomputable section

/-! ### a def that changes nothing of its caller's -/
inductive Out where
  | ok (d : D) | exc (C : Str) (fs : List (Str × D)) | bad
abbrev PF := List D → Out
section
variable (K : PySem.W.Frag)
structure Kept (F H F' H' : Hp) : Prop where
  sF : Same F F'
  sH : Same H H'
  sm : Same F' H'
  fr : ∀ a o, F' a = some o → F a = none → H a = none
def PostF (F H : Hp) (r : Out) (Q : VK) (E : XK) : Prop := match r with
  | .ok d => ∀ F' H' v, Kept F H F' H' → Rp K F' [] v d → Q v H'
  | .exc C fs => ∀ F' H' cls dx, Kept F H F' H' → ExcAt K F' H' [] C fs cls dx → E cls dx H'
  | .bad => False
/-- called with data it answers as G says -/
def spP (n : Nat) (G : PF) : Sp := fun vs H Q E => ∃ ds F, ds.length = n ∧ Same F H ∧ Rps K F [] vs ds ∧ PostF K F H (G ds) Q E
end
def runP (n : Nat) (g : VS) (ds : List D) : Out := match g ⟨ds.map some ++ List.replicate (n - ds.length) none, []⟩ with
  | .nx _ => .ok .non
  | .rt d _ => if d.pf = true then .ok d else .bad
  | .exc C fs _ => if pfF fs = true then .exc C fs else .bad
  | _ => .bad
section
variable {K : PySem.W.Frag} {F H F' H' : Hp} {ι : List Addr} {s : S} {σ : L2.St}
theorem Ext.kept (x : Ext F H [] F' H' ι) (R : Rel K F' H' ι s σ) : Kept F H F' H' := ⟨x.sub, fun b o e => x.kp b o e (by simp), R.same, fun a o e n => by
  rcases x.fr a o e n with z | z
  · exact z
  · cases z⟩
theorem Rel.afterK (R : Rel K F H ι s σ) (k : Kept F H F' H') : Rel K F' H' ι s σ ∧ Ext F H ι F' H' ι := by
  obtain ⟨R', x⟩ := R.after k.sF k.sH k.sm k.fr
  refine ⟨R', x fun a n => ?_⟩
  cases q : H a with
  | none => rfl
  | some o => rw [k.sH a o q] at n; cases n
theorem grow_nil : Grow [] ι := fun k a h => by simp at h
theorem ExcAt.free {C : Str} {fs : List (Str × D)} {cls : Value} {dx : Option Addr} (κ : List Addr) (h : ExcAt K F H ι C fs cls dx) (p : pfF fs = true) : ExcAt K F H κ C fs cls dx := by
  obtain ⟨e, z⟩ := h
  refine ⟨e, z.imp id fun ⟨n, a, fv, e1, e2, r⟩ => ⟨n, a, fv, e1, e2, r.free κ p⟩⟩
theorem ExcAt.grow {C : Str} {fs : List (Str × D)} {cls : Value} {dx : Option Addr} {κ : List Addr} (h : ExcAt K F H ι C fs cls dx) (g : Grow ι κ) : ExcAt K F H κ C fs cls dx := by
  obtain ⟨e, z⟩ := h
  refine ⟨e, z.imp id fun ⟨n, a, fv, e1, e2, r⟩ => ⟨n, a, fv, e1, e2, r.mono (.refl F) g⟩⟩
/-- a def's entry -/
theorem Rel.entry {N : List Str} {vs : List V} {ds : List D} (e : Same F H) (r : Rps K F [] vs ds) (hl : ds.length ≤ N.length) : Rel K F H [] ⟨ds.map some ++ List.replicate (N.length - ds.length) none, []⟩ (L2.start N vs) := by
  have hlen := r.length
  refine ⟨e, fun i d q => ?_, ?_, rfl, fun k a c q => by simp at q, List.nodup_nil⟩
  · have q2 : (ds.map some ++ List.replicate (N.length - ds.length) none)[i]? = some (some d) := q
    have hi : i < ds.length := by
      apply Classical.byContradiction
      intro hn
      rw [List.getElem?_append_right (by simpa using hn), List.getElem?_replicate] at q2
      split at q2 <;> cases q2
    rw [List.getElem?_append_left (by simpa using hi), List.getElem?_map] at q2
    obtain ⟨d', e1, e2⟩ := Option.map_eq_some_iff.mp q2
    cases e2
    obtain ⟨v, e3, e4⟩ := r.get e1
    refine ⟨v, ?_, e4⟩
    unfold L2.start
    rw [List.getElem?_append_left (by rw [List.length_map]; omega), List.getElem?_map, e3]
    rfl
  · show (L2.start N vs).length = (ds.map some ++ List.replicate (N.length - ds.length) none).length
    unfold L2.start
    simp only [List.length_append, List.length_map, List.length_replicate]
    omega
end
section
variable {P : Program} {w : World} {K : PySem.W.Frag} {mg : Str → Option Value} {base : Heap} {x qual : Str} {params : Arguments} {body : List Stmt} {scope : Scope} {dvs : List V} {kws : List (Str × V)} {f : Addr} {fd : FuncData}
/-- the wish of a def's own body -/
abbrev wB (E : XK) : WX := fun cls d _ H => E cls d H
theorem tkB {N : List Str} {cdv : Value} {A : Around} {outer : List Env} {s : Shared} {H : Hp} {E : XK} : Takes (cxOf (L2.CX P w) P w K mg base N qual scope f cdv A outer s H E) (wB E) := takes_of rfl rfl rfl rfl
theorem ok_fn {N ps : List Str} {k : Nat} {g : VS} (D₀ : FunD K x qual params body scope dvs kws f fd) (S₀ : FnScope N ps scope)
    (hb : ∀ (cdv : Value) (A : Around) (outer : List Env) (s : Shared) (H : Hp) (E : XK), Room k (A.deeper (envOfC qual scope s.heap.objs.size f cdv)) → B' (cxOf (L2.CX P w) P w K mg base N qual scope f cdv A outer s H E) (wB E) body g) :
    FnOk P w K mg base (L2.CX P w) (k + 1) f fd ps (spP K ps.length (runP N.length g)) := by
  refine D₀.ok S₀ (fun vs H Q E h => ?_) (fun cdv A outer s H vs Q E hr h => ?_)
  · obtain ⟨ds, F, hl, _, r, _⟩ := h
    rw [r.length, hl]
  · obtain ⟨ds, F, hl, sm, r, p⟩ := h
    have hpl : ps.length ≤ N.length := by
      have := congrArg List.length S₀.pre
      rw [List.length_take] at this
      omega
    refine ⟨_, hb cdv A outer s H E hr, F, [], _, Rel.entry sm r (by omega), ?_⟩
    unfold runP at p
    generalize g ⟨ds.map some ++ List.replicate (N.length - ds.length) none, []⟩ = o at p
    cases o with
    | nx s' => exact fun F' H' ι' σ' R' x' => p F' H' .non (x'.kept R') .non
    | rt d s' =>
      dsimp only at p
      split at p
      · rename_i hp
        exact fun F' H' ι' σ' v R' x' q => p F' H' v (x'.kept R') (q.free [] hp)
      · exact p.elim
    | exc C fs s' =>
      dsimp only at p
      split at p
      · rename_i hp
        exact fun F' H' ι' σ' cls dx R' x' q => p F' H' cls dx (x'.kept R') (q.free [] hp)
      · exact p.elim
    | bk s' => exact p.elim
    | ct s' => exact p.elim
    | bad => exact p.elim
end
def callP (G : PF) (f : VA) (s : S) : Res D := (f s).bind fun ds s => if pfs ds = true then (match G ds with
  | .ok d => .ok d s
  | .exc C fs => .exc C fs s
  | .bad => .bad) else .bad
theorem pfs_app : ∀ {a b : List D}, pfs (a ++ b) = true → pfs a = true ∧ pfs b = true
  | [], b, h => ⟨rfl, h⟩
  | d :: a, b, h => by
    have h2 : (d.pf && pfs (a ++ b)) = true := h
    obtain ⟨h3, h4⟩ := and_t h2
    obtain ⟨h5, h6⟩ := pfs_app h4
    exact ⟨by show (d.pf && pfs a) = true; rw [h3, h5]; rfl, h6⟩
section
variable {X : Cx} {W : WX} {k n : Nat} {f : Addr} {fd : FuncData} {ps : List Str} {ds : List Value} {dvs : List V} {dds : List D} {x : Str} {p pos : Pos} {e : Expr} {es : List Expr} {fa : VA} {G : PF}
/-- f(e, ..); dds: the defaults that stand for what is not given -/
theorem v_callD (F₀ : FnOk X.prog X.w X.K X.mg X.base (L2.CX X.prog X.w) k f fd ps (spP X.K ps.length G)) (hr : Room k X.A) (hm : X.mg x = some (.ref f)) (hk : PySem.W.keepIn X.K (.ref f) = true) (hb : L2.Binds X.K fd ps ds) (hd : Vals dvs ds)
    (hdd : ∀ F, Rps X.K F [] dvs dds) (tk : Takes X W) (ha : A' X W (e :: es) fa) (hn : ∀ s ls s', fa s = .ok ls s' → (ls ++ dds).length = ps.length) (hg : Gl X x := by rfl)
    (hdb : (x == ("__debug__" : Str)) = false := by decide) (he : starEach (e :: es) X.env = (false, eval e X.env) :: starEach es X.env := by rfl) (hpl : (backTo pos (starEach es X.env)).any (·.1) = false := by rfl) :
    E' X W (.Call (.Name x p) (e :: es) [] pos) (callP (fun ls => G (ls ++ dds)) fa) := by
  refine imE (pe_callSD F₀ hr hg hm hk hb hd (passAt tk) ha hdb he hpl) fun σ H Q ⟨F, ι, s, R, z⟩ => ?_
  refine ⟨F, ι, s, R, ?_⟩
  have hz : PostE X.K W F H ι σ (callP (fun ls => G (ls ++ dds)) fa s) Q := z
  unfold callP at hz
  cases q : fa s with
  | ok ls s1 =>
    rw [q, bind_ok] at hz
    intro F1 H1 ι₁ vs R1 x1 q1
    have z1 := Post.ref hz x1
    split at z1
    · rename_i hp
      refine ⟨ls ++ dds, F1, hn s ls s1 q, R1.same, (q1.free [] hp).app (hdd F1), ?_⟩
      dsimp only at z1
      cases e : G (ls ++ dds) with
      | ok d =>
        rw [e] at z1
        intro F' H' v kp r
        obtain ⟨R', x'⟩ := R1.afterK kp
        exact Post.fin' z1 R' x' (r.mono (.refl F') grow_nil)
      | exc C fs =>
        rw [e] at z1
        intro F' H' cls dx kp r
        obtain ⟨R', x'⟩ := R1.afterK kp
        exact z1 F' H' ι₁ cls dx R' x' (r.grow grow_nil)
      | bad => rw [e] at z1; exact z1.elim
    · exact z1.elim
  | exc C fs s1 => rw [q, bind_exc] at hz; exact hz
  | bad => rw [q, bind_bad] at hz; exact hz
/-- how many arguments stand there -/
def ArgN (fa : VA) (n : Nat) : Prop := ∀ s ls s', fa s = .ok ls s' → ls.length = n
theorem argN_nil : ArgN aNil 0 := fun s ls s' h => by cases h; rfl
theorem argN_cons {fe : VE} {n : Nat} (h : ArgN fa n) : ArgN (aCons fe fa) (n + 1) := fun s ls s' q => by
  unfold aCons at q
  cases e1 : fe s with
  | ok d s1 =>
    rw [e1, bind_ok] at q
    cases e2 : fa s1 with
    | ok l2 s2 => rw [e2, bind_ok] at q; cases q; rw [List.length_cons, h _ _ _ e2]
    | exc C fs s2 => rw [e2] at q; cases q
    | bad => rw [e2] at q; cases q
  | exc C fs s1 => rw [e1] at q; cases q
  | bad => rw [e1] at q; cases q
theorem v_call (F₀ : FnOk X.prog X.w X.K X.mg X.base (L2.CX X.prog X.w) k f fd ps (spP X.K ps.length G)) (hr : Room k X.A) (hm : X.mg x = some (.ref f)) (hk : PySem.W.keepIn X.K (.ref f) = true) (hb : L2.Binds X.K fd ps [])
    (tk : Takes X W) (ha : A' X W (e :: es) fa) (hn : ArgN fa ps.length) (hg : Gl X x := by rfl)
    (hdb : (x == ("__debug__" : Str)) = false := by decide) (he : starEach (e :: es) X.env = (false, eval e X.env) :: starEach es X.env := by rfl) (hpl : (backTo pos (starEach es X.env)).any (·.1) = false := by rfl) :
    E' X W (.Call (.Name x p) (e :: es) [] pos) (callP G fa) := by
  have z := v_callD (p := p) (dds := []) F₀ hr hm hk hb .nil (fun _ => .nil) tk ha (fun s ls s' q => by rw [List.append_nil]; exact hn s ls s' q) hg hdb he hpl
  have e : callP (fun ls => G (ls ++ [])) fa = callP G fa := by
    unfold callP
    simp only [List.append_nil]
  rw [e] at z
  exact z
end

/-! ### raise X('..') -/
def sRaise (C : Str) (s : S) : SR := .exc C [] s
section
variable {X : Cx} {W : WX} {pos : Pos} {e : Expr}
theorem s_raise {C : Str} (hc : X.calm = true) (tk : Takes X W) (he : PMk X e (fun _ H Q => Q (.ref (He.ga X.K C)) none H)) : S' X W (.Raise (some e) none pos) (sRaise C) :=
  imS (ps_raise hc tk he) fun Dn σ H ⟨F, ι, s, R, z⟩ => z F H ι σ _ none R (.refl _ _ _) ⟨rfl, .inl ⟨rfl, rfl⟩⟩
end

/-! ### comprehensions -/
def wipeD (ρ : List (Option D)) : List Nat → List (Option D)
  | [] => ρ
  | v :: vs => (wipeD ρ vs).set v none
section
variable {K : PySem.W.Frag} {F H F' H' : Hp} {ι ι' : List Addr} {s s' : S} {σ σ' : L2.St}
theorem Rel.drop (R : Rel K F H ι s σ) (i : Nat) : Rel K F H ι ⟨s.ρ.set i none, s.η⟩ (σ.set i none) := by
  refine ⟨R.same, fun j e q => ?_, by simp [R.len], R.ilen, R.cell, R.inj⟩
  have q2 : (s.ρ.set i none)[j]? = some (some e) := q
  by_cases hj : j = i
  · subst hj
    have hl : j < s.ρ.length := by
      have h2 := (List.getElem?_eq_some_iff.mp q2).1
      simpa using h2
    rw [List.getElem?_set_self hl] at q2
    cases q2
  · rw [List.getElem?_set_ne (Ne.symm hj)] at q2
    obtain ⟨w, e1, e2⟩ := R.env j e q2
    exact ⟨w, by rw [List.getElem?_set_ne (Ne.symm hj)]; exact e1, e2⟩
theorem Rel.wiped (R : Rel K F H ι s σ) : ∀ vs : List Nat, Rel K F H ι ⟨wipeD s.ρ vs, s.η⟩ (wipe σ vs)
  | [] => R
  | v :: vs => (Rel.wiped R vs).drop v
/-- back to the names as they stood -/
theorem Rel.back (R : Rel K F H ι s σ) (x : Ext F H ι F' H' ι') (R' : Rel K F' H' ι' s' σ') : Rel K F' H' ι' ⟨s.ρ, s'.η⟩ σ := by
  refine ⟨R'.same, fun i d q => ?_, R.len, R'.ilen, R'.cell, R'.inj⟩
  obtain ⟨v, e1, e2⟩ := R.env i d q
  exact ⟨v, e1, e2.mono x.sub x.grow⟩
/-- an object of H that is neither data nor a cell changes -/
theorem Rel.aside (R : Rel K F H ι s σ) {p : Addr} {o : HO} (hF : F p = none) (hp : p ∉ ι) : Rel K F (upd H p o) ι s σ := by
  refine ⟨fun b u e => by rw [upd_ne (ne_of_none e hF)]; exact R.same b u e, R.env, R.len, R.ilen, fun k a c e1 e2 => ?_, R.inj⟩
  have ne : a ≠ p := fun z => hp (z ▸ List.mem_of_getElem? e1)
  exact (R.cell k a c e1 e2).move (.refl F) (.refl ι) (upd_ne ne) (fun q => q)
theorem Ext.aside {F0 H0 : Hp} {ι0 : List Addr} (x : Ext F0 H0 ι0 F H ι) {p : Addr} {o : HO} (h : H0 p = none) : Ext F0 H0 ι0 F (upd H p o) ι := by
  refine ⟨x.sub, x.grow, fun b u e n => ?_, x.fr, x.nw, fun a n => ?_⟩
  · rw [upd_ne (ne_of_none e h)]; exact x.kp b u e n
  · by_cases hb : a = p
    · subst hb; exact h
    · rw [upd_ne hb] at n; exact x.al a n
/-- it becomes data; it becomes a cell -/
theorem Rel.adoptF (R : Rel K F H ι s σ) {p : Addr} {o : HO} (hH : H p = some o) (hF : F p = none) (hp : p ∉ ι) : Rel K (upd F p o) H ι s σ := by
  have sF : Same F (upd F p o) := fun b u e => by rw [upd_ne (ne_of_none e hF)]; exact e
  refine ⟨fun b u e => ?_, fun i d e => ?_, R.len, R.ilen, fun k a c e1 e2 => ?_, R.inj⟩
  · by_cases hb : b = p
    · subst hb; rw [upd_same] at e; rw [hH]; exact e
    · rw [upd_ne hb] at e; exact R.same b u e
  · obtain ⟨v, q, r⟩ := R.env i d e
    exact ⟨v, q, r.mono sF (.refl ι)⟩
  · have ne : a ≠ p := fun z => hp (z ▸ List.mem_of_getElem? e1)
    exact (R.cell k a c e1 e2).move sF (.refl ι) rfl (fun q => by rw [upd_ne ne]; exact q)
theorem Ext.adoptF {F0 H0 : Hp} {ι0 : List Addr} (x : Ext F0 H0 ι0 F H ι) {p : Addr} {o : HO} (h : H0 p = none) (hF : F p = none) : Ext F0 H0 ι0 (upd F p o) H ι := by
  refine ⟨fun b u e => ?_, x.grow, x.kp, fun a u e n => ?_, x.nw, x.al⟩
  · have := x.sub b u e
    rw [upd_ne (ne_of_none this hF)]; exact this
  · by_cases hb : a = p
    · subst hb; exact .inl h
    · rw [upd_ne hb] at e; exact x.fr a u e n
theorem Rel.adoptM (R : Rel K F H ι s σ) {p : Addr} {c : Cell} (hp : p ∉ ι) (hc : CellOk K F H (ι ++ [p]) p c) : Rel K F H (ι ++ [p]) ⟨s.ρ, s.η ++ [c]⟩ σ := by
  have g := Grow.app ι [p]
  refine ⟨R.same, fun i d e => ?_, R.len, by simp [R.ilen], fun k a c' e1 e2 => ?_, ?_⟩
  · obtain ⟨v, q, r⟩ := R.env i d e
    exact ⟨v, q, r.mono (.refl F) g⟩
  · by_cases hk : k < ι.length
    · rw [List.getElem?_append_left hk] at e1
      rw [List.getElem?_append_left (by rw [← R.ilen]; exact hk)] at e2
      exact (R.cell k a c' e1 e2).move (.refl F) g rfl (fun q => q)
    · rw [List.getElem?_append_right (by omega)] at e1
      rw [List.getElem?_append_right (by rw [← R.ilen]; omega), ← R.ilen] at e2
      have hk0 : k - ι.length = 0 := by
        cases q : k - ι.length with
        | zero => rfl
        | succ n => rw [q] at e1; simp at e1
      rw [hk0] at e1 e2
      simp at e1 e2
      subst e1 e2
      exact hc
  · refine List.nodup_append.mpr ⟨R.inj, by simp, fun a ha b hb => ?_⟩
    have : b = p := by simpa using hb
    subst this
    exact fun z => hp (z ▸ ha)
theorem Ext.adoptM {F0 H0 : Hp} {ι0 : List Addr} (x : Ext F0 H0 ι0 F H ι) {p : Addr} (h : H0 p = none) : Ext F0 H0 ι0 F H (ι ++ [p]) := by
  refine ⟨x.sub, x.grow.trans (.app ι [p]), x.kp, x.fr, fun a m => ?_, x.al⟩
  rcases List.mem_append.mp m with m | m
  · exact x.nw a m
  · have : a = p := by simpa using m
    subst this
    exact .inr h
end
end
end VL

set_option Elab.async false
set_option linter.all false
set_option maxRecDepth 20000
/-! List comprehensions. -/
namespace VL
open PySem PyProof.Rows PySem.Spec L2
noncomputable section
open Classical in
def lcGo (g : VG) (tt : VB) (fe : VE) (ρ : List (Option D)) : List D → List D → List Cell → Res (List D)
  | [], acc, η => .ok acc ⟨ρ, η⟩
  | d :: r, acc, η => match g d ⟨ρ, η⟩ with
    | .nx s1 => (match tt s1 with
      | .ok true s2 => (match fe s2 with
        | .ok x s3 => if acc.length < sizeLine then lcGo g tt fe ρ r (acc ++ [x]) s3.η else .bad
        | _ => .bad)
      | .ok false s2 => lcGo g tt fe ρ r acc s2.η
      | _ => .bad)
    | _ => .bad
/-- [elt for target in iter if test]; vs: the slots of its own names -/
def eLc (m : Bool) (vs : List Nat) (g : VG) (it : VA) (tt : VB) (fe : VE) (s : S) : Res D := (it s).bind fun ds s1 => (lcGo g tt fe (wipeD s1.ρ vs) ds [] s1.η).bind fun acc s2 => newL m acc ⟨s1.ρ, s2.η⟩
def tYes' (s : S) : Res Bool := .ok true s
/-- nothing is raised in a block -/
abbrev W0 : WX := fun _ _ _ _ => False
abbrev Ts' (X : Cx) (W : WX) (ifs : List Expr) (f : VB) : Prop := PTs X ifs (tT X.K W f)
section
variable {X : Cx} {W : WX}
theorem imTs {ifs : List Expr} {t t' : TT} (h : PTs X ifs t) (i : ∀ σ H Q, t' σ H Q → t σ H Q) : PTs X ifs t' := ⟨fun pins s σ H Q I q => h.run pins s σ H Q I (i σ H Q q)⟩
theorem ts_nil : Ts' X W [] tYes' := imTs pts_nil fun σ H Q ⟨F, ι, s, R, h⟩ => Post.fin h R rfl
theorem ts_one {c : Expr} {f : VB} (h : T' X W c f) : Ts' X W [c] f := pts_one h
/-- the reading of a comprehension -/
theorem lc_run {m : Bool} {vs L : List Nat} {g : VG} {it : VA} {tt : VB} {fe : VE} {K : PySem.W.Frag} {σ : L2.St} {H : Hp} {Q : VK} (hL : ∀ i ∈ L, i ∈ vs) (h : tE K W (eLc m vs g it tt fe) σ H Q) :
    tLc (tI K W it) (tGt K L g) (tT K W0 tt) (tE K W0 fe) vs σ H Q := by
  obtain ⟨F, ι, s, R, h⟩ := h
  refine Post.run R h fun F1 H1 ι₁ s1 J ds R1 x1 q1 h1 => ?_
  intro D hD
  obtain ⟨hFD, hιD⟩ := R1.new hD
  let I : Nat → Hp → Prop := fun i H' => ∃ F' ι' η acc dacc, Rel K F' H' ι' ⟨wipeD s1.ρ vs, η⟩ (wipe σ vs) ∧ Ext F1 H1 ι₁ F' H' ι' ∧ F' D = none ∧ D ∉ ι' ∧ H' D = some (.lst acc) ∧ Rps K F' ι' acc dacc ∧
    PostE K W F1 H1 ι₁ σ ((lcGo g tt fe (wipeD s1.ρ vs) (ds.drop i) dacc η).bind fun acc s2 => newL m acc ⟨s1.ρ, s2.η⟩) Q
  refine ⟨fun i k H' => k = ds.length - i ∧ i ≤ ds.length ∧ I i H', ⟨_, rfl, Nat.zero_le _, F1, ι₁, s1.η, [], [], ?_, ?_, hFD, hιD, upd_same, .nil, h1⟩, ?_⟩
  · exact ((R1.wiped vs).aside hFD hιD)
  · exact (Ext.refl F1 H1 ι₁).aside hD
  rintro i k H2 ⟨rfl, hi, F2, ι₂, η, acc, dacc, R2, x2, f2, n2, e2, r2, p2⟩
  obtain ⟨go, st, yl⟩ := q1 i F2 H2 ι₂ _ _ R2 x2.sub x2.grow
  by_cases hlt : i < ds.length
  · refine .inr ⟨go hlt, I (i + 1), fun H' p' => ⟨ds.length - (i + 1), by omega, rfl, hlt, p'⟩, fun x H3 y => ?_⟩
    obtain ⟨F3, ι₃, d, R3, x3, ed, rd⟩ := yl x H3 y hlt
    have eds : ds.drop i = d :: ds.drop (i + 1) := by
      rw [List.drop_eq_getElem_cons hlt]
      rw [List.getElem?_eq_getElem hlt] at ed
      rw [Option.some.inj ed]
    rw [eds] at p2
    unfold lcGo at p2
    -- what stands aside stays aside
    have aside : ∀ {F H ι}, Ext F2 H2 ι₂ F H ι → F D = none ∧ D ∉ ι ∧ H D = some (.lst acc) := fun {F H ι} x => by
      refine ⟨?_, fun mm => ?_, x.kp D _ e2 n2⟩
      · cases q : F D with
        | none => rfl
        | some o =>
          rcases x.fr D o q f2 with z | z
          · rw [e2] at z; cases z
          · exact absurd z n2
      · rcases x.nw D mm with z | z
        · exact n2 z
        · rw [e2] at z; cases z
    refine ⟨F3, ι₃, _, d, R3, rd, ?_⟩
    cases qg : g d ⟨wipeD s1.ρ vs, η⟩ with
    | nx s4 =>
      rw [qg] at p2
      dsimp only at p2
      intro F4 H4 ι₄ σ4 R4 x4 o4
      refine ⟨?_, F4, ι₄, s4, R4, ?_⟩
      · have e := o4 vs hL
        have ww : ∀ (l : List Nat) (τ : L2.St), wipe (wipe τ l) l = wipe τ l := fun l => by
          induction l with
          | nil => intro τ; rfl
          | cons v l ih =>
            intro τ
            show (wipe ((wipe τ l).set v none) l).set v none = (wipe τ l).set v none
            by_cases hv : v ∈ l
            · rw [wipe_in hv, ih]
            · rw [wipe_over hv, ih, List.set_set]
        rw [e, ww]
      · cases qt : tt s4 with
        | ok b s5 =>
          rw [qt] at p2
          intro F5 H5 ι₅ b' R5 x5 eb
          subst eb
          have x25 := (x3.trans x4).trans x5
          cases b' with
          | false =>
            refine iteF ?_
            obtain ⟨a1, a2, a3⟩ := aside x25
            exact ⟨F5, ι₅, s5.η, acc, dacc, R2.back x25 R5, x2.trans x25, a1, a2, a3, r2.mono x25.sub x25.grow, p2⟩
          | true =>
            refine iteT ⟨F5, ι₅, s5, R5, ?_⟩
            dsimp only at p2
            cases qe : fe s5 with
            | ok y s6 =>
              rw [qe] at p2
              dsimp only at p2
              intro F6 H6 ι₆ v R6 x6 rv
              have x26 := x25.trans x6
              obtain ⟨a1, a2, a3⟩ := aside x26
              split at p2
              · rename_i hl
                refine ⟨acc, a3, by rw [r2.length]; exact hl, F6, ι₆, s6.η, acc ++ [v], dacc ++ [y], (R2.back x26 R6).aside a1 a2, (x2.trans x26).aside hD, a1, a2, upd_same, (r2.mono x26.sub x26.grow).app (Rps.one rv), p2⟩
              · exact p2.elim
            | exc C fs s6 => rw [qe] at p2; exact p2.elim
            | bad => rw [qe] at p2; exact p2.elim
        | exc C fs s5 => rw [qt] at p2; exact p2.elim
        | bad => rw [qt] at p2; exact p2.elim
    | bk s4 => rw [qg] at p2; exact p2.elim
    | ct s4 => rw [qg] at p2; exact p2.elim
    | rt d s4 => rw [qg] at p2; exact p2.elim
    | exc C fs s4 => rw [qg] at p2; exact p2.elim
    | bad => rw [qg] at p2; exact p2.elim
  · have ei : i = ds.length := by omega
    subst ei
    refine .inl ⟨st (Nat.le_refl _), ?_⟩
    rw [List.drop_length] at p2
    unfold lcGo at p2
    rw [bind_ok] at p2
    have R3 := R1.back x2 R2
    unfold newL at p2
    cases m with
    | false =>
      rw [if_neg Bool.false_ne_true] at p2
      have x3 : Ext F1 H1 ι₁ (upd F2 D (.lst acc)) H2 ι₂ := x2.adoptF hD f2
      refine Post.fin' p2 (R3.adoptF e2 f2 n2) x3 (.lst upd_same (r2.mono (fun b u e => ?_) (.refl ι₂)))
      rw [upd_ne (ne_of_none e f2)]
      exact e
    | true =>
      rw [if_pos rfl] at p2
      refine Post.fin' p2 (R3.adoptM (c := .lst dacc) n2 ⟨f2, acc, e2, r2.mono (.refl F2) (.app ι₂ [D])⟩) (x2.adoptM hD) (.ptr ?_)
      rw [← R3.ilen, List.getElem?_append_right (Nat.le_refl _), Nat.sub_self]
      rfl
variable {elt tg iter : Expr} {ifs : List Expr} {scope : Scope} {own : List (Str × Nat)} {pos spos : Pos} {L : List Nat} {g : VG} {it : VA} {tt : VB} {fe : VE}
theorem v_lc (m : Bool) (hc : X.calm = true) (hN : X.N.Nodup) (hi : I' X W tg iter it) (ok : BlkOk X.N X.env.scope scope own) (hL : ∀ i ∈ L, i ∈ own.map (·.2))
    (hg : ∀ (s : Shared) (H : Hp) (C : Addr) (cl : List (Str × Addr)) (fp : List Addr), G' (X.blk s H scope (compEnvC scope cl C X.env) fp) tg L g) (ht : ∀ (s : Shared) (H : Hp) (C : Addr) (cl : List (Str × Addr)) (fp : List Addr), Ts' (X.blk s H scope (compEnvC scope cl C X.env) fp) W0 ifs tt)
    (he : ∀ (s : Shared) (H : Hp) (C : Addr) (cl : List (Str × Addr)) (fp : List Addr), E' (X.blk s H scope (compEnvC scope cl C X.env) fp) W0 elt fe) (hs : ∀ x, foldedSetIterable iter X.env x = pure x := by intro _; rfl) :
    E' X W (.ListComp elt [⟨tg, iter, ifs, 0⟩] scope pos) (eLc m (own.map (·.2)) g it tt fe) :=
  imE (pe_lc (g := tGt X.K L g) (tt := tT X.K W0 tt) (te := tE X.K W0 fe) hc hN hi ok hg ht he hs) fun σ H Q h => lc_run hL h
/-- name = [..] -/
theorem s_setLc (m : Bool) {i : Nat} {y : Str} {py : Pos} (hc : X.calm = true) (hN : X.N.Nodup) (hyl : X.env.scope.names.lookup y = some .local) (hsw : swapsWith (.ListComp elt [⟨tg, iter, ifs, 0⟩] scope pos) (some (.Name y py)) spos.line X.env = pure true)
    (hi : I' X W tg iter it) (ok : BlkOk X.N X.env.scope scope own) (hL : ∀ i ∈ L, i ∈ own.map (·.2))
    (hg : ∀ (s : Shared) (H : Hp) (C : Addr) (cl : List (Str × Addr)) (fp : List Addr), G' (X.blk s H scope (compEnvC scope cl C X.env) fp) tg L g) (ht : ∀ (s : Shared) (H : Hp) (C : Addr) (cl : List (Str × Addr)) (fp : List Addr), Ts' (X.blk s H scope (compEnvC scope cl C X.env) fp) W0 ifs tt)
    (he : ∀ (s : Shared) (H : Hp) (C : Addr) (cl : List (Str × Addr)) (fp : List Addr), E' (X.blk s H scope (compEnvC scope cl C X.env) fp) W0 elt fe) (hy : X.N[i]? = some y := by rfl) (hs : ∀ x, foldedSetIterable iter X.env x = pure x := by intro _; rfl) :
    S' X W (.Assign [.Name y py] (.ListComp elt [⟨tg, iter, ifs, 0⟩] scope pos) spos) (sSet i (eLc m (own.map (·.2)) g it tt fe)) := by
  refine imS (ps_setLc (g := tGt X.K L g) (tt := tT X.K W0 tt) (te := tE X.K W0 fe) hc hN hy hyl hsw hi ok hg ht he hs) fun Dn σ H ⟨F, ι, s, R, h⟩ => ?_
  refine lc_run (m := m) (Q := fun x H1 => gName i x σ H1 Dn.nx) hL ⟨F, ι, s, R, ?_⟩
  exact Post.bindS h fun F1 H1 ι₁ s1 v d R1 x1 q1 h1 => h1 F1 H1 ι₁ _ (R1.put i q1) (.refl _ _ _)
end
end
end VL

set_option Elab.async false
set_option linter.all false
set_option maxRecDepth 20000
/-! Equality, membership, isinstance, sorted, more built-ins. -/
namespace VL
open PySem PyProof.Rows PySem.Spec L2
noncomputable section

/-! ### plain data -/
mutual
def D.py : D → Bool
  | .non => true
  | .bl _ => true
  | .int _ => true
  | .str _ => true
  | .tup xs => pys xs
  | .lst xs => pys xs
  | .scr xs => pys xs
  | _ => false
def pys : List D → Bool
  | [] => true
  | d :: ds => d.py && pys ds
end
mutual
def toPy : D → PyData
  | .bl b => .bool b
  | .int i => .int i
  | .str x => .str x
  | .tup xs => .tuple (toPys xs)
  | .lst xs => .list (toPys xs)
  | .scr xs => .list (toPys xs)
  | _ => .none
def toPys : List D → List PyData
  | [] => []
  | d :: ds => toPy d :: toPys ds
end
theorem toPys_map : ∀ ds : List D, toPys ds = ds.map toPy
  | [] => rfl
  | d :: ds => by rw [toPys, toPys_map ds]; rfl
section
variable {K : PySem.W.Frag} {F H : Hp} {ι : List Addr}
mutual
theorem Rp.dp (e : Same F H) : ∀ {v : V} {d : D}, Rp K F ι v d → d.py = true → Dp K H v (toPy d)
  | _, _, .non, _ => by rw [toPy] <;> first | exact Dp.non | (intros; exact D.noConfusion) | simp
  | _, _, .bl b, _ => by rw [toPy]; exact .bl b
  | _, _, .int i, _ => by rw [toPy]; exact .int i
  | _, _, .str x, _ => by rw [toPy]; exact .str x
  | _, _, .ty n, h => by rw [D.py] at h <;> first | cases h | simp
  | _, _, .tup s r, h => by rw [toPy]; rw [D.py] at h; exact .tup (sqT_mono e s) (Rps.dp e r h)
  | _, _, .lst s r, h => by rw [toPy]; rw [D.py] at h; exact .lst (.of (e _ _ s)) (Rps.dp e r h)
  | _, _, .scr s r, h => by rw [toPy]; rw [D.py] at h; exact .lst (sqL_mono e s) (Rps.dp e r h)
  | _, _, .dK s r, h => by rw [D.py] at h <;> first | cases h | simp
  | _, _, .dT s r, h => by rw [D.py] at h <;> first | cases h | simp
  | _, _, .obj s r, h => by rw [D.py] at h <;> first | cases h | simp
  | _, _, .ptr q, h => by rw [D.py] at h <;> first | cases h | simp
theorem Rps.dp (e : Same F H) : ∀ {v : List V} {d : List D}, Rps K F ι v d → pys d = true → DpAll K H v (toPys d)
  | _, _, .nil, _ => by rw [toPys]; exact .nil
  | _, _, .cons r t, h => by
    rw [toPys]
    rw [pys] at h
    exact .cons (Rp.dp e r (and_t h).1) (Rps.dp e t (and_t h).2)
end
theorem At.dp (e : Same F H) {v : V} {d : D} (h : At K F H ι v d) (p : d.py = true) : Dp K H v (toPy d) := by
  cases h with
  | sc h => exact h.dp e p
  | lst h r => rw [toPy]; rw [D.py] at p; exact .lst (.of h) (r.dp e p)
  | dK h r => rw [D.py] at p <;> first | cases p | simp
  | dT h r => rw [D.py] at p <;> first | cases p | simp
  | obj h r => rw [D.py] at p <;> first | cases p | simp
end
/-- fit for == -/
def okEq (d : D) : Bool := d.py && SeqAt.shaped (toPy d)
def kEq (a b : D) (s : S) : Res D := if (okEq (look s a) && okEq (look s b)) = true then .ok (.bl (PyData.eqv (toPy (look s a)) (toPy (look s b)))) s else .bad
def kNe (a b : D) (s : S) : Res D := if (okEq (look s a) && okEq (look s b)) = true then .ok (.bl (!PyData.eqv (toPy (look s a)) (toPy (look s b)))) s else .bad
/-- x in xs: xs a list of plain data, or a tuple of flat ones -/
def flatD : D → Bool
  | .non => true
  | .bl _ => true
  | .int _ => true
  | .str _ => true
  | _ => false
section
variable {X : Cx} {W : WX} {pos : Pos} {a b : Expr} {f g : VE}
theorem o_eq : Op2 X W (rEqD X.K) kEq := by
  intro F H ι σ s v w a b Q R p q z
  unfold kEq at z
  split at z
  · rename_i hc
    obtain ⟨h1, h2⟩ := and_t hc
    obtain ⟨h3, h4⟩ := and_t h1
    obtain ⟨h5, h6⟩ := and_t h2
    exact ⟨_, _, (R.at p).dp R.same h3, (R.at q).dp R.same h5, h4, h6, Post.fin z R (.bl _)⟩
  · exact z.elim
theorem o_ne : Op2 X W (rNeD X.K) kNe := by
  intro F H ι σ s v w a b Q R p q z
  unfold kNe at z
  split at z
  · rename_i hc
    obtain ⟨h1, h2⟩ := and_t hc
    obtain ⟨h3, h4⟩ := and_t h1
    obtain ⟨h5, h6⟩ := and_t h2
    exact ⟨_, _, (R.at p).dp R.same h3, (R.at q).dp R.same h5, h4, h6, Post.fin z R (.bl _)⟩
  · exact z.elim
theorem v_eq (hu : X.A.units + 64 < cLine) (ha : E' X W a f) (hb : E' X W b g) : E' X W (.Compare a [.Eq] [b] pos) (e2 kEq f g) := v_cmp (op_eqD hu) o_eq ha hb (nomark _)
theorem t_eq (hu : X.A.units + 64 < cLine) (ha : E' X W a f) (hb : E' X W b g) : T' X W (.Compare a [.Eq] [b] pos) (bOf (e2 kEq f g)) := t_cmp (op_eqD hu) o_eq ha hb (nomark _)
theorem v_ne (hu : X.A.units + 64 < cLine) (ha : E' X W a f) (hb : E' X W b g) : E' X W (.Compare a [.NotEq] [b] pos) (e2 kNe f g) := v_cmp (op_neD hu) o_ne ha hb (nomark _)
theorem t_ne (hu : X.A.units + 64 < cLine) (ha : E' X W a f) (hb : E' X W b g) : T' X W (.Compare a [.NotEq] [b] pos) (bOf (e2 kNe f g)) := t_cmp (op_neD hu) o_ne ha hb (nomark _)
end

/-! ### all, any -/
def blsOf : List D → Option (List Bool)
  | [] => some []
  | .bl b :: r => (blsOf r).map (b :: ·)
  | _ => none
theorem blsOf_map : ∀ {ds : List D} {bs : List Bool}, blsOf ds = some bs → ds = bs.map D.bl
  | [], bs, h => by cases h; rfl
  | d :: r, bs, h => by
    cases d <;> first | (cases h; done) | skip
    rename_i b
    rw [blsOf] at h
    obtain ⟨cs, h1, h2⟩ := Option.map_eq_some_iff.mp h
    subst h2
    rw [blsOf_map h1]
    rfl
@[simp] theorem blsOf_bl (bs : List Bool) : blsOf (bs.map D.bl) = some bs := by
  induction bs with
  | nil => rfl
  | cons b r ih => rw [List.map_cons, blsOf, ih]; rfl
def kAll (ds : List D) (s : S) : Res D := match ds with
  | [d] => (match look s d with
    | .lst xs => (match blsOf xs with
      | some bs => .ok (.bl (bs.all id)) s
      | none => .bad)
    | _ => .bad)
  | _ => .bad
def kAny (ds : List D) (s : S) : Res D := match ds with
  | [d] => (match look s d with
    | .lst xs => (match blsOf xs with
      | some bs => .ok (.bl (bs.any id)) s
      | none => .bad)
    | _ => .bad)
  | _ => .bad
section
variable {X : Cx} {W : WX} {pos p : Pos} {e : Expr} {f : VA}
theorem v_all (hc : X.calm = true) (hm : X.mg "all" = none) (ha : A' X W [e] f) (hg : Gl X "all" := by rfl) (he : starEach [e] X.env = (false, eval e X.env) :: starEach [] X.env := by rfl) : E' X W (.Call (.Name "all" p) [e] [] pos) (eCall kAll f) := by
  refine v_callB (cr_all hc) (fun F H ι σ s vs ds Q R q z => ?_) hm ha hg (he := he)
  unfold kAll at z
  split at z
  · obtain ⟨v, rfl, q1⟩ := q.one_inv
    have y := R.at q1
    split at z
    · rename_i xs e
      rw [e] at y
      obtain ⟨t, us, rfl, hs, r⟩ := y.lstD R.same
      split at z
      · rename_i bs eb
        rw [blsOf_map eb] at r
        rw [r.bls] at hs
        exact ⟨_, _, rfl, .of hs, Post.fin z R (.bl _)⟩
      · exact z.elim
    · exact z.elim
  · exact z.elim
theorem v_any (hc : X.calm = true) (hm : X.mg "any" = none) (ha : A' X W [e] f) (hg : Gl X "any" := by rfl) (he : starEach [e] X.env = (false, eval e X.env) :: starEach [] X.env := by rfl) : E' X W (.Call (.Name "any" p) [e] [] pos) (eCall kAny f) := by
  refine v_callB (cr_any hc) (fun F H ι σ s vs ds Q R q z => ?_) hm ha hg (he := he)
  unfold kAny at z
  split at z
  · obtain ⟨v, rfl, q1⟩ := q.one_inv
    have y := R.at q1
    split at z
    · rename_i xs e
      rw [e] at y
      obtain ⟨t, us, rfl, hs, r⟩ := y.lstD R.same
      split at z
      · rename_i bs eb
        rw [blsOf_map eb] at r
        rw [r.bls] at hs
        exact ⟨_, _, rfl, .of hs, Post.fin z R (.bl _)⟩
      · exact z.elim
    · exact z.elim
  · exact z.elim
/-! tuple(..), list(..) -/
def kTupOf (ds : List D) (s : S) : Res D := match ds with
  | [d] => (match look s d with
    | .lst xs => .ok (.tup xs) s
    | .tup xs => .ok (.tup xs) s
    | _ => .bad)
  | _ => .bad
def kLstOf (m : Bool) (ds : List D) (s : S) : Res D := match ds with
  | [d] => (match look s d with
    | .lst xs => newL m xs s
    | .scr xs => newL m xs s
    | .tup xs => newL m xs s
    | _ => .bad)
  | _ => .bad
theorem v_tupOf (hm : X.mg "tuple" = none) (ha : A' X W [e] f) (hg : Gl X "tuple" := by rfl) (he : starEach [e] X.env = (false, eval e X.env) :: starEach [] X.env := by rfl) : E' X W (.Call (.Name "tuple" p) [e] [] pos) (eCall kTupOf f) := by
  refine v_callTy call_tuple_of (fun F H ι σ s vs ds Q R q z => ?_) hm ha hg (he := he)
  unfold kTupOf at z
  split at z
  · obtain ⟨v, rfl, q1⟩ := q.one_inv
    have y := R.at q1
    split at z
    · rename_i xs e
      rw [e] at y
      obtain ⟨t, us, rfl, hs, r⟩ := y.lstD R.same
      exact ⟨t, us, rfl, .inl ⟨.of hs, new_tup R r z⟩⟩
    · rename_i xs e
      rw [e] at y
      obtain ⟨t, us, rfl, hs, r⟩ := y.tupD R.same
      refine ⟨t, us, rfl, .inr ⟨hs, ?_⟩⟩
      refine Post.fin z R ?_
      cases y with
      | sc y => exact y
    · exact z.elim
  · exact z.elim
theorem v_lstOf (m : Bool) (hm : X.mg "list" = none) (ha : A' X W [e] f) (hg : Gl X "list" := by rfl) (he : starEach [e] X.env = (false, eval e X.env) :: starEach [] X.env := by rfl) : E' X W (.Call (.Name "list" p) [e] [] pos) (eCall (kLstOf m) f) := by
  refine v_callTy call_list_of (fun F H ι σ s vs ds Q R q z => ?_) hm ha hg (he := he)
  unfold kLstOf at z
  split at z
  · obtain ⟨v, rfl, q1⟩ := q.one_inv
    have y := R.at q1
    split at z
    · rename_i xs e
      rw [e] at y
      obtain ⟨t, us, rfl, hs, r⟩ := y.lstD R.same
      exact ⟨t, us, rfl, .inl (.of hs), new_lst R r z⟩
    · rename_i xs e
      rw [e] at y
      obtain ⟨t, us, rfl, hs, r⟩ := y.scrD R.same
      exact ⟨t, us, rfl, .inl hs, new_lst R r z⟩
    · rename_i xs e
      rw [e] at y
      obtain ⟨t, us, rfl, hs, r⟩ := y.tupD R.same
      exact ⟨t, us, rfl, .inr hs, new_lst R r z⟩
    · exact z.elim
  · exact z.elim
end

/-! ### isinstance with a built-in class -/
/-- the name of a value's type -/
def tyD : D → Option String
  | .non => some "NoneType"
  | .bl _ => some "bool"
  | .int _ => some "int"
  | .str _ => some "str"
  | .tup _ => some "tuple"
  | .lst _ => some "list"
  | .scr _ => some "list"
  | .dK _ => some "dict"
  | .dT _ => some "dict"
  | _ => none
theorem At.ty {K : PySem.W.Frag} {F H : Hp} {ι : List Addr} (e : Same F H) {v : V} {d : D} {n : String} (h : At K F H ι v d) (p : tyD d = some n) : TyX K H v (.type n) := by
  cases h with
  | lst h r => cases p; exact .base (.lst h)
  | dK h r => cases p; exact .base (.dK h)
  | dT h r => cases p; exact .base (.dT h)
  | obj h r => cases p
  | sc h =>
    cases h with
    | non => cases p; exact .base .non
    | bl b => cases p; exact .base (.bl b)
    | int i => cases p; exact .base (.int i)
    | str x => cases p; exact .base (.str x)
    | ty n => cases p
    | tup s r =>
      cases p
      rcases s with (s | ⟨o, s⟩) | ⟨o, its, n, hk, hc, _⟩
      · exact .base (.tup (e _ _ s))
      · exact .fTuple (e _ _ s)
      · exact .kTuple hk hc
    | lst s r => cases p; exact .base (.lst (e _ _ s))
    | scr s r =>
      cases p
      rcases s with (s | ⟨o, s⟩) | ⟨o, its, n, hk, hc, _⟩
      · exact .base (.lst (e _ _ s))
      · exact .base (.frz (e _ _ s))
      · exact .kList hk hc
    | dK s r => cases p; exact .base (.dK (e _ _ s))
    | dT s r => cases p; exact .base (.dT (e _ _ s))
    | obj s r => cases p
    | ptr q => cases p
def kIsi (ds : List D) (s : S) : Res D := match ds with
  | [d, .ty c] => (match tyD (look s d) with
    | some n => (match kitB n c with
      | some b => .ok (.bl b) s
      | none => .bad)
    | none => .bad)
  | _ => .bad
section
variable {X : Cx} {W : WX} {pos p : Pos} {e e2 : Expr} {f : VA}
theorem v_ty {x : Str} {n : String} (hm : X.mg x = none) (hv : bootBuiltins x = some (.type n) := by decide +kernel) (hg : Gl X x := by rfl) (hn : x ≠ "__name__" := by decide) (hd : (x == ("__debug__" : Str)) = false := by decide) : E' X W (.Name x pos) (eC (.ty n)) :=
  v_const (v := .ty n) (pe_bltn hg hm hv rfl hn hd) fun _ _ => .ty n
theorem v_isi (hm : X.mg "isinstance" = none) (ha : A' X W [e, e2] f) (hg : Gl X "isinstance" := by rfl) (he : starEach [e, e2] X.env = (false, eval e X.env) :: starEach [e2] X.env := by rfl) (hpl : (backTo pos (starEach [e2] X.env)).any (·.1) = false := by rfl) : E' X W (.Call (.Name "isinstance" p) [e, e2] [] pos) (eCall kIsi f) := by
  refine v_callB call_isi (fun F H ι σ s vs ds Q R q z => ?_) hm ha hg (he := he) (hpl := hpl)
  unfold kIsi at z
  split at z
  · obtain ⟨v, w, rfl, q1, q2⟩ := q.two_inv
    cases q2
    split at z
    · rename_i n e1
      split at z
      · rename_i b e2
        exact ⟨_, _, _, _, b, rfl, .ty _, (R.at q1).ty R.same e1, kit_ty e2, Post.fin z R (.bl _)⟩
      · exact z.elim
    · exact z.elim
  · exact z.elim
end

/-! ### a name op= e -/
def sAug (i : Nat) (k : D → D → S → Res D) (f : VE) (s : S) : SR := match s.ρ[i]? with
  | some (some a) => (f s).bindS fun b s => (k a b s).bindS fun d s => .nx (s.put i d)
  | _ => .bad
section
variable {X : Cx} {W : WX} {pos : Pos} {e : Expr} {f : VE}
theorem s_aug {i : Nat} {x : Str} {op : Operator} {r : R2} {k : D → D → S → Res D} {pos' : Pos} (hN : X.N.Nodup) (ho : OpR X (inplaceOp op) r) (hk : ∀ F H ι σ s v w a b Q, Rel X.K F H ι s σ → Rp X.K F ι v a → Rp X.K F ι w b → PostE X.K W F H ι σ (k a b s) Q → r v w H Q) (he : E' X W e f)
    (hi : X.N[i]? = some x := by rfl) (hx : Loc X.env.scope x := by first | exact Or.inl rfl | exact Or.inr rfl) (hf : X.fn x = true ∨ X.env.scope.names.lookup x = some .local := by first | exact .inl rfl | exact .inr rfl | assumption) :
    S' X W (.AugAssign (.Name x pos') op e pos) (sAug i k f) := by
  refine imS (ps_aug (ti := r) hN hi hx he (fun pins s σ H x y v u Q I r1 r2 h => ho pins s σ H x y v u Q I r1 r2 h) hf) fun Dn σ H ⟨F, ι, s, R, h⟩ => ?_
  unfold sAug at h
  split at h
  · rename_i a ea
    obtain ⟨v, e1, r1⟩ := R.env i a ea
    refine ⟨v, e1, ?_⟩
    refine PostS.run R h fun F1 H1 ι₁ s1 w b R1 x1 q1 h1 => ?_
    refine hk F1 H1 ι₁ σ s1 v w a b _ R1 (r1.mono x1.sub x1.grow) q1 ?_
    exact Post.bindS h1 fun F2 H2 ι₂ s2 u d R2 x2 q2 h2 => h2 F2 H2 ι₂ _ (R2.put i q2) (.refl _ _ _)
  · exact h.elim
theorem s_augAdd {i : Nat} {x : Str} {pos' : Pos} (hN : X.N.Nodup) (he : E' X W e f) (hi : X.N[i]? = some x := by rfl) (hx : Loc X.env.scope x := by first | exact Or.inl rfl | exact Or.inr rfl) (hf : X.fn x = true ∨ X.env.scope.names.lookup x = some .local := by first | exact .inl rfl | exact .inr rfl | assumption) :
    S' X W (.AugAssign (.Name x pos') .Add e pos) (sAug i kAdd f) := s_aug hN iop_add (o_int fun _ _ i j => .int (i + j)) he hi hx hf
theorem s_augSub {i : Nat} {x : Str} {pos' : Pos} (hN : X.N.Nodup) (he : E' X W e f) (hi : X.N[i]? = some x := by rfl) (hx : Loc X.env.scope x := by first | exact Or.inl rfl | exact Or.inr rfl) (hf : X.fn x = true ∨ X.env.scope.names.lookup x = some .local := by first | exact .inl rfl | exact .inr rfl | assumption) :
    S' X W (.AugAssign (.Name x pos') .Sub e pos) (sAug i kSub f) := s_aug hN iop_sub (o_int fun _ _ i j => .int (i - j)) he hi hx hf
theorem s_augMul {i : Nat} {x : Str} {pos' : Pos} (hN : X.N.Nodup) (he : E' X W e f) (hi : X.N[i]? = some x := by rfl) (hx : Loc X.env.scope x := by first | exact Or.inl rfl | exact Or.inr rfl) (hf : X.fn x = true ∨ X.env.scope.names.lookup x = some .local := by first | exact .inl rfl | exact .inr rfl | assumption) :
    S' X W (.AugAssign (.Name x pos') .Mult e pos) (sAug i kMul f) := s_aug hN iop_mul (o_intC fun _ _ i j => .int (i * j)) he hi hx hf
theorem s_augDiv {i : Nat} {x : Str} {pos' : Pos} (hN : X.N.Nodup) (he : E' X W e f) (hi : X.N[i]? = some x := by rfl) (hx : Loc X.env.scope x := by first | exact Or.inl rfl | exact Or.inr rfl) (hf : X.fn x = true ∨ X.env.scope.names.lookup x = some .local := by first | exact .inl rfl | exact .inr rfl | assumption) :
    S' X W (.AugAssign (.Name x pos') .FloorDiv e pos) (sAug i kDiv f) := s_aug hN iop_fdiv (o_intC fun _ _ i j => .int (i / j)) he hi hx hf
end
end
end VL

set_option Elab.async false
set_option linter.all false
set_option maxRecDepth 20000
/-! sorted of a list or a tuple of plain data. -/
namespace VL
open PySem PyProof.Rows PySem.Spec L2 PySem.W
noncomputable section
section
variable {prog : Program} {w : World} {A : Around} {E : Value → Shared → Prop} {s : Shared}
/-- a list or tuple at l, of the values vs -/
def SeqOf (h : Heap) (l : Addr) (vs : List Value) : Prop := ∃ o n, h.get? l = some o ∧ (o.cls = .type "list" ∨ o.cls = .type "tuple") ∧ o.data = .seq vs.toArray n
theorem collect_seq {l : Addr} {vs : List Value} {Q : List Value → Shared → Prop} (hl : SeqOf s.heap l vs) (hz : vs.length ≤ sizeLine)
    (h : Q vs { s with heap := (s.heap.push (seqObj "list" #[] 0)).update s.heap.objs.size (Obj.mapSeq (· ++ vs.toArray)) }) : wpAny (model prog w) A (collect (.ref l)) Q E s := by
  obtain ⟨o, n, e1, e2, e3⟩ := hl
  have there : (s.heap.push (seqObj "list" #[] 0)).get? l = some o := Heap.get?_push_of_some _ e1
  have mine : (s.heap.push (seqObj "list" #[] 0)).get? s.heap.objs.size = some (seqObj "list" #[] 0) := Heap.get?_push_size _ rfl
  unfold collect
  refine wpAny_bind (wpAny_runValue (codeAny_builtin entry_proto_collect' ?_))
  show wpAny _ _ (do again (.builtin "list.__iadd__" ⟨[← newList [], .ref l], []⟩)) _ _ s
  refine wpAny_bind (wpAny_newList (wpAny_pure ⟨Code.quiet_builtin _ (by decide +kernel), codeAny_builtin entry_list_iadd' ?step⟩))
  case step =>
    show wpAny _ _ (Builtin.List.listExtendWith (.ref s.heap.objs.size) (.ref l) (.ref s.heap.objs.size)) _ _ { s with heap := s.heap.push (seqObj "list" #[] 0) }
    unfold Builtin.List.listExtendWith
    have goes : ∀ T : String, (T = "list" ∨ T = "tuple") → (Builtin.List.listSameRef (.ref s.heap.objs.size) (.ref l) || Value.type T == .type "list" || Value.type T == .type "tuple") = true := fun T hT => by
      rcases hT with rfl | rfl <;> simp
    have ty : ∃ T : String, (T = "list" ∨ T = "tuple") ∧ o.cls = .type T := by
      rcases e2 with z | z
      · exact ⟨"list", .inl rfl, z⟩
      · exact ⟨"tuple", .inr rfl, z⟩
    obtain ⟨T, hT, hc⟩ := ty
    refine wpAny_bind (wpAny_typeOf (T := T) ⟨o, there, hc⟩ ?_)
    rw [if_pos (goes T hT)]
    refine wpAny_bind (listItems_at there e3 (wpAny_bind (listItems_at (xs := #[]) (n := 0) mine rfl ?_)))
    rw [if_neg (by simp)]
    refine wpAny_bind (listUpdate_at (xs := #[]) (n := 0) mine rfl ?_ (Nat.zero_le _) (by show (#[] ++ vs.toArray).size ≤ sizeLine + 1; simp only [Array.size_append, List.size_toArray, List.length_nil]; omega))
    refine wpAny_pure ?_
    show wpAny (model prog w) A (do
        let o ← load s.heap.objs.size
        match o.data with
        | .seq xs _ => pure xs.toList
        | _ => unsupported "internal:collect") Q E { s with heap := (s.heap.push (seqObj "list" #[] 0)).update s.heap.objs.size (Obj.mapSeq (· ++ vs.toArray)) }
    refine wpAny_bind (wpAny_load (get?_update_seq mine _) ?_)
    show wpAny _ _ (pure ((#[] : Array Value) ++ vs.toArray).toList) Q E _
    have e : ((#[] : Array Value) ++ vs.toArray).toList = vs := by simp
    rw [e]
    exact wpAny_pure h
theorem sorted_seq {l : Addr} {vs : List Value} {κ : PyProof.Rows.KeyKind} {Q : Value → Shared → Prop} (hl : SeqOf s.heap l vs) (hL : vs.length ≤ sizeLine)
    (S : SortsAt prog w A.in1.in1 { s with heap := sortingHeap (copyHeap s.heap vs) (s.heap.objs.size + 1) vs } κ vs)
    (h : Q (.ref (s.heap.objs.size + 1)) { s with heap := sortedAll s.heap vs (sortVals κ false vs vs).toArray }) : wpAny (model prog w) A (call (.builtin "sorted") [.ref l]) Q E s := by
  refine call_function_entry_kw kind_sorted plain_sorted entry_sorted (args_sorted1 _) ?_
  unfold Builtin.«sorted»
  refine wpAny_bind (m := checkCount "sorted" 1 1 _) (wpAny_pure (wpAny_bind (collect_seq hl hL (wpAny_bind (wpAny_newList ?_ hL)))))
  have size1 : ((s.heap.push (seqObj "list" #[] 0)).update s.heap.objs.size (Obj.mapSeq (· ++ vs.toArray))).objs.size = s.heap.objs.size + 1 := by
    rw [Heap.size_update]
    exact size_push' _ _
  show wpAny _ _ _ _ _ { s with heap := copyHeap s.heap vs }
  rw [size1]
  refine wpAny_bind (wpAny_holding (wpAny_call_entry_kw slot_list_sort ⟨_, copyHeap_at s.heap vs, rfl⟩ entry_list_sort ?go (args_list_sort _)))
  case go =>
    refine list_sort_vals (s := { s with heap := copyHeap s.heap vs }) (copyHeap_at s.heap vs) S hL ?_
    exact ⟨_, rfl, wpAny_pure ⟨_, rfl, h⟩⟩
end
/-! ### over the layer -/
abbrev leD : D → D → Bool := dataLe false toPy
def SortOk (ds : List D) : Prop := AllAlike (ds.map toPy) ∧ Sortable (ds.map toPy) ∧ ∀ d ∈ ds, (toPy d).depth ≤ 60
open Classical in
def kSorted (m : Bool) (ls : List D) (s : S) : Res D := match ls with
  | [d] => (match look s d with
    | .lst ds => if pys ds = true ∧ SortOk ds then newL m (ds.mergeSort leD) s else .bad
    | .tup ds => if pys ds = true ∧ SortOk ds then newL m (ds.mergeSort leD) s else .bad
    | .scr ds => if pys ds = true ∧ SortOk ds then newL m (ds.mergeSort leD) s else .bad
    | _ => .bad)
  | _ => .bad
/-- pairs of a value and its data -/
theorem zip_rel {K : PySem.W.Frag} {F : Hp} {ι : List Addr} : ∀ {vs : List V} {ds : List D}, Rps K F ι vs ds → ∃ zs : List (V × D), zs.map Prod.fst = vs ∧ zs.map Prod.snd = ds ∧ ∀ z ∈ zs, Rp K F ι z.1 z.2
  | _, _, .nil => ⟨[], rfl, rfl, fun _ h => by cases h⟩
  | _, _, .cons (v := v) (d := d) r t => by
    obtain ⟨zs, e1, e2, h⟩ := zip_rel t
    refine ⟨(v, d) :: zs, by rw [List.map_cons, e1], by rw [List.map_cons, e2], fun z hz => ?_⟩
    rcases List.mem_cons.mp hz with rfl | hz
    · exact r
    · exact h z hz
theorem rel_zip {K : PySem.W.Frag} {F : Hp} {ι : List Addr} : ∀ {zs : List (V × D)}, (∀ z ∈ zs, Rp K F ι z.1 z.2) → Rps K F ι (zs.map Prod.fst) (zs.map Prod.snd)
  | [], _ => .nil
  | z :: zs, h => .cons (h z List.mem_cons_self) (rel_zip fun y hy => h y (List.mem_cons_of_mem _ hy))
theorem each_vals : ∀ {zs : List (V × D)} {us : List Value}, Vals (zs.map Prod.fst) us → EachIs (fun u z => RelV z.1 u) us zs
  | [], _, h => by cases h; exact .nil
  | z :: zs, _, h => by
    cases h with
    | cons r t => exact .cons r (each_vals t)
theorem vals_each : ∀ {zs : List (V × D)} {us : List Value}, EachIs (fun u z => RelV z.1 u) us zs → Vals (zs.map Prod.fst) us
  | _, _, .nil => .nil
  | _, _, .cons r t => .cons r (vals_each t)
def rSortD (K : PySem.W.Frag) : List V → Hp → VK → Prop := fun xs H Q => ∃ (a : Addr) (zs : List (V × D)), xs = [V.ref a] ∧ (SqL K H a (zs.map Prod.fst) ∨ SqT K H a (zs.map Prod.fst)) ∧ (∀ z ∈ zs, Dp K H z.1 (toPy z.2)) ∧ SortOk (zs.map Prod.snd) ∧
  ∀ p, H p = none → Q (.ref p) (upd H p (.lst ((zs.mergeSort fun a b => leD a.2 b.2).map Prod.fst)))
theorem cr_sortD {X : Cx} (hu : X.A.units + 64 < cLine) : CallR X (.builtin "sorted") (rSortD X.K) := by
  intro pins s σ H vs us Q I r h
  obtain ⟨a, zs, rfl, hs, hd, ⟨h1, h2, h3⟩, q⟩ := h
  rw [Vals.ref1 r]
  obtain ⟨its, rv, sq, hz⟩ : ∃ its : List Value, Vals (zs.map Prod.fst) its ∧ SeqOf s.heap a its ∧ its.length ≤ sizeLine := by
    rcases hs with hs | hs
    · obtain ⟨its, rv, ⟨o, n, ho, hc, _, hdt⟩, hz⟩ := I.list hs
      exact ⟨its, rv, ⟨o, n, ho, .inl hc, hdt⟩, by rw [← rv.length]; exact hz⟩
    · obtain ⟨its, rv, ⟨o, ho, hc, n, hdt⟩, hz⟩ := I.tuple hs
      exact ⟨its, rv, ⟨o, n, ho, .inr hc, hdt⟩, by rw [← rv.length]; exact hz⟩
  have ea := each_vals rv
  have er : EachIs (fun u (z : V × D) => ∃ as, Reads s.heap u (toPy z.2) as) its zs := by
    have go : ∀ {zs : List (V × D)} {us : List Value}, (∀ z ∈ zs, Dp X.K H z.1 (toPy z.2)) → EachIs (fun u z => RelV z.1 u) us zs → EachIs (fun u (z : V × D) => ∃ as, Reads s.heap u (toPy z.2) as) us zs := by
      intro zs us hz e
      induction e with
      | nil => exact .nil
      | cons r t ih => exact .cons (Dp.reads I _ _ _ (hz _ List.mem_cons_self) r) (ih fun y hy => hz y (List.mem_cons_of_mem _ hy))
    exact go hd ea
  have emap : (zs.map Prod.snd).map toPy = zs.map fun z => toPy z.2 := by rw [List.map_map]; rfl
  rw [emap] at h1 h2
  have eh : EachIs (fun u (z : V × D) => ∃ as, Reads (sortingHeap (copyHeap s.heap its) (s.heap.objs.size + 1) its) u (toPy z.2) as) its zs := er.mono fun _ _ ⟨as, r⟩ => ⟨as, PyProof.Rows.Reads.keeps (fun _ _ => sorting_copy_old) r⟩
  refine sorted_seq sq hz (SortsAt.data (s := { s with heap := sortingHeap (copyHeap s.heap its) (s.heap.objs.size + 1) its }) (each_map (R := fun v d => ∃ as, Reads (sortingHeap (copyHeap s.heap its) (s.heap.objs.size + 1) its) v d as) (fun z : V × D => toPy z.2) eh) h1 h2 ?_) ?_
  · refine bound_map (enc := fun z : V × D => toPy z.2) (A := X.A.in1.in1) fun z hzm => ?_
    have := h3 z.2 (List.mem_map.mpr ⟨z, hzm, rfl⟩)
    have e : X.A.in1.in1.units = X.A.units + 2 := rfl
    omega
  · have eo := sortVals_data (h' := sortingHeap (copyHeap s.heap its) (s.heap.objs.size + 1) its) (R := fun u (z : V × D) => RelV z.1 u) (enc := fun z : V × D => toPy z.2) false ea eh h1
    have ro := vals_each eo
    have hln : ((zs.mergeSort fun a b => leD a.2 b.2).map Prod.fst).length ≤ sizeLine := by
      have := rv.length
      rw [List.length_map] at this ⊢
      rw [List.length_mergeSort]
      omega
    obtain ⟨ep, he'⟩ := sortedAll_at s.heap its (sortVals (dataKind (sortingHeap (copyHeap s.heap its) (s.heap.objs.size + 1) its) (zs.map fun z => toPy z.2)) false its its).toArray
    refine ⟨.ref _, upd H (s.heap.objs.size + 1) (.lst ((zs.mergeSort fun a b => leD a.2 b.2).map Prod.fst)), I.laid (t' := s.toks) (fun _ _ => sortedAll_old) (Nat.le_succ _) ⟨hln, _, ep, ro, he'⟩, rfl, q _ (I.hok.fresh (Nat.le_succ _))⟩
theorem pys_mem : ∀ {ds : List D}, pys ds = true → ∀ d ∈ ds, d.py = true
  | d :: ds, h, e, he => by
    rw [pys] at h
    rcases List.mem_cons.mp he with rfl | he
    · exact (and_t h).1
    · exact pys_mem (and_t h).2 e he
open Classical in
theorem v_sorted {X : Cx} {W : WX} {pos p : Pos} {e : Expr} {f : VA} (m : Bool) (hu : X.A.units + 64 < cLine) (hm : X.mg "sorted" = none) (ha : A' X W [e] f) (hg : Gl X "sorted" := by rfl) (he : starEach [e] X.env = (false, eval e X.env) :: starEach [] X.env := by rfl) : E' X W (.Call (.Name "sorted" p) [e] [] pos) (eCall (kSorted m) f) := by
  refine v_callB (cr_sortD hu) (fun F H ι σ s vs ds Q R q z => ?_) hm ha hg (he := he)
  have go : ∀ {a : Addr} {us : List V} {xs : List D}, (SqL X.K H a us ∨ SqT X.K H a us) → Rps X.K F ι us xs → PostE X.K W F H ι σ (if pys xs = true ∧ SortOk xs then newL m (xs.mergeSort leD) s else .bad) Q → rSortD X.K [.ref a] H Q := fun {a us xs} hs r z => by
    split at z
    · rename_i hc
      obtain ⟨c1, c2⟩ := hc
      obtain ⟨zs, e1, e2, hz⟩ := zip_rel r
      subst e1 e2
      refine ⟨a, zs, rfl, hs, fun y hy => (hz y hy).dp R.same (pys_mem c1 y.2 (List.mem_map.mpr ⟨y, hy, rfl⟩)), c2, ?_⟩
      have e3 : (zs.map Prod.snd).mergeSort leD = (zs.mergeSort fun a b => leD a.2 b.2).map Prod.snd := (sort_maps Prod.snd fun _ _ _ _ => rfl).symm
      rw [e3] at z
      exact new_lst R (rel_zip fun y hy => hz y ((List.mem_mergeSort).mp hy)) z
    · exact z.elim
  unfold kSorted at z
  split at z
  · obtain ⟨v, rfl, q1⟩ := q.one_inv
    have y := R.at q1
    split at z
    · rename_i xs e
      rw [e] at y
      obtain ⟨t, us, rfl, hs, r⟩ := y.lstD R.same
      exact go (.inl (.of hs)) r z
    · rename_i xs e
      rw [e] at y
      obtain ⟨t, us, rfl, hs, r⟩ := y.tupD R.same
      exact go (.inr hs) r z
    · rename_i xs e
      rw [e] at y
      obtain ⟨t, us, rfl, hs, r⟩ := y.scrD R.same
      exact go (.inl hs) r z
    · exact z.elim
  · exact z.elim
end
end VL

set_option Elab.async false
set_option linter.all false
set_option maxRecDepth 20000
/-! Defs that work on the store; more walks; more operators. -/
namespace VL
open PySem PyProof.Rows PySem.Spec L2
noncomputable section

/-! ### a def that sees and changes its caller's store -/
inductive OutS where
  | ok (d : D) (η : List Cell) | exc (C : Str) (fs : List (Str × D)) (η : List Cell) | bad
abbrev SF := List D → List Cell → OutS
section
variable (K : PySem.W.Frag)
abbrev Rel0 (F H : Hp) (ι : List Addr) (η : List Cell) : Prop := Rel K F H ι ⟨[], η⟩ []
def PostFS (F H : Hp) (ι : List Addr) (r : OutS) (Q : VK) (E : XK) : Prop := match r with
  | .ok d η => ∀ F' H' ι' v, Rel0 K F' H' ι' η → Ext F H ι F' H' ι' → Rp K F' ι' v d → Q v H'
  | .exc C fs η => ∀ F' H' ι' cls dx, Rel0 K F' H' ι' η → Ext F H ι F' H' ι' → ExcAt K F' H' ι' C fs cls dx → E cls dx H'
  | .bad => False
def spS (n : Nat) (G : SF) : Sp := fun vs H Q E => ∃ ds F ι η, ds.length = n ∧ Rel0 K F H ι η ∧ Rps K F ι vs ds ∧ PostFS K F H ι (G ds η) Q E
end
def runS (n : Nat) (g : VS) (ds : List D) (η : List Cell) : OutS := match g ⟨ds.map some ++ List.replicate (n - ds.length) none, η⟩ with
  | .nx s => .ok .non s.η
  | .rt d s => .ok d s.η
  | .exc C fs s => .exc C fs s.η
  | _ => .bad
theorem Rel.bare {K : PySem.W.Frag} {F H : Hp} {ι : List Addr} {s : S} {σ : L2.St} (R : Rel K F H ι s σ) : Rel0 K F H ι s.η :=
  ⟨R.same, fun i d q => by simp at q, rfl, R.ilen, R.cell, R.inj⟩
theorem Rel.entryS {K : PySem.W.Frag} {F H : Hp} {ι : List Addr} {η : List Cell} {N : List Str} {vs : List V} {ds : List D} (R : Rel0 K F H ι η) (r : Rps K F ι vs ds) (hl : ds.length ≤ N.length) :
    Rel K F H ι ⟨ds.map some ++ List.replicate (N.length - ds.length) none, η⟩ (L2.start N vs) := by
  have hlen := r.length
  refine ⟨R.same, fun i d q => ?_, ?_, R.ilen, R.cell, R.inj⟩
  · have q2 : (ds.map some ++ List.replicate (N.length - ds.length) none)[i]? = some (some d) := q
    have hi : i < ds.length := by
      apply Classical.byContradiction
      intro hn
      rw [List.getElem?_append_right (by simpa using hn), List.getElem?_replicate] at q2
      split at q2 <;> cases q2
    rw [List.getElem?_append_left (by simpa using hi), List.getElem?_map] at q2
    obtain ⟨d', e1, e2⟩ := Option.map_eq_some_iff.mp q2
    cases e2
    obtain ⟨v, e3, e4⟩ := r.get e1
    refine ⟨v, ?_, e4⟩
    unfold L2.start
    rw [List.getElem?_append_left (by rw [List.length_map]; omega), List.getElem?_map, e3]
    rfl
  · show (L2.start N vs).length = (ds.map some ++ List.replicate (N.length - ds.length) none).length
    unfold L2.start
    simp only [List.length_append, List.length_map, List.length_replicate]
    omega
section
variable {P : Program} {w : World} {K : PySem.W.Frag} {mg : Str → Option Value} {base : Heap} {x qual : Str} {params : Arguments} {body : List Stmt} {scope : Scope} {dvs : List V} {kws : List (Str × V)} {f : Addr} {fd : FuncData}
theorem ok_fnS {N ps : List Str} {k : Nat} {g : VS} (D₀ : FunD K x qual params body scope dvs kws f fd) (S₀ : FnScope N ps scope)
    (hb : ∀ (cdv : Value) (A : Around) (outer : List Env) (s : Shared) (H : Hp) (E : XK), Room k (A.deeper (envOfC qual scope s.heap.objs.size f cdv)) → B' (cxOf (L2.CX P w) P w K mg base N qual scope f cdv A outer s H E) (wB E) body g) :
    FnOk P w K mg base (L2.CX P w) (k + 1) f fd ps (spS K ps.length (runS N.length g)) := by
  refine D₀.ok S₀ (fun vs H Q E h => ?_) (fun cdv A outer s H vs Q E hr h => ?_)
  · obtain ⟨ds, F, ι, η, hl, _, r, _⟩ := h
    rw [r.length, hl]
  · obtain ⟨ds, F, ι, η, hl, R, r, p⟩ := h
    have hpl : ps.length ≤ N.length := by
      have := congrArg List.length S₀.pre
      rw [List.length_take] at this
      omega
    refine ⟨_, hb cdv A outer s H E hr, F, ι, _, Rel.entryS R r (by omega), ?_⟩
    unfold runS at p
    generalize g ⟨ds.map some ++ List.replicate (N.length - ds.length) none, η⟩ = o at p
    cases o with
    | nx s' => exact fun F' H' ι' σ' R' x' => p F' H' ι' .non R'.bare x' .non
    | rt d s' => exact fun F' H' ι' σ' v R' x' q => p F' H' ι' v R'.bare x' q
    | exc C fs s' => exact fun F' H' ι' σ' cls dx R' x' q => p F' H' ι' cls dx R'.bare x' q
    | bk s' => exact p.elim
    | ct s' => exact p.elim
    | bad => exact p.elim
end
def callS (G : SF) (f : VA) (s : S) : Res D := (f s).bind fun ds s => match G ds s.η with
  | .ok d η => .ok d ⟨s.ρ, η⟩
  | .exc C fs η => .exc C fs ⟨s.ρ, η⟩
  | .bad => .bad
section
variable {X : Cx} {W : WX} {k n : Nat} {f : Addr} {fd : FuncData} {ps : List Str} {ds : List Value} {dvs : List V} {dds : List D} {x : Str} {p pos : Pos} {e : Expr} {es : List Expr} {fa : VA} {G : SF}
theorem v_callS (F₀ : FnOk X.prog X.w X.K X.mg X.base (L2.CX X.prog X.w) k f fd ps (spS X.K ps.length G)) (hr : Room k X.A) (hm : X.mg x = some (.ref f)) (hk : PySem.W.keepIn X.K (.ref f) = true) (hb : L2.Binds X.K fd ps [])
    (tk : Takes X W) (ha : A' X W (e :: es) fa) (hn : ArgN fa ps.length) (hg : Gl X x := by rfl)
    (hdb : (x == ("__debug__" : Str)) = false := by decide) (he : starEach (e :: es) X.env = (false, eval e X.env) :: starEach es X.env := by rfl) (hpl : (backTo pos (starEach es X.env)).any (·.1) = false := by rfl) :
    E' X W (.Call (.Name x p) (e :: es) [] pos) (callS G fa) := by
  refine imE (pe_callSD F₀ hr hg hm hk hb .nil (passAt tk) ha hdb he hpl) fun σ H Q ⟨F, ι, s, R, z⟩ => ?_
  refine ⟨F, ι, s, R, ?_⟩
  have hz : PostE X.K W F H ι σ (callS G fa s) Q := z
  unfold callS at hz
  cases q : fa s with
  | ok ls s1 =>
    rw [q, bind_ok] at hz
    intro F1 H1 ι₁ vs R1 x1 q1
    have z1 := Post.ref hz x1
    refine ⟨ls, F1, ι₁, s1.η, hn s ls s1 q, R1.bare, by rw [List.append_nil]; exact q1, ?_⟩

    cases e : G ls s1.η with
    | ok d η =>
      rw [e] at z1
      intro F' H' ι' v R' x' r
      exact z1 F' H' ι' v (R1.back x' R') x' r
    | exc C fs η =>
      rw [e] at z1
      intro F' H' ι' cls dx R' x' r
      exact z1 F' H' ι' cls dx (R1.back x' R') x' r
    | bad => rw [e] at z1; exact z1.elim
  | exc C fs s1 => rw [q, bind_exc] at hz; exact hz
  | bad => rw [q, bind_bad] at hz; exact hz
end

/-! ### a list or a tuple is walked, whichever it is -/
def itS (f : VE) (s : S) : Res (List D) := (f s).bind fun d s => match d with
  | .lst ds => .ok ds s
  | .tup ds => .ok ds s
  | _ => .bad
section
variable {X : Cx} {W : WX} {pos : Pos} {tg iter a b : Expr} {f g : VE}
theorem pi_or {w1 w2 : TI} (h1 : PI X tg iter w1) (h2 : PI X tg iter w2) : PI X tg iter (fun σ H R => w1 σ H R ∨ w2 σ H R) := ⟨fun pins s σ H R I h => h.elim (h1.run pins s σ H R I) (h2.run pins s σ H R I)⟩
theorem i_seq (he : E' X W iter f) : I' X W tg iter (itS f) := by
  refine imI (pi_or (i_list he) (i_tup he)) fun σ H Q ⟨F, ι, s, R, h⟩ => ?_
  unfold itS at h
  cases q : f s with
  | ok d s1 =>
    rw [q, bind_ok] at h
    cases d with
    | lst ds => exact .inl ⟨F, ι, s, R, by unfold itL; rw [q, bind_ok]; exact h⟩
    | tup ds => exact .inr ⟨F, ι, s, R, by unfold itT; rw [q, bind_ok]; exact h⟩
    | _ => exact h.elim
  | exc C fs s1 => rw [q, bind_exc] at h; exact .inl ⟨F, ι, s, R, by unfold itL; rw [q, bind_exc]; exact h⟩
  | bad => rw [q, bind_bad] at h; exact h.elim

/-! ### the rules by name, for chains; minus -/
theorem ol_lt : Op2 X W (rI0 fun i j => .bl (decide (i < j))) kLt := o_int fun _ _ i j => .bl _
theorem ol_le : Op2 X W (rI0 fun i j => .bl (decide (i ≤ j))) kLe := o_int fun _ _ i j => .bl _
theorem ol_gt : Op2 X W (rI0 fun i j => .bl (decide (j < i))) kGt := o_int fun _ _ i j => .bl _
theorem ol_ge : Op2 X W (rI0 fun i j => .bl (decide (j ≤ i))) kGe := o_int fun _ _ i j => .bl _
def e1 (k : D → S → Res D) (f : VE) (s : S) : Res D := (f s).bind k
def kNeg (d : D) (s : S) : Res D := match d with
  | .int i => .ok (.int (-i)) s
  | _ => .bad
theorem v_neg (ha : E' X W a f) : E' X W (.UnaryOp .USub a pos) (e1 kNeg f) := by
  refine imE (pe_un un_neg ha) fun σ H Q ⟨F, ι, s, R, h⟩ => ?_
  refine Post.run R h fun F1 H1 ι₁ s1 v d R1 x1 q1 h1 => ?_
  unfold kNeg at h1
  split at h1
  · cases q1; exact ⟨_, rfl, Post.fin h1 R1 (.int _)⟩
  · exact h1.elim
end
/-! ### what is a cell becomes data (no step of the program) -/
def eFrz (f : VE) (s : S) : Res D := (f s).bind fun d s => match d with
  | .ptr k => (match s.η[k]? with
    | some (.lst xs) => .ok (.lst xs) ⟨s.ρ, s.η.set k (.fwd (.lst xs))⟩
    | some (.dK xs) => .ok (.dK xs) ⟨s.ρ, s.η.set k (.fwd (.dK xs))⟩
    | some (.dT xs) => .ok (.dT xs) ⟨s.ρ, s.η.set k (.fwd (.dT xs))⟩
    | some (.fwd d) => .ok d s
    | _ => .bad)
  | d => .ok d s
theorem v_frz {X : Cx} {W : WX} {e : Expr} {f : VE} (h : E' X W e f) : E' X W e (eFrz f) := by
  refine imE h fun σ H Q ⟨F, ι, s, R, z⟩ => ?_
  refine Post.run R z fun F1 H1 ι₁ s1 v d R1 x1 q1 h1 => ?_
  have same : ∀ {a : Addr} {o : HO}, F1 a = none → Same F1 (upd F1 a o) := fun {a o} n b u e => by rw [upd_ne (ne_of_none e n)]; exact e
  cases q1 with
  | @ptr k a e =>
    dsimp only at h1
    have hk : k < s1.η.length := by rw [← R1.ilen]; exact (List.getElem?_eq_some_iff.mp e).1
    have hc := R1.cell k a _ e (List.getElem?_eq_getElem hk)
    rw [List.getElem?_eq_getElem hk] at h1
    cases q : s1.η[k] with
    | lst xs =>
      rw [q] at hc h1
      obtain ⟨n, vs, hH, r⟩ := hc
      have rp : Rp X.K (upd F1 a (.lst vs)) ι₁ (.ref a) (.lst xs) := .lst upd_same (r.mono (same n) (.refl ι₁))
      obtain ⟨R2, x2⟩ := R1.freeze e hH n rp
      exact Post.fin' h1 R2 x2 rp
    | dK xs =>
      rw [q] at hc h1
      obtain ⟨n, vs, hH, r⟩ := hc
      have rp : Rp X.K (upd F1 a (.dK vs)) ι₁ (.ref a) (.dK xs) := .dK upd_same (r.mono (same n) (.refl ι₁))
      obtain ⟨R2, x2⟩ := R1.freeze e hH n rp
      exact Post.fin' h1 R2 x2 rp
    | dT xs =>
      rw [q] at hc h1
      obtain ⟨n, vs, hH, r⟩ := hc
      have rp : Rp X.K (upd F1 a (.dT vs)) ι₁ (.ref a) (.dT xs) := .dT upd_same (r.mono (same n) (.refl ι₁))
      obtain ⟨R2, x2⟩ := R1.freeze e hH n rp
      exact Post.fin' h1 R2 x2 rp
    | ins C fs => rw [q] at h1; exact h1.elim
    | fwd d =>
      rw [q] at hc h1
      exact Post.fin h1 R1 hc.2
  | non => exact Post.fin h1 R1 .non
  | bl b => exact Post.fin h1 R1 (.bl b)
  | int i => exact Post.fin h1 R1 (.int i)
  | str x => exact Post.fin h1 R1 (.str x)
  | ty n => exact Post.fin h1 R1 (.ty n)
  | tup h r => exact Post.fin h1 R1 (.tup h r)
  | lst h r => exact Post.fin h1 R1 (.lst h r)
  | scr h r => exact Post.fin h1 R1 (.scr h r)
  | dK h r => exact Post.fin h1 R1 (.dK h r)
  | dT h r => exact Post.fin h1 R1 (.dT h r)
  | obj h r => exact Post.fin h1 R1 (.obj h r)
end
end VL

set_option Elab.async false
set_option linter.all false
set_option maxRecDepth 20000
/-! The end of a law. -/
namespace VL
open PySem PyProof.Rows PySem.Spec L2
theorem fn_calm {P : Program} {w : World} {K : PySem.W.Frag} {mg : Str → Option Value} {base : Heap} {k : Nat} {f : Addr} {fd : FuncData} {ps : List Str} {sp : Sp} (F : FnOk P w K mg base (L2.CX P w) k f fd ps sp) :
    FnOk P w K mg base CX0 k f fd ps (fun vs H Q _ => sp vs H Q E0) := by
  refine ⟨fun vs H Q E h => F.len _ _ _ _ h, fun A outer s H args us vs Q E hr e0 hb r h => ?_⟩
  refine codeAny_mono (F.run A outer s H args us vs Q E0 hr e0 hb r h) fun r s' hq => ?_
  cases r with
  | error e =>
    obtain ⟨_, _, _, _, _, _, _, _, _, _, _, _, z⟩ := hq
    exact z.elim
  | ok fl => cases fl <;> exact hq
/-- the script as data -/
def scrD (ns : List Int) : D := .scr (ns.map D.int)
/-- what the law's own call is worth -/
theorem law_end {P : Program} {w : World} {K : PySem.W.Frag} {mg : Str → Option Value} {base : Heap} {k : Nat} {f : Addr} {fd : FuncData} {G : PF} {x : Str} (hG : ∀ ns : List Int, ns.length ≤ 63 → G [scrD ns] = .ok (.bl true)) :
    ∀ (H : Hp) (a : Addr) (ns : List Int), ns.length ≤ 63 → Only H → SqL K H a (ns.map V.int) → (fun vs H Q _ => spP K 1 G vs H Q E0 : Sp) [.ref a] H (fun v _ => v = .bl true) fun _ _ _ => False := by
  intro H a ns hl _ hS
  refine ⟨[scrD ns], H, rfl, .refl H, Rps.one (.scr hS (Rps.of_ints ns)), ?_⟩
  rw [hG ns hl]
  intro F' H' v _ r
  cases r
  rfl
end VL

set_option Elab.async false
set_option linter.all false
set_option maxRecDepth 20000
/-! Plain facts about the data level. -/
namespace VL
open PySem PyProof.Rows PySem.Spec L2 PySem.W
theorem eqI (i j : Int) (s : S) : kEq (.int i) (.int j) s = .ok (.bl (decide (i = j))) s := by
  simp [kEq, look, okEq, D.py, toPy, SeqAt.shaped, PyData.canLay0, PyData.depth, PyData.eqv]
  by_cases h : i = j <;> simp [h]
theorem neI (i j : Int) (s : S) : kNe (.int i) (.int j) s = .ok (.bl (!decide (i = j))) s := by
  simp [kNe, look, okEq, D.py, toPy, SeqAt.shaped, PyData.canLay0, PyData.depth, PyData.eqv]
  by_cases h : i = j <;> simp [h]
/-- fit to be data of a text -/
theorem eqS {x y : Str} (hx : PyData.canLay0 (.str x) = true) (hy : PyData.canLay0 (.str y) = true) (s : S) : kEq (.str x) (.str y) s = .ok (.bl (decide (x = y))) s := by
  simp [kEq, look, okEq, D.py, toPy, SeqAt.shaped, PyData.depth, PyData.eqv, hx, hy]
  by_cases h : x = y <;> simp [h]
theorem neS {x y : Str} (hx : PyData.canLay0 (.str x) = true) (hy : PyData.canLay0 (.str y) = true) (s : S) : kNe (.str x) (.str y) s = .ok (.bl (!decide (x = y))) s := by
  simp [kNe, look, okEq, D.py, toPy, SeqAt.shaped, PyData.depth, PyData.eqv, hx, hy]
  by_cases h : x = y <;> simp [h]
theorem pf_non : D.pf .non = true := by simp only [D.pf]
theorem pf_bl (b : Bool) : D.pf (.bl b) = true := by simp only [D.pf]
theorem pf_int (i : Int) : D.pf (.int i) = true := by simp only [D.pf]
theorem pf_str (x : Str) : D.pf (.str x) = true := by simp only [D.pf]
theorem pf_tup (ds : List D) : D.pf (.tup ds) = pfs ds := by simp only [D.pf]
theorem pf_lst (ds : List D) : D.pf (.lst ds) = pfs ds := by simp only [D.pf]
theorem pf_scr (ds : List D) : D.pf (.scr ds) = pfs ds := by simp only [D.pf]
theorem pfs_nil : pfs [] = true := by simp only [pfs]
theorem pfs_cons (d : D) (ds : List D) : pfs (d :: ds) = (d.pf && pfs ds) := by simp only [pfs]
theorem py_int (i : Int) : D.py (.int i) = true := by simp only [D.py]
theorem py_tup (ds : List D) : D.py (.tup ds) = pys ds := by simp only [D.py]
theorem py_lst (ds : List D) : D.py (.lst ds) = pys ds := by simp only [D.py]
theorem pys_nil : pys [] = true := by simp only [pys]
theorem pys_cons (d : D) (ds : List D) : pys (d :: ds) = (d.py && pys ds) := by simp only [pys]
/-! ### loops -/
theorem loopF_nil (g : VG) (body : VS) (s : S) : loopF g body [] s = .nx s := rfl
theorem loopF_cons (g : VG) (body : VS) (d : D) (r : List D) (s : S) : loopF g body (d :: r) s = match g d s with
    | .nx s => (match body s with
      | .nx s => loopF g body r s
      | .ct s => loopF g body r s
      | .bk s => .nx s
      | .rt d s => .rt d s
      | .exc C fs s => .exc C fs s
      | .bad => .bad)
    | _ => .bad := by
  rw [loopF] <;> rfl
/-- a loop that runs to its end, by what holds between its turns -/
theorem loopF_inv {g : VG} {body : VS} (I : Nat → S → Prop) : ∀ (ds : List D) (i : Nat) (s : S), I i s →
    (∀ j d s, ds[j]? = some d → I (i + j) s → ∃ s1 s2, g d s = .nx s1 ∧ (body s1 = .nx s2 ∨ body s1 = .ct s2) ∧ I (i + j + 1) s2) → ∃ s', loopF g body ds s = .nx s' ∧ I (i + ds.length) s'
  | [], i, s, h, _ => ⟨s, rfl, h⟩
  | d :: r, i, s, h, hs => by
    obtain ⟨s1, s2, e1, e2, h2⟩ := hs 0 d s rfl h
    have h2 : I (i + 1) s2 := h2
    obtain ⟨s', e3, h3⟩ := loopF_inv I r (i + 1) s2 h2 fun j d s e q => by
      have := hs (j + 1) d s e (by rw [Nat.add_assoc, Nat.add_comm 1 j] at q; exact q)
      rw [Nat.add_assoc i 1 j, Nat.add_comm 1 j]
      exact this
    refine ⟨s', ?_, by rw [List.length_cons, Nat.add_comm r.length 1, ← Nat.add_assoc]; exact h3⟩
    rw [loopF_cons, e1]
    rcases e2 with e2 | e2 <;> (dsimp only; rw [e2]; exact e3)
/-- a comprehension whose turns leave the store -/
theorem lcGo_map {g : VG} {tt : VB} {fe : VE} {ρ : List (Option D)} {η : List Cell} (p : D → Bool) (h : D → D) : ∀ (ds acc : List D), acc.length + ds.length ≤ sizeLine →
    (∀ d ∈ ds, ∃ s1 s2, g d ⟨ρ, η⟩ = .nx s1 ∧ tt s1 = .ok (p d) s2 ∧ s2.η = η ∧ (p d = true → ∃ s3, fe s2 = .ok (h d) s3 ∧ s3.η = η)) → lcGo g tt fe ρ ds acc η = .ok (acc ++ (ds.filter p).map h) ⟨ρ, η⟩
  | [], acc, _, _ => by rw [lcGo]; simp
  | d :: r, acc, hl, H => by
    obtain ⟨s1, s2, e1, e2, e3, e4⟩ := H d List.mem_cons_self
    rw [List.length_cons] at hl
    rw [lcGo, e1]
    dsimp only
    rw [e2]
    cases hp : p d with
    | false =>
      dsimp only
      rw [e3, lcGo_map p h r acc (by omega) fun d hd => H d (List.mem_cons_of_mem _ hd)]
      rw [List.filter_cons, hp]
      simp
    | true =>
      obtain ⟨s3, e5, e6⟩ := e4 hp
      dsimp only
      rw [e5]
      dsimp only
      rw [if_pos (by omega), e6, lcGo_map p h r (acc ++ [h d]) (by simp; omega) fun d hd => H d (List.mem_cons_of_mem _ hd)]
      rw [List.filter_cons, hp]
      simp
theorem rgD_len (lo : Int) (n : Nat) : (rgD lo n).length = n := by unfold rgD; rw [List.length_map, List.length_range]
theorem rgD_get {lo : Int} {n i : Nat} {d : D} (h : (rgD lo n)[i]? = some d) : i < n ∧ d = .int (lo + (i : Nat)) := by
  unfold rgD at h
  rw [List.getElem?_map] at h
  obtain ⟨j, h1, h2⟩ := Option.map_eq_some_iff.mp h
  obtain ⟨h3, h4⟩ := List.getElem?_eq_some_iff.mp h1
  rw [List.length_range] at h3
  rw [List.getElem_range] at h4
  subst h4
  exact ⟨h3, h2.symm⟩
theorem rgD_mem {lo : Int} {n : Nat} {d : D} (h : d ∈ rgD lo n) : ∃ i, i < n ∧ d = .int (lo + (i : Nat)) := by
  obtain ⟨i, e⟩ := List.mem_iff_getElem?.mp h
  exact ⟨i, rgD_get e⟩
theorem small62_of {i : Int} (h : -4611686018427387904 ≤ i ∧ i < 4611686018427387904) : small62 i := ⟨by omega, by omega⟩
/-! ### sorting -/
theorem le_int (a b : Int) : leD (.int a) (.int b) = decide (a ≤ b) := by
  have e := congrFun (congrFun (dataLe_int (fun x : Int => x)) a) b
  rw [← e]
  show dataLe false toPy (.int a) (.int b) = _
  rw [dataLe_eq, dataLe_eq]
  rfl
theorem sort_ints (ns : List Int) : (ns.map D.int).mergeSort leD = (ns.mergeSort fun a b => decide (a ≤ b)).map D.int :=
  (sort_maps D.int fun a _ b _ => (le_int a b).symm).symm
theorem sortOk_ints (ns : List Int) : SortOk (ns.map D.int) := by
  have e : (ns.map D.int).map toPy = ns.map PyData.int := by rw [List.map_map]; rfl
  refine ⟨?_, ?_, fun d hd => ?_⟩
  · rw [e]; exact AllAlike.of fun _ _ => rfl
  · rw [e]; exact Sortable.others fun _ => ⟨fun z => (nomatch z), fun _ z => (nomatch z)⟩
  · obtain ⟨n, _, rfl⟩ := List.mem_map.mp hd
    exact Nat.zero_le _
theorem pys_ints (ns : List Int) : pys (ns.map D.int) = true := by
  induction ns with
  | nil => rfl
  | cons n r ih => rw [List.map_cons, pys, ih]; rfl
theorem pfs_ints (ns : List Int) : pfs (ns.map D.int) = true := by
  induction ns with
  | nil => rfl
  | cons n r ih => rw [List.map_cons, pfs, ih]; rfl
/-- two of them -/
theorem sort_two (a b : Int) : [D.int a, D.int b].mergeSort leD = if a ≤ b then [D.int a, D.int b] else [D.int b, D.int a] := by
  have e := sort_ints [a, b]
  simp only [List.map_cons, List.map_nil] at e
  rw [e]
  by_cases h : a ≤ b <;> simp [List.mergeSort, List.MergeSort.Internal.splitInTwo, List.merge, h]
theorem sortOk_two (a b : Int) : SortOk [D.int a, D.int b] := sortOk_ints [a, b]
end VL

set_option Elab.async false
set_option linter.all false
set_option maxRecDepth 20000
/-! The numbers that a law draws from its script: what every law begins with. -/
namespace VL
open PySem PyProof.Rows PySem.Spec L2 PySem.W
noncomputable section
theorem while_inv {c : VB} {body : VS} {Q : S → Prop} (I : S → Prop) (μ : S → Nat)
    (step : ∀ s, I s → (∃ s1, c s = .ok false s1 ∧ Q s1) ∨ ∃ s1 s2, c s = .ok true s1 ∧ (body s1 = .nx s2 ∨ body s1 = .ct s2) ∧ I s2 ∧ μ s2 < μ s) : ∀ s, I s → ∃ s', sWhile c body s = .nx s' ∧ Q s' := by
  have go : ∀ (n : Nat) (s : S), μ s ≤ n → I s → ∃ s', sWhile c body s = .nx s' ∧ Q s' := by
    intro n
    induction n with
    | zero =>
      intro s hn hI
      rcases step s hI with ⟨s1, e, q⟩ | ⟨s1, s2, _, _, _, h⟩
      · exact ⟨s1, by rw [while_eq, e], q⟩
      · omega
    | succ n ih =>
      intro s hn hI
      rcases step s hI with ⟨s1, e, q⟩ | ⟨s1, s2, e, e2, hI2, h⟩
      · exact ⟨s1, by rw [while_eq, e], q⟩
      · obtain ⟨s', e3, q⟩ := ih s2 (by omega) hI2
        refine ⟨s', ?_, q⟩
        rw [while_eq, e]
        rcases e2 with e2 | e2 <;> (dsimp only; rw [e2]; exact e3)
  exact fun s => go (μ s) s (Nat.le_refl _)
theorem cmulR (i j : Int) (h : -1000000000000 ≤ j ∧ j ≤ 1000000000000) : CMul i j := .inr (by omega)
theorem cmulL (i j : Int) (h : -1000000000000 ≤ i ∧ i ≤ 1000000000000) : CMul i j := .inl (by omega)
theorem cdiv_of (i j : Int) (h : 0 < j ∧ j < 1073741824) : CDiv i j := h
theorem cpow_of : CPow 10 18 := ⟨by decide, by decide, by decide⟩

/-! ### _law_row -/
def lrBody : VS := (sSeq (sSet 4 (e2 kMod (eCall kIntOf (aCons (e2 kAdd (e2 kMul (eVar 4) (eC (D.int 16807))) (e2 kMul (eC (D.int 271)) (e2 kAdd (eVar 5) (eC (D.int 3))))) aNil)) (eC (D.int 2147483629))))
    (sIf (bOf (e2 kGe (eCall kAbs (aCons (eVar 0) aNil)) (e2 kPow (eC (D.int 10)) (eC (D.int 18))))) (sSeq (sExpr (eApp (eVar 2) (aCons (e2 kMod (eCall kIntOf (aCons (eVar 3) aNil)) (eC (D.int 1009))) aNil)))
    (sSet 3 (e2 kDiv (eVar 3) (eC (D.int 1009))))) (sExpr (eApp (eVar 2) (aCons (e2 kMod (eCall kIntOf (aCons (e2 kDiv (eVar 4) (eC (D.int 7))) aNil)) (eC (D.int 1009))) aNil)))))
def lawRow : PF := runP 6 (sSeq (sSet 2 (eLst true aNil))
    (sSeq (sSet 3 (eCall kAbs (aCons (eVar 0) aNil)))
    (sSeq (sSet 4 (e2 kMod (eCall kIntOf (aCons (e2 kAdd (e2 kMul (eVar 3) (eC (D.int 48271))) (eC (D.int 69621))) aNil)) (eC (D.int 2147483647))))
    (sSeq (sFor (gNm 5) (itR1 (aCons (eVar 1) aNil)) lrBody)
    (sRet (eFrz (eVar 2)))))))
/-- numbers below 1009 -/
def Nums (l : List Int) : Prop := ∀ x ∈ l, 0 ≤ x ∧ x < 1009
theorem Nums.app {l m : List Int} (h : Nums l) (k : Nums m) : Nums (l ++ m) := fun x hx => (List.mem_append.mp hx).elim (h x) (k x)
theorem Nums.one {x : Int} (h : 0 ≤ x ∧ x < 1009) : Nums [x] := fun y hy => by
  have : y = x := by simpa using hy
  subst this
  exact h
theorem mod1009 (x : Int) : 0 ≤ x % 1009 ∧ x % 1009 < 1009 := ⟨Int.emod_nonneg _ (by decide), Int.emod_lt_of_pos _ (by decide)⟩
def lrSt (c : Int) (m : Nat) (rest mixed : Int) (k : Option D) (row : List Int) : S := ⟨[some (.int c), some (.int m), some (.ptr 0), some (.int rest), some (.int mixed), k], [.lst (row.map D.int)]⟩
theorem lr_turn (c : Int) (m : Nat) (rest mixed : Int) (k : Int) (row : List Int) (hl : row.length < 100000) :
    ∃ rest' mixed' x, lrBody (lrSt c m rest mixed (some (.int k)) row) = .nx (lrSt c m rest' mixed' (some (.int k)) (row ++ [x])) ∧ 0 ≤ x ∧ x < 1009 := by
  have hs : row.length < sizeLine := by rw [sizeLine_eq]; omega
  by_cases hc : (10 : Int) ^ (18 : Nat) ≤ (if c < 0 then -c else c)
  · refine ⟨rest / 1009, (mixed * 16807 + 271 * (k + 3)) % 2147483629, rest % 1009, ?_, mod1009 rest⟩
    have hc2 : (1000000000000000000 : Int) ≤ (if c < 0 then -c else c) := hc
    simp [lrBody, lrSt, runP, runS, sSeq, sExpr, sRet, sRetN, sSet, sIf, sNil, sRaise, sBrk, sCnt, sFor, sAsg, sAug, eVar, eC, e2, e1, eChain, bOf, tAnd', tOr', tNot', eAnd, eOr, eNot, eIf, callP, callS, aCons, aNil, eTup, eLst, newL, eCall, tTru, truD, kInt, kIntC, S.put, gNm, gTup', gCons', gNil', itS, itL, itT, itR1, itR2, kIx, kSl, eSl, oNone, oSome, kLen, kAbs, kMax2, kMin2, kIntOf, kAll, kAny, kTupOf, kLstOf, kIsi, eApp, kApp, eFrz, look, tYes', kNeg, kIs, kIsNot, wipeD, Res.bind, Res.bindS, pf_non, pf_bl, pf_int, pf_str, pf_tup, pf_lst, pf_scr, pfs_nil, pfs_cons, pfF, eqI, neI, eqS, neS, decide_eq_true_eq, cmulR, cmulL, cdiv_of, cpow_of, hs, hc2]
  · refine ⟨rest, (mixed * 16807 + 271 * (k + 3)) % 2147483629, (mixed * 16807 + 271 * (k + 3)) % 2147483629 / 7 % 1009, ?_, mod1009 _⟩
    have hc2 : ¬ (1000000000000000000 : Int) ≤ (if c < 0 then -c else c) := hc
    simp [lrBody, lrSt, runP, runS, sSeq, sExpr, sRet, sRetN, sSet, sIf, sNil, sRaise, sBrk, sCnt, sFor, sAsg, sAug, eVar, eC, e2, e1, eChain, bOf, tAnd', tOr', tNot', eAnd, eOr, eNot, eIf, callP, callS, aCons, aNil, eTup, eLst, newL, eCall, tTru, truD, kInt, kIntC, S.put, gNm, gTup', gCons', gNil', itS, itL, itT, itR1, itR2, kIx, kSl, eSl, oNone, oSome, kLen, kAbs, kMax2, kMin2, kIntOf, kAll, kAny, kTupOf, kLstOf, kIsi, eApp, kApp, eFrz, look, tYes', kNeg, kIs, kIsNot, wipeD, Res.bind, Res.bindS, pf_non, pf_bl, pf_int, pf_str, pf_tup, pf_lst, pf_scr, pfs_nil, pfs_cons, pfF, eqI, neI, eqS, neS, decide_eq_true_eq, cmulR, cmulL, cdiv_of, cpow_of, hs, hc2]
theorem lawRow_ok (c : Int) (m : Nat) (hm : m ≤ 10000) : ∃ row : List Int, row.length = m ∧ Nums row ∧ lawRow [.int c, .int m] = .ok (.lst (row.map D.int)) := by
  obtain ⟨s', e, rest, mixed, k, row, e2, h1, h2⟩ := loopF_inv (g := gNm 5) (body := lrBody) (fun i s => ∃ rest mixed k row, s = lrSt c m rest mixed k row ∧ row.length = i ∧ Nums row) (rgD 0 m) 0
    (lrSt c m (if c < 0 then -c else c) (((if c < 0 then -c else c) * 48271 + 69621) % 2147483647) none []) ⟨_, _, _, [], rfl, rfl, fun _ h => by cases h⟩ fun j d s hd ⟨rest, mixed, k, row, es, hl, hn⟩ => by
      obtain ⟨hj, rfl⟩ := rgD_get hd
      subst es
      obtain ⟨rest', mixed', x, e, hx⟩ := lr_turn c m rest mixed (0 + (j : Nat)) row (by omega)
      exact ⟨_, _, rfl, .inl e, rest', mixed', _, row ++ [x], rfl, by rw [List.length_append, List.length_singleton]; omega, hn.app (.one hx)⟩
  subst e2
  rw [rgD_len] at h1
  refine ⟨row, by omega, h2, ?_⟩
  have e3 : loopF (gNm 5) lrBody (rgD 0 m) ⟨[some (.int c), some (.int m), some (.ptr 0), some (.int (if c < 0 then -c else c)), some (.int (((if c < 0 then -c else c) * 48271 + 69621) % 2147483647)), none], [.lst []]⟩ = .nx (lrSt c m rest mixed k row) := e
  have hs : small62 (m : Int) := small62_of (by omega)
  simp [lawRow, runP, runS, sSeq, sExpr, sRet, sRetN, sSet, sIf, sNil, sRaise, sBrk, sCnt, sFor, sAsg, sAug, eVar, eC, e2, e1, eChain, bOf, tAnd', tOr', tNot', eAnd, eOr, eNot, eIf, callP, callS, aCons, aNil, eTup, eLst, newL, eCall, tTru, truD, kInt, kIntC, S.put, gNm, gTup', gCons', gNil', itS, itL, itT, itR1, itR2, kIx, kSl, eSl, oNone, oSome, kLen, kAbs, kMax2, kMin2, kIntOf, kAll, kAny, kTupOf, kLstOf, kIsi, eApp, kApp, eFrz, look, tYes', kNeg, kIs, kIsNot, wipeD, Res.bind, Res.bindS, pf_non, pf_bl, pf_int, pf_str, pf_tup, pf_lst, pf_scr, pfs_nil, pfs_cons, pfF, eqI, neI, eqS, neS, decide_eq_true_eq, cmulR, sizeLine_eq, hs, e3, lrSt, pfs_ints]

/-! ### _law_numbers -/
def lnIn : VS := (sExpr (eApp (eVar 4) (aCons (eVar 6) aNil)))
def lnOut : VS := (sFor (gNm 6) (itS (callP lawRow (aCons (eVar 5) (aCons (eVar 3) aNil)))) lnIn)
def lnC : VB := (bOf (e2 kLt (eCall kLen (aCons (eVar 4) aNil)) (eVar 1)))
def lnB : VS := (sExpr (eApp (eVar 4) (aCons (eC (D.int 0)) aNil)))
def lawNumbers : PF := runP 7 (sSeq (sSet 2 (eSl false (eVar 0) oNone (oSome (eC (D.int 63)))))
    (sSeq (sSet 3 (e2 kAdd (eC (D.int 1)) (e2 kDiv (eVar 1) (eCall kMax2 (aCons (eC (D.int 1)) (aCons (eCall kLen (aCons (eVar 2) aNil)) aNil))))))
    (sSeq (sSet 4 (eLst true aNil))
    (sSeq (sFor (gNm 5) (itS (eVar 2)) lnOut)
    (sSeq (sWhile lnC lnB)
    (sRet (eSl false (eVar 4) oNone (oSome (eVar 1)))))))))
def lnSt (scr : D) (m : Nat) (cs : List Int) (each : Nat) (c k : Option D) (l : List Int) : S := ⟨[some scr, some (.int m), some (.lst (cs.map D.int)), some (.int each), some (.ptr 0), c, k], [.lst (l.map D.int)]⟩
theorem ln_in (scr : D) (m : Nat) (cs : List Int) (each : Nat) (c : Option D) (x : Int) (l : List Int) (hl : l.length < 10000000) : lnIn (lnSt scr m cs each c (some (.int x)) l) = .nx (lnSt scr m cs each c (some (.int x)) (l ++ [x])) := by
  have hs : l.length < sizeLine := by rw [sizeLine_eq]; omega
  simp [lnIn, lnSt, runP, runS, sSeq, sExpr, sRet, sRetN, sSet, sIf, sNil, sRaise, sBrk, sCnt, sFor, sAsg, sAug, eVar, eC, e2, e1, eChain, bOf, tAnd', tOr', tNot', eAnd, eOr, eNot, eIf, callP, callS, aCons, aNil, eTup, eLst, newL, eCall, tTru, truD, kInt, kIntC, S.put, gNm, gTup', gCons', gNil', itS, itL, itT, itR1, itR2, kIx, kSl, eSl, oNone, oSome, kLen, kAbs, kMax2, kMin2, kIntOf, kAll, kAny, kTupOf, kLstOf, kIsi, eApp, kApp, eFrz, look, tYes', kNeg, kIs, kIsNot, wipeD, Res.bind, Res.bindS, pf_non, pf_bl, pf_int, pf_str, pf_tup, pf_lst, pf_scr, pfs_nil, pfs_cons, pfF, eqI, neI, eqS, neS, decide_eq_true_eq, hs]
theorem ln_out (scr : D) (m : Nat) (cs : List Int) (each : Nat) (he : each ≤ 10000) (c : Int) (k : Option D) (l : List Int) (hl : l.length ≤ 1000000) (hn : Nums l) :
    ∃ k' l', lnOut (lnSt scr m cs each (some (.int c)) k l) = .nx (lnSt scr m cs each (some (.int c)) k' l') ∧ l'.length = l.length + each ∧ Nums l' := by
  obtain ⟨row, r1, r2, r3⟩ := lawRow_ok c each he
  obtain ⟨s', e, k', l', e2, h1, h2⟩ := loopF_inv (g := gNm 6) (body := lnIn) (fun i s => ∃ k l', s = lnSt scr m cs each (some (.int c)) k l' ∧ l'.length = l.length + i ∧ Nums l') (row.map D.int) 0
    (lnSt scr m cs each (some (.int c)) k l) ⟨k, l, rfl, rfl, hn⟩ fun j d s hd ⟨k, l', es, hl', hn'⟩ => by
      rw [List.getElem?_map] at hd
      obtain ⟨x, hx, rfl⟩ := Option.map_eq_some_iff.mp hd
      have hj := (List.getElem?_eq_some_iff.mp hx).1
      subst es
      exact ⟨_, _, rfl, .inl (ln_in scr m cs each _ x l' (by omega)), _, _, rfl, by rw [List.length_append, List.length_singleton]; omega, hn'.app (.one (r2 x (List.mem_of_getElem? hx)))⟩
  subst e2
  rw [List.length_map] at h1
  refine ⟨k', l', ?_, by omega, h2⟩
  have e3 : loopF (gNm 6) lnIn (row.map D.int) ⟨[some scr, some (.int m), some (.lst (cs.map D.int)), some (.int each), some (.ptr 0), some (.int c), k], [.lst (l.map D.int)]⟩ = .nx (lnSt scr m cs each (some (.int c)) k' l') := e
  simp [lnOut, lnSt, runP, runS, sSeq, sExpr, sRet, sRetN, sSet, sIf, sNil, sRaise, sBrk, sCnt, sFor, sAsg, sAug, eVar, eC, e2, e1, eChain, bOf, tAnd', tOr', tNot', eAnd, eOr, eNot, eIf, callP, callS, aCons, aNil, eTup, eLst, newL, eCall, tTru, truD, kInt, kIntC, S.put, gNm, gTup', gCons', gNil', itS, itL, itT, itR1, itR2, kIx, kSl, eSl, oNone, oSome, kLen, kAbs, kMax2, kMin2, kIntOf, kAll, kAny, kTupOf, kLstOf, kIsi, eApp, kApp, eFrz, look, tYes', kNeg, kIs, kIsNot, wipeD, Res.bind, Res.bindS, pf_non, pf_bl, pf_int, pf_str, pf_tup, pf_lst, pf_scr, pfs_nil, pfs_cons, pfF, eqI, neI, eqS, neS, decide_eq_true_eq, r3]
  rw [e3]
  rfl
theorem ln_while (scr : D) (m : Nat) (hm : m ≤ 10000) (cs : List Int) (each : Nat) (c k : Option D) (l : List Int) (hl : l.length ≤ 10000000 / 2) (hn : Nums l) :
    ∃ l', sWhile lnC lnB (lnSt scr m cs each c k l) = .nx (lnSt scr m cs each c k l') ∧ m ≤ l'.length ∧ l'.length ≤ 10000000 / 2 ∧ Nums l' := by
  obtain ⟨s', e, l', e2, h⟩ := while_inv (c := lnC) (body := lnB) (Q := fun s => ∃ l', s = lnSt scr m cs each c k l' ∧ m ≤ l'.length ∧ l'.length ≤ 10000000 / 2 ∧ Nums l') (fun s => ∃ l', s = lnSt scr m cs each c k l' ∧ l'.length ≤ 10000000 / 2 ∧ Nums l')
    (fun s => match s.η with
      | [.lst ds] => m - ds.length
      | _ => 0) (fun s ⟨l', es, hl', hn'⟩ => by
      subst es
      have hs : l'.length ≤ sizeLine := by rw [sizeLine_eq]; omega
      have hs2 : l'.length < sizeLine := by rw [sizeLine_eq]; omega
      by_cases hc : l'.length < m
      · refine .inr ⟨lnSt scr m cs each c k l', lnSt scr m cs each c k (l' ++ [0]), ?_, .inl ?_, ⟨_, rfl, by rw [List.length_append, List.length_singleton]; omega, hn'.app (.one (by omega))⟩, ?_⟩
        · simp [lnC, lnSt, runP, runS, sSeq, sExpr, sRet, sRetN, sSet, sIf, sNil, sRaise, sBrk, sCnt, sFor, sAsg, sAug, eVar, eC, e2, e1, eChain, bOf, tAnd', tOr', tNot', eAnd, eOr, eNot, eIf, callP, callS, aCons, aNil, eTup, eLst, newL, eCall, tTru, truD, kInt, kIntC, S.put, gNm, gTup', gCons', gNil', itS, itL, itT, itR1, itR2, kIx, kSl, eSl, oNone, oSome, kLen, kAbs, kMax2, kMin2, kIntOf, kAll, kAny, kTupOf, kLstOf, kIsi, eApp, kApp, eFrz, look, tYes', kNeg, kIs, kIsNot, wipeD, Res.bind, Res.bindS, pf_non, pf_bl, pf_int, pf_str, pf_tup, pf_lst, pf_scr, pfs_nil, pfs_cons, pfF, eqI, neI, eqS, neS, decide_eq_true_eq, hc]
        · simp [lnB, lnSt, runP, runS, sSeq, sExpr, sRet, sRetN, sSet, sIf, sNil, sRaise, sBrk, sCnt, sFor, sAsg, sAug, eVar, eC, e2, e1, eChain, bOf, tAnd', tOr', tNot', eAnd, eOr, eNot, eIf, callP, callS, aCons, aNil, eTup, eLst, newL, eCall, tTru, truD, kInt, kIntC, S.put, gNm, gTup', gCons', gNil', itS, itL, itT, itR1, itR2, kIx, kSl, eSl, oNone, oSome, kLen, kAbs, kMax2, kMin2, kIntOf, kAll, kAny, kTupOf, kLstOf, kIsi, eApp, kApp, eFrz, look, tYes', kNeg, kIs, kIsNot, wipeD, Res.bind, Res.bindS, pf_non, pf_bl, pf_int, pf_str, pf_tup, pf_lst, pf_scr, pfs_nil, pfs_cons, pfF, eqI, neI, eqS, neS, decide_eq_true_eq, hs2]
        · simp [lnSt]
          omega
      · refine .inl ⟨lnSt scr m cs each c k l', ?_, l', rfl, by omega, hl', hn'⟩
        simp [lnC, lnSt, runP, runS, sSeq, sExpr, sRet, sRetN, sSet, sIf, sNil, sRaise, sBrk, sCnt, sFor, sAsg, sAug, eVar, eC, e2, e1, eChain, bOf, tAnd', tOr', tNot', eAnd, eOr, eNot, eIf, callP, callS, aCons, aNil, eTup, eLst, newL, eCall, tTru, truD, kInt, kIntC, S.put, gNm, gTup', gCons', gNil', itS, itL, itT, itR1, itR2, kIx, kSl, eSl, oNone, oSome, kLen, kAbs, kMax2, kMin2, kIntOf, kAll, kAny, kTupOf, kLstOf, kIsi, eApp, kApp, eFrz, look, tYes', kNeg, kIs, kIsNot, wipeD, Res.bind, Res.bindS, pf_non, pf_bl, pf_int, pf_str, pf_tup, pf_lst, pf_scr, pfs_nil, pfs_cons, pfF, eqI, neI, eqS, neS, decide_eq_true_eq, hc]) _ ⟨l, rfl, hl, hn⟩
  subst e2
  exact ⟨l', e, h⟩
theorem lawNumbers_ok (ns : List Int) (m : Nat) (hm : m ≤ 1000) (h63 : ns.length ≤ 63) : ∃ l : List Int, l.length = m ∧ Nums l ∧ lawNumbers [scrD ns, .int m] = .ok (.lst (l.map D.int)) := by
  have hmax : ∀ n : Nat, (0 : Int) < (if 1 < (n : Int) then (n : Int) else 1) := fun n => by split <;> omega
  obtain ⟨each, he, he2⟩ : ∃ each : Nat, (1 + (m : Int) / (if 1 < (ns.length : Int) then (ns.length : Int) else 1)) = each ∧ each ≤ 1001 := by
    have h1 : 0 ≤ (m : Int) / (if 1 < (ns.length : Int) then (ns.length : Int) else 1) := Int.ediv_nonneg (by omega) (Int.le_of_lt (hmax _))
    have h2 : (m : Int) / (if 1 < (ns.length : Int) then (ns.length : Int) else 1) ≤ m := Int.ediv_le_self _ (by omega)
    exact ⟨(1 + (m : Int) / (if 1 < (ns.length : Int) then (ns.length : Int) else 1)).toNat, by omega, by omega⟩
  obtain ⟨s', e, c, k, l, e2, h1, h2⟩ := loopF_inv (g := gNm 5) (body := lnOut) (fun i s => ∃ c k l, s = lnSt (scrD ns) m ns each c k l ∧ l.length = i * each ∧ Nums l) (ns.map D.int) 0
    (lnSt (scrD ns) m ns each none none []) ⟨_, _, [], rfl, by simp, fun _ h => by cases h⟩ fun j d s hd ⟨c, k, l, es, hl, hn⟩ => by
      rw [List.getElem?_map] at hd
      obtain ⟨x, hx, rfl⟩ := Option.map_eq_some_iff.mp hd
      have hj := (List.getElem?_eq_some_iff.mp hx).1
      subst es
      have hle : l.length ≤ 1000000 := by
        rw [hl]
        exact Nat.le_trans (Nat.mul_le_mul (show 0 + j ≤ 63 by omega) he2) (by decide)
      obtain ⟨k', l', e, q1, q2⟩ := ln_out (scrD ns) m ns each (by omega) x k l hle hn
      exact ⟨_, _, rfl, .inl e, _, _, _, rfl, by rw [q1, hl, Nat.add_mul _ 1, Nat.one_mul], q2⟩
  subst e2
  rw [List.length_map, Nat.zero_add] at h1
  have hle : l.length ≤ 10000000 / 2 := by
    rw [h1]
    exact Nat.le_trans (Nat.mul_le_mul h63 he2) (by decide)
  obtain ⟨l', e4, q1, q2, q3⟩ := ln_while (scrD ns) m (by omega) ns each c k l hle h2
  refine ⟨l'.take m, by rw [List.length_take]; omega, fun x hx => q3 x (List.mem_of_mem_take hx), ?_⟩
  have e3 : loopF (gNm 5) lnOut (ns.map D.int) ⟨[some (scrD ns), some (.int m), some (.lst (ns.map D.int)), some (.int each), some (.ptr 0), none, none], [.lst []]⟩ = .nx (lnSt (scrD ns) m ns each c k l) := e
  have hcut : cutD (ns.map D.int) none (some 63) = ns.map D.int := by
    unfold cutD
    have a1 : HT.sIx (ns.map D.int).length 0 none = 0 := rfl
    have a2 : HT.sIx (ns.map D.int).length (ns.map D.int).length (some 63) = min 63 (ns.map D.int).length := HT.sIx_nat _ _ 63
    rw [a1, a2, List.drop_zero, Nat.sub_zero, List.length_map]
    exact List.take_of_length_le (by rw [List.length_map]; omega)
  have hcut2 : cutD (l'.map D.int) none (some (m : Int)) = (l'.take m).map D.int := by
    unfold cutD
    have a1 : HT.sIx (l'.map D.int).length 0 none = 0 := rfl
    have a2 : HT.sIx (l'.map D.int).length (l'.map D.int).length (some (m : Int)) = min m (l'.map D.int).length := HT.sIx_nat _ _ m
    rw [a1, a2, List.drop_zero, Nat.sub_zero, List.length_map, List.map_take, Nat.min_eq_left q1]
  have hdiv : CDiv m (if 1 < (ns.length : Int) then (ns.length : Int) else 1) := ⟨hmax _, by split <;> omega⟩
  unfold scrD at e3 e4 ⊢
  simp [lawNumbers, runP, runS, sSeq, sExpr, sRet, sRetN, sSet, sIf, sNil, sRaise, sBrk, sCnt, sFor, sAsg, sAug, eVar, eC, e2, e1, eChain, bOf, tAnd', tOr', tNot', eAnd, eOr, eNot, eIf, callP, callS, aCons, aNil, eTup, eLst, newL, eCall, tTru, truD, kInt, kIntC, S.put, gNm, gTup', gCons', gNil', itS, itL, itT, itR1, itR2, kIx, kSl, eSl, oNone, oSome, kLen, kAbs, kMax2, kMin2, kIntOf, kAll, kAny, kTupOf, kLstOf, kIsi, eApp, kApp, eFrz, look, tYes', kNeg, kIs, kIsNot, wipeD, Res.bind, Res.bindS, pf_non, pf_bl, pf_int, pf_str, pf_tup, pf_lst, pf_scr, pfs_nil, pfs_cons, pfF, eqI, neI, eqS, neS, decide_eq_true_eq, hcut, hdiv, sizeLine_eq, he, e3]
  unfold lnSt at e4 ⊢
  rw [e4]
  have hp : pfs (List.take m (List.map D.int l')) = true := by
    rw [← List.map_take]
    exact pfs_ints _
  simp [hcut2, pf_lst, hp]
end
end VL

set_option Elab.async false
set_option linter.all false
set_option maxRecDepth 20000
/-! Equality of plain data: two are equal if they are the same. -/
namespace VL
open PySem PyProof.Rows PySem.Spec L2 PySem.W
/-- plain, and nested at most so deep; no truth values -/
def plD : Nat → D → Bool
  | _, .non => true
  | _, .int _ => true
  | _, .str x => PyData.strOk x
  | n + 1, .tup xs => xs.all (plD n)
  | n + 1, .lst xs => xs.all (plD n)
  | _, _ => false
theorem pl_ok : ∀ (n : Nat) (d : D), plD n d = true → d.py = true ∧ (toPy d).canLay0 = true ∧ (toPy d).depth ≤ n := by
  intro n
  induction n with
  | zero =>
    intro d h
    cases d <;> simp [plD] at h <;> simp [D.py, toPy, PyData.canLay0, PyData.depth, h]
  | succ n ih =>
    have all : ∀ xs : List D, xs.all (plD n) = true → pys xs = true ∧ PyData.canLayAll0 (toPys xs) = true ∧ PyData.depthAll (toPys xs) ≤ n := by
      intro xs
      induction xs with
      | nil => intro _; exact ⟨rfl, rfl, by simp [toPys, PyData.depthAll]⟩
      | cons x r ihr =>
        intro h
        rw [List.all_cons, Bool.and_eq_true] at h
        obtain ⟨a1, a2, a3⟩ := ih x h.1
        obtain ⟨b1, b2, b3⟩ := ihr h.2
        refine ⟨by rw [pys, a1, b1]; rfl, by rw [toPys, PyData.canLayAll0, a2, b2]; rfl, ?_⟩
        rw [toPys, PyData.depthAll]
        omega
    intro d h
    cases d with
    | tup xs =>
      rw [plD] at h
      obtain ⟨b1, b2, b3⟩ := all xs h
      exact ⟨by rw [D.py, b1], by rw [toPy, PyData.canLay0, b2], by rw [toPy, PyData.depth]; omega⟩
    | lst xs =>
      rw [plD] at h
      obtain ⟨b1, b2, b3⟩ := all xs h
      exact ⟨by rw [D.py, b1], by rw [toPy, PyData.canLay0, b2], by rw [toPy, PyData.depth]; omega⟩
    | _ => simp [plD] at h <;> simp [D.py, toPy, PyData.canLay0, PyData.depth, h]
theorem pl_eq : ∀ (n : Nat) (a b : D), plD n a = true → plD n b = true → (PyData.eqv (toPy a) (toPy b) = true ↔ a = b) := by
  intro n
  induction n with
  | zero =>
    intro a b h k
    cases a <;> simp [plD] at h <;> cases b <;> simp [plD] at k <;> simp [toPy, PyData.eqv]
  | succ n ih =>
    have all : ∀ xs ys : List D, xs.all (plD n) = true → ys.all (plD n) = true → (PyData.eqvAll (toPys xs) (toPys ys) = true ↔ xs = ys) := by
      intro xs
      induction xs with
      | nil => intro ys _ _; cases ys <;> simp [toPys, PyData.eqvAll]
      | cons x r ihr =>
        intro ys h k
        cases ys with
        | nil => simp [toPys, PyData.eqvAll]
        | cons y t =>
          rw [List.all_cons, Bool.and_eq_true] at h k
          rw [toPys, toPys, PyData.eqvAll, Bool.and_eq_true, ih x y h.1 k.1, ihr t h.2 k.2]
          simp
    intro a b h k
    cases a <;> simp [plD] at h <;> cases b <;> simp [plD] at k <;> simp [toPy, PyData.eqv]
    · exact all _ _ (by simpa using h) (by simpa using k)
    · exact all _ _ (by simpa using h) (by simpa using k)
theorem okEq_pl {d : D} (h : plD 64 d = true) : okEq d = true := by
  obtain ⟨a, b, c⟩ := pl_ok 64 d h
  rw [okEq, a, SeqAt.shaped, b]
  simpa using c
theorem kEq_yes {a b : D} {s : S} (d : D) (ha : look s a = d) (hb : look s b = d) (h : plD 64 d = true) : kEq a b s = .ok (.bl true) s := by
  rw [kEq, ha, hb, okEq_pl h, (pl_eq 64 d d h h).mpr rfl]
  rfl
theorem kNe_no {a b : D} {s : S} (d : D) (ha : look s a = d) (hb : look s b = d) (h : plD 64 d = true) : kNe a b s = .ok (.bl false) s := by
  rw [kNe, ha, hb, okEq_pl h, (pl_eq 64 d d h h).mpr rfl]
  rfl
theorem eqv_not {a b : D} (h : plD 64 a = true) (k : plD 64 b = true) (n : a ≠ b) : PyData.eqv (toPy a) (toPy b) = false := by
  cases e : PyData.eqv (toPy a) (toPy b) with
  | false => rfl
  | true => exact absurd ((pl_eq 64 a b h k).mp e) n
theorem kEq_no {a b : D} {s : S} (d e : D) (ha : look s a = d) (hb : look s b = e) (h : plD 64 d = true) (k : plD 64 e = true) (n : d ≠ e) : kEq a b s = .ok (.bl false) s := by
  rw [kEq, ha, hb, okEq_pl h, okEq_pl k, eqv_not h k n]
  rfl
theorem kNe_yes {a b : D} {s : S} (d e : D) (ha : look s a = d) (hb : look s b = e) (h : plD 64 d = true) (k : plD 64 e = true) (n : d ≠ e) : kNe a b s = .ok (.bl true) s := by
  rw [kNe, ha, hb, okEq_pl h, okEq_pl k, eqv_not h k n]
  rfl
/-- a comprehension that lays one list each turn -/
theorem lcGo_push {g : VG} {fe : VE} {ρ : List (Option D)} (f : D → List D) : ∀ (ds acc : List D) (η : List Cell), acc.length + ds.length ≤ sizeLine →
    (∀ d ∈ ds, ∀ η, ∃ s1 ρ', g d ⟨ρ, η⟩ = .nx s1 ∧ fe s1 = .ok (.ptr η.length) ⟨ρ', η ++ [.lst (f d)]⟩) →
    lcGo g tYes' fe ρ ds acc η = .ok (acc ++ (List.range ds.length).map fun i => .ptr (η.length + i)) ⟨ρ, η ++ ds.map fun d => .lst (f d)⟩
  | [], acc, η, _, _ => by rw [lcGo]; simp
  | d :: r, acc, η, hl, H => by
    obtain ⟨s1, ρ', e1, e2⟩ := H d List.mem_cons_self η
    rw [List.length_cons] at hl
    have ih := lcGo_push f r (acc ++ [.ptr η.length]) (η ++ [.lst (f d)]) (by simp; omega) fun d hd => H d (List.mem_cons_of_mem _ hd)
    rw [lcGo, e1]
    simp only [tYes']
    rw [e2]
    dsimp only
    rw [if_pos (by omega)]
    show lcGo g tYes' fe ρ r _ _ = _
    rw [ih]
    simp [List.range_succ_eq_map, Nat.add_assoc, Nat.add_comm 1]
/-- the law's pick of one number -/
noncomputable def lawPick : PF := runP 3 (sRet (e2 kMod (eCall kIntOf (aCons (e2 kIx (eVar 0) (eVar 1)) aNil)) (eVar 2)))
theorem lawPick_at {l : List Int} {i : Nat} {x m : Int} (h : l[i]? = some x) (hm : 0 < m) : lawPick [.lst (l.map D.int), .int i, .int m] = .ok (.int (x % m)) := by
  have e : atI (l.map D.int) (i : Int) = some (.int x) := atI_nat (by rw [List.getElem?_map, h]; rfl)
  simp [lawPick, runP, runS, sSeq, sExpr, sRet, sRetN, sSet, sIf, sNil, sRaise, sBrk, sCnt, sFor, sAsg, sAug, eVar, eC, e2, e1, eChain, bOf, tAnd', tOr', tNot', eAnd, eOr, eNot, eIf, callP, callS, aCons, aNil, eTup, eLst, newL, eCall, tTru, truD, kInt, kIntC, S.put, gNm, gTup', gCons', gNil', itS, itL, itT, itR1, itR2, kIx, kSl, eSl, oNone, oSome, kLen, kAbs, kMax2, kMin2, kIntOf, kSorted, kAll, kAny, kTupOf, kLstOf, kIsi, eApp, kApp, eFrz, look, tYes', kNeg, kIs, kIsNot, wipeD, Res.bind, Res.bindS, pf_non, pf_bl, pf_int, pf_str, pf_tup, pf_lst, pf_scr, pfs_nil, pfs_cons, pfF, eqI, neI, eqS, neS, decide_eq_true_eq, e, hm]
theorem seq_to {f g : VS} {s s' : S} {r : SR} (h : f s = .nx s') (k : g s' = r) : sSeq f g s = r := by rw [sSeq, h]; exact k
theorem runP_rt {n : Nat} {g : VS} {ds : List D} {d : D} {s' : S} (h : g ⟨ds.map some ++ List.replicate (n - ds.length) none, []⟩ = .rt d s') (hp : d.pf = true) : runP n g ds = .ok d := by rw [runP, h]; dsimp only; rw [if_pos hp]
theorem runP_nx {n : Nat} {g : VS} {ds : List D} {s' : S} (h : g ⟨ds.map some ++ List.replicate (n - ds.length) none, []⟩ = .nx s') : runP n g ds = .ok .non := by rw [runP, h]
theorem for_to {g : VG} {it : VA} {body : VS} {ds : List D} {s s1 : S} {r : SR} (h : it s = .ok ds s1) (k : loopF g body ds s1 = r) : sFor g it body s = r := by rw [sFor, h]; exact k
theorem rgD_map {α : Type} (n : Nat) (f : D → α) : (rgD 0 n).map f = (List.range n).map fun i : Nat => f (.int (i : Int)) := by
  unfold rgD
  rw [List.map_map]
  apply List.map_congr_left
  intro i _
  show f (.int (0 + (i : Int))) = _
  rw [Int.zero_add]
/-- a comprehension without a test whose turns leave the store -/
theorem lcGo_all {g : VG} {fe : VE} {ρ : List (Option D)} {η : List Cell} (h : D → D) (ds acc : List D) (hl : acc.length + ds.length ≤ sizeLine)
    (H : ∀ d ∈ ds, ∃ s1 s3, g d ⟨ρ, η⟩ = .nx s1 ∧ fe s1 = .ok (h d) s3 ∧ s1.η = η ∧ s3.η = η) : lcGo g tYes' fe ρ ds acc η = .ok (acc ++ ds.map h) ⟨ρ, η⟩ := by
  have e := lcGo_map (tt := tYes') (fun _ => true) h ds acc hl (fun d hd => by
    obtain ⟨s1, s3, e1, e2, e3, e4⟩ := H d hd
    exact ⟨s1, s1, e1, rfl, e3, fun _ => ⟨s3, e2, e4⟩⟩)
  rw [List.filter_eq_self.mpr fun _ _ => rfl] at e
  exact e
theorem lc_to {m : Bool} {vs : List Nat} {g : VG} {it : VA} {tt : VB} {fe : VE} {s s1 s2 : S} {ds acc : List D} (h : it s = .ok ds s1) (k : lcGo g tt fe (wipeD s1.ρ vs) ds [] s1.η = .ok acc s2) : eLc m vs g it tt fe s = newL m acc ⟨s1.ρ, s2.η⟩ := by
  rw [eLc, h]
  show Res.bind (lcGo g tt fe (wipeD s1.ρ vs) ds [] s1.η) _ = _
  rw [k]
  rfl
theorem r1_to {f : VA} {s s1 : S} {i : Int} (n : Nat) (h : f s = .ok [.int i] s1) (e : i = (n : Int)) (hn : n < 1000000000000000000) : itR1 f s = .ok (rgD 0 n) s1 := by
  have hs : small62 i := small62_of (by omega)
  subst e
  rw [itR1, h]
  dsimp only [Res.bind]
  rw [if_pos hs]
  rfl
theorem r2_to {f : VA} {s s1 : S} {i j : Int} (n : Nat) (h : f s = .ok [.int i, .int j] s1) (e : (j - i).toNat = n) (hi : -1000000000000000000 < i ∧ i < 1000000000000000000) (hj : -1000000000000000000 < j ∧ j < 1000000000000000000) : itR2 f s = .ok (rgD i n) s1 := by
  have hs : small62 i ∧ small62 j := ⟨small62_of (by omega), small62_of (by omega)⟩
  rw [itR2, h]
  dsimp only [Res.bind]
  rw [if_pos hs, e]
theorem get_fst {α : Type} (A B C : List α) {i : Nat} (h : i < A.length) : (A ++ B ++ C)[i]? = A[i]? := by
  rw [List.append_assoc, List.getElem?_append_left h]
theorem get_mid {α : Type} (A B C : List α) {i : Nat} (h : i < B.length) : (A ++ B ++ C)[A.length + i]? = B[i]? := by
  rw [List.append_assoc, List.getElem?_append_right (Nat.le_add_right _ _), Nat.add_sub_cancel_left, List.getElem?_append_left h]
theorem get_end {α : Type} (A B : List α) (x : α) {n : Nat} (h : B.length = n) : (A ++ B ++ [x])[A.length + n]? = some x := by
  subst h
  rw [List.append_assoc, List.getElem?_append_right (Nat.le_add_right _ _), Nat.add_sub_cancel_left, List.getElem?_append_right (Nat.le_refl _), Nat.sub_self]
  rfl
theorem look_ptr {s : S} {k : Nat} {xs : List D} (h : s.η[k]? = some (.lst xs)) : look s (.ptr k) = .lst xs := by
  rw [look, h]
end VL

set_option Elab.async false
set_option linter.all false
set_option maxRecDepth 20000
/-! Texts, joined lists, membership, stores into lists. -/
namespace VL
open PySem PyProof.Rows PySem.Spec L2 PySem.W
noncomputable section
/-! ### a + b, a * n -/
def kPlus (m : Bool) (a b : D) (s : S) : Res D := match look s a, look s b with
  | .int i, .int j => .ok (.int (i + j)) s
  | .str x, .str y => if x.length + y.length ≤ sizeLine then .ok (.str (x ++ y)) s else .bad
  | .lst xs, .lst ys => if xs.length + ys.length ≤ sizeLine then newL m (xs ++ ys) s else .bad
  | .tup xs, .tup ys => if xs.length + ys.length ≤ sizeLine then .ok (.tup (xs ++ ys)) s else .bad
  | _, _ => .bad
abbrev rPlus (K : PySem.W.Frag) : R2 := fun x y H Q => (rI0 (fun i j => .int (i + j)) x y H Q ∨ (∃ i j, x = .str i ∧ y = .str j ∧ i.length + j.length ≤ sizeLine ∧ Q (.str (i ++ j)) H)) ∨ (rCat x y H Q ∨ rCatA K x y H Q)
theorem opr_or {X : Cx} {f : Value → Value → Sem Value} {r r' : R2} (h : OpR X f r) (k : OpR X f r') : OpR X f (fun x y H Q => r x y H Q ∨ r' x y H Q) := by
  intro pins s σ H x y v u Q I rx ry z
  rcases z with z | z
  · exact h pins s σ H x y v u Q I rx ry z
  · exact k pins s σ H x y v u Q I rx ry z
theorem op_plus {X : Cx} : OpR X (binaryOp .Add) (rPlus X.K) := opr_or (opr_or op_add op_add_str) (opr_or op_cat op_catA)
theorem o_plus {X : Cx} {W : WX} (m : Bool) : Op2 X W (rPlus X.K) (kPlus m) := by
  intro F H ι σ s v w a b Q R p q z
  have y := R.at p
  have y2 := R.at q
  unfold kPlus at z
  split at z
  · rename_i i j e1 e2
    rw [e1] at y
    rw [e2] at y2
    rw [y.intD, y2.intD]
    exact .inl (.inl ⟨i, j, rfl, rfl, z.fin R (.int _)⟩)
  · rename_i i j e1 e2
    rw [e1] at y
    rw [e2] at y2
    rw [y.strD, y2.strD]
    split at z
    · rename_i hl
      exact .inl (.inr ⟨i, j, rfl, rfl, hl, z.fin R (.str _)⟩)
    · exact z.elim
  · rename_i xs ys e1 e2
    rw [e1] at y
    rw [e2] at y2
    obtain ⟨t, vs, rfl, h1, r1⟩ := y.lstD R.same
    obtain ⟨t2, vs2, rfl, h2, r2⟩ := y2.lstD R.same
    split at z
    · rename_i hl
      exact .inr (.inl ⟨t, t2, vs, vs2, rfl, rfl, h1, h2, by rw [r1.length, r2.length]; exact hl, new_lst R (r1.app r2) z⟩)
    · exact z.elim
  · rename_i xs ys e1 e2
    rw [e1] at y
    rw [e2] at y2
    obtain ⟨t, vs, rfl, h1, r1⟩ := y.tupD R.same
    obtain ⟨t2, vs2, rfl, h2, r2⟩ := y2.tupD R.same
    split at z
    · rename_i hl
      refine .inr (.inr ⟨t, t2, vs, vs2, rfl, rfl, h1, h2, by rw [r1.length, r2.length]; exact hl, fun e => ?_, fun e e' => ?_, fun _ _ => new_tup R (r1.app r2) z⟩)
      · subst e
        cases r1
        refine Post.fin z R ?_
        cases y2 with
        | sc y2 => exact y2
      · subst e'
        cases r2
        rw [List.append_nil] at z
        refine Post.fin z R ?_
        cases y with
        | sc y => exact y
    · exact z.elim
  · exact z.elim
/-- z * n -/
def repS (z : Str) (n : Nat) : Str := ⟨(List.replicate n z.cps).foldl (· ++ ·) #[]⟩
open Classical in
def kTimes (m : Bool) (a b : D) (s : S) : Res D := match look s a, b with
  | .int i, .int j => if CMul i j then .ok (.int (i * j)) s else .bad
  | .str z, .int k => if (k ≤ 1000000 ∧ -1000000 ≤ k) ∧ z.length * k.toNat ≤ sizeLine ∧ z.length ≤ 1000000 then .ok (.str (repS z k.toNat)) s else .bad
  | .lst xs, .int k => if (k ≤ 1000000 ∧ -1000000 ≤ k) ∧ xs.length * k.toNat ≤ sizeLine then newL m (List.replicate k.toNat xs).flatten s else .bad
  | _, _ => .bad
theorem op_mulS {X : Cx} : OpR X (binaryOp .Mult) (fun x y H Q => ∃ z k, x = .str z ∧ y = .int k ∧ (k ≤ 1000000 ∧ -1000000 ≤ k) ∧ z.length * k.toNat ≤ sizeLine ∧ z.length ≤ 1000000 ∧ Q (.str (repS z k.toNat)) H) := by
  intro pins s σ H x y v u Q I rx ry h
  obtain ⟨z, k, rfl, rfl, ⟨hk, hk2⟩, hl, hz, q⟩ := h
  obtain ⟨t, rfl⟩ := rx
  obtain ⟨t', rfl⟩ := ry
  refine P.mul_str ?_ ?_ ?_ ?_
  · have a1 : ¬ k < -(2 ^ 63 : Int) := by omega
    have a2 : ¬ k ≥ 2 ^ 63 := by omega
    rw [decide_eq_false a1, decide_eq_false a2]
    rfl
  · intro h1 _
    have h2 : (9007199254740 : Int) ≤ (2 ^ 63 - 1) / k := by
      rw [Int.le_ediv_iff_mul_le (by omega)]
      have : (9007199254740 : Int) * k ≤ 9007199254740 * 1000000 := by omega
      omega
    omega
  · intro h1 _
    exact decide_eq_false (by omega)
  · by_cases h1 : k < 1
    · rw [if_pos h1]
      have e : k.toNat = 0 := by omega
      rw [e] at q
      exact ⟨by decide, ⟨.str (repS z 0), H, I.tok _, ⟨_, rfl⟩, q⟩⟩
    · rw [if_neg h1]
      by_cases h2 : (k == 1 || z.length == 0) = true
      · rw [if_pos h2]
        have e : repS z k.toNat = z := by
          rcases (Bool.or_eq_true _ _).mp h2 with h3 | h3
          · have : k = 1 := by simpa using h3
            subst this
            show (⟨#[] ++ z.cps⟩ : Str) = z
            rw [Array.empty_append]
          · have h4 : z.cps.size = 0 := by simpa [Str.length] using h3
            have h5 : z.cps = #[] := Array.size_eq_zero_iff.mp h4
            have h6 : ∀ n, (List.replicate n (#[] : Array Nat)).foldl (· ++ ·) #[] = #[] := fun n => by
              induction n with
              | zero => rfl
              | succ n ih => rw [List.replicate_succ, List.foldl_cons, Array.empty_append, ih]
            obtain ⟨cs⟩ := z
            dsimp only at h5
            subst h5
            rw [repS, h6]
        rw [e] at q
        exact ⟨.str z, H, I, ⟨_, rfl⟩, q⟩
      · rw [if_neg h2]
        refine ⟨?_, ⟨.str (repS z k.toNat), H, I.tok _, ⟨_, rfl⟩, q⟩⟩
        have e : ∀ (n : Nat) (A : Array Nat), ((List.replicate n z.cps).foldl (· ++ ·) A).size = A.size + z.length * n := fun n => by
          induction n with
          | zero => intro A; simp
          | succ n ih => intro A; rw [List.replicate_succ, List.foldl_cons, ih, Array.size_append, Nat.mul_succ]; simp only [Str.length]; omega
        have e2 := e k.toNat #[]
        show ((List.replicate k.toNat z.cps).foldl (· ++ ·) #[]).size ≤ sizeLine
        rw [e2]
        simp
        omega
abbrev rTimes : R2 := fun x y H Q => rI CMul (fun i j => .int (i * j)) x y H Q ∨ ((∃ z k, x = .str z ∧ y = .int k ∧ (k ≤ 1000000 ∧ -1000000 ≤ k) ∧ z.length * k.toNat ≤ sizeLine ∧ z.length ≤ 1000000 ∧ Q (.str (repS z k.toNat)) H) ∨ rRep x y H Q)
theorem op_times {X : Cx} : OpR X (binaryOp .Mult) rTimes := opr_or op_mul (opr_or op_mulS op_rep)
theorem o_times {X : Cx} {W : WX} (m : Bool) : Op2 X W rTimes (kTimes m) := by
  intro F H ι σ s v w a b Q R p q z
  have y := R.at p
  unfold kTimes at z
  split at z
  · rename_i i j e1
    rw [e1] at y
    cases q
    rw [y.intD]
    split at z
    · rename_i hc
      exact .inl ⟨i, j, rfl, rfl, hc, z.fin R (.int _)⟩
    · exact z.elim
  · rename_i x k e1
    rw [e1] at y
    cases q
    rw [y.strD]
    split at z
    · rename_i hc
      exact .inr (.inl ⟨x, k, rfl, rfl, hc.1, hc.2.1, hc.2.2, z.fin R (.str _)⟩)
    · exact z.elim
  · rename_i xs k e1
    rw [e1] at y
    cases q
    obtain ⟨t, vs, rfl, h1, r1⟩ := y.lstD R.same
    split at z
    · rename_i hc
      refine .inr (.inr ⟨t, k, vs, rfl, rfl, h1, by omega, by omega, by rw [r1.length]; exact hc.2, new_lst R ?_ z⟩)
      have : ∀ n, Rps X.K F ι (List.replicate n vs).flatten (List.replicate n xs).flatten := fun n => by
        induction n with
        | zero => exact .nil
        | succ n ih => rw [List.replicate_succ, List.replicate_succ, List.flatten_cons, List.flatten_cons]; exact r1.app ih
      exact this _
    · exact z.elim
  · exact z.elim
section
variable {X : Cx} {W : WX} {pos apos p : Pos} {a b o e : Expr} {f g : VE} {fa : VA}
theorem v_plus (m : Bool) (ha : E' X W a f) (hb : E' X W b g) : E' X W (.BinOp a .Add b pos) (e2 (kPlus m) f g) := v_op op_plus (o_plus m) ha hb
theorem v_times (m : Bool) (ha : E' X W a f) (hb : E' X W b g) : E' X W (.BinOp a .Mult b pos) (e2 (kTimes m) f g) := v_op op_times (o_times m) ha hb
end
end
end VL

set_option Elab.async false
set_option linter.all false
set_option maxRecDepth 20000
/-! in, join, split, stores. -/
namespace VL
open PySem PyProof.Rows PySem.Spec L2 PySem.W
noncomputable section
/-! ### a in b -/
def inB (n b : Bool) : Bool := if n = true then !b else b
def kIn (n : Bool) (a b : D) (s : S) : Res D := match look s b with
  | .str z => (match a with
    | .str x => (match x with
      | ⟨⟨[c]⟩⟩ => .ok (.bl (inB n (decide (c ∈ z.cps.toList)))) s
      | _ => .bad)
    | _ => .bad)
  | .lst ds => if (okEq (look s a) && okEq (.lst ds)) = true then .ok (.bl (inB n (ds.any fun z => PyData.eqv (toPy z) (toPy (look s a))))) s else .bad
  | .scr ds => if (okEq (look s a) && okEq (.scr ds)) = true then .ok (.bl (inB n (ds.any fun z => PyData.eqv (toPy z) (toPy (look s a))))) s else .bad
  | .tup ds => if (okEq (look s a) && okEq (.tup ds)) = true then .ok (.bl (inB n (ds.any fun z => PyData.eqv (toPy z) (toPy (look s a))))) s else .bad
  | _ => .bad
def rInTD (n : Bool) (K : PySem.W.Frag) : R2 := fun x y H Q => ∃ d ds, Dp K H x d ∧ Dp K H y (.tuple ds) ∧ SeqAt.shaped d = true ∧ SeqAt.shaped (.tuple ds) = true ∧ Q (.bl (inB n (ds.any fun z => PyData.eqv z d))) H
theorem op_inTD {X : Cx} (hu : X.A.units + 65 < cLine) : OpR X (compareOp .In) (rInTD false X.K) := by
  intro pins s σ H x y v u Q I rx ry ⟨d, ds, hd, he, sd, se, q⟩
  obtain ⟨as, r1⟩ := Dp.reads I d x v hd rx
  obtain ⟨bs, r2⟩ := Dp.reads I (.tuple ds) y u he ry
  refine SeqAt.in_tuple_reads r2 r1 (SeqAt.canLay_of_shaped se) (SeqAt.canLay_of_shaped sd) (room_in_shaped sd hu) ?_
  exact ⟨.bl _, H, I, rfl, q⟩
theorem op_ninTD {X : Cx} (hu : X.A.units + 65 < cLine) : OpR X (compareOp .NotIn) (rInTD true X.K) := by
  intro pins s σ H x y v u Q I rx ry ⟨d, ds, hd, he, sd, se, q⟩
  obtain ⟨as, r1⟩ := Dp.reads I d x v hd rx
  obtain ⟨bs, r2⟩ := Dp.reads I (.tuple ds) y u he ry
  refine SeqAt.notIn_tuple_reads r2 r1 (SeqAt.canLay_of_shaped se) (SeqAt.canLay_of_shaped sd) (room_in_shaped sd hu) ?_
  exact ⟨.bl _, H, I, rfl, q⟩
abbrev rIn3 (K : PySem.W.Frag) : R2 := fun x y H Q => (∃ (c : Nat) (z : Str), x = .str ⟨#[c]⟩ ∧ y = .str z ∧ Q (.bl (decide (c ∈ z.cps.toList))) H) ∨ (rInD K x y H Q ∨ rInTD false K x y H Q)
abbrev rNin3 (K : PySem.W.Frag) : R2 := fun x y H Q => (∃ (c : Nat) (z : Str), x = .str ⟨#[c]⟩ ∧ y = .str z ∧ Q (.bl (!decide (c ∈ z.cps.toList))) H) ∨ (rNotInD K x y H Q ∨ rInTD true K x y H Q)
theorem o_inG {X : Cx} {W : WX} (n : Bool) {r : R2} (h1 : ∀ (c : Nat) (z : Str) H Q, Q (.bl (inB n (decide (c ∈ z.cps.toList)))) H → r (.str ⟨#[c]⟩) (.str z) H Q)
    (h2 : ∀ x y H Q d ds, Dp X.K H x d → Dp X.K H y (.list ds) → SeqAt.shaped d = true → SeqAt.shaped (.list ds) = true → Q (.bl (inB n (ds.any fun z => PyData.eqv z d))) H → r x y H Q)
    (h3 : ∀ x y H Q d ds, Dp X.K H x d → Dp X.K H y (.tuple ds) → SeqAt.shaped d = true → SeqAt.shaped (.tuple ds) = true → Q (.bl (inB n (ds.any fun z => PyData.eqv z d))) H → r x y H Q) : Op2 X W r (kIn n) := by
  intro F H ι σ s v w a b Q R p q z
  have y := R.at p
  have y2 := R.at q
  unfold kIn at z
  split at z
  · rename_i zz e1
    rw [e1] at y2
    rw [y2.strD]
    split at z
    · rename_i x
      cases p
      split at z
      · rename_i c
        exact h1 c _ H Q (Post.fin z R (.bl _))
      · exact z.elim
    · exact z.elim
  all_goals first
    | (rename_i ds e1
       rw [e1] at y2
       split at z
       · rename_i hc
         obtain ⟨c1, c2⟩ := and_t hc
         obtain ⟨c3, c4⟩ := and_t c1
         obtain ⟨c5, c6⟩ := and_t c2
         have y3 := y2.dp R.same c5
         rw [toPy, toPys_map] at y3
         rw [toPy, toPys_map] at c6
         first
           | (refine h2 _ _ H Q _ _ (y.dp R.same c3) y3 c4 c6 ?_
              have z := Post.fin z R (.bl _)
              rw [List.any_map]
              exact z)
           | (refine h3 _ _ H Q _ _ (y.dp R.same c3) y3 c4 c6 ?_
              have z := Post.fin z R (.bl _)
              rw [List.any_map]
              exact z)
       · exact z.elim)
    | exact z.elim
theorem o_in {X : Cx} {W : WX} : Op2 X W (rIn3 X.K) (kIn false) := o_inG false (fun c z H Q q => .inl ⟨c, z, rfl, rfl, q⟩) (fun x y H Q d ds a b c e q => .inr (.inl ⟨d, ds, a, b, c, e, q⟩)) (fun x y H Q d ds a b c e q => .inr (.inr ⟨d, ds, a, b, c, e, q⟩))
theorem o_nin {X : Cx} {W : WX} : Op2 X W (rNin3 X.K) (kIn true) := o_inG true (fun c z H Q q => .inl ⟨c, z, rfl, rfl, q⟩) (fun x y H Q d ds a b c e q => .inr (.inl ⟨d, ds, a, b, c, e, q⟩)) (fun x y H Q d ds a b c e q => .inr (.inr ⟨d, ds, a, b, c, e, q⟩))
section
variable {X : Cx} {W : WX} {pos apos p : Pos} {a b o e : Expr} {f g : VE} {fa : VA}
theorem v_in (hu : X.A.units + 65 < cLine) (ha : E' X W a f) (hb : E' X W b g) (hm : behindInMarks .In b = false := by rfl) : E' X W (.Compare a [.In] [b] pos) (e2 (kIn false) f g) := v_cmp (opr_or op_in_sign (opr_or (op_inD hu) (op_inTD hu))) o_in ha hb hm
theorem t_in (hu : X.A.units + 65 < cLine) (ha : E' X W a f) (hb : E' X W b g) (hm : behindInMarks .In b = false := by rfl) : T' X W (.Compare a [.In] [b] pos) (bOf (e2 (kIn false) f g)) := t_cmp (opr_or op_in_sign (opr_or (op_inD hu) (op_inTD hu))) o_in ha hb hm
theorem v_notIn (hu : X.A.units + 65 < cLine) (ha : E' X W a f) (hb : E' X W b g) (hm : behindInMarks .NotIn b = false := by rfl) : E' X W (.Compare a [.NotIn] [b] pos) (e2 (kIn true) f g) := v_cmp (opr_or op_notIn_sign (opr_or (op_notInD hu) (op_ninTD hu))) o_nin ha hb hm
theorem t_notIn (hu : X.A.units + 65 < cLine) (ha : E' X W a f) (hb : E' X W b g) (hm : behindInMarks .NotIn b = false := by rfl) : T' X W (.Compare a [.NotIn] [b] pos) (bOf (e2 (kIn true) f g)) := t_cmp (opr_or op_notIn_sign (opr_or (op_notInD hu) (op_ninTD hu))) o_nin ha hb hm
/-! ### methods of texts -/
/-- z.name(e): z a text -/
def eM1 (k : Str → D → S → Res D) (f g : VE) (s : S) : Res D := (f s).bind fun d s => match look s d with
  | .str z => (g s).bind fun y s => k z y s
  | _ => .bad
def eM0 (k : Str → S → Res D) (f : VE) (s : S) : Res D := (f s).bind fun d s => match look s d with
  | .str z => k z s
  | _ => .bad
theorem m1_run {r : V → List V → Hp → VK → Prop} {k : Str → D → S → Res D} (hk : ∀ F H ι σ s z w b Q, Rel X.K F H ι s σ → Rp X.K F ι w b → PostE X.K W F H ι σ (k z b s) Q → r (.str z) [w] H Q) {σ : L2.St} {H : Hp} {Q : VK} (h : tE X.K W (eM1 k f g) σ H Q) : tM1 r (tE X.K W f) (tE X.K W g) σ H Q := by
  obtain ⟨F, ι, s, R, h⟩ := h
  refine Post.run R h fun F1 H1 ι₁ s1 v d R1 x1 q1 h1 => ?_
  have y := R1.at q1
  split at h1
  · rename_i z e
    rw [e] at y
    rw [y.strD]
    refine ⟨⟨z, rfl⟩, Post.run R1 h1 fun F2 H2 ι₂ s2 w b R2 x2 q2 h2 => hk F2 H2 ι₂ σ s2 z w b Q R2 q2 h2⟩
  · exact h1.elim
theorem m0_run {r : V → List V → Hp → VK → Prop} {k : Str → S → Res D} (hk : ∀ F H ι σ s z Q, Rel X.K F H ι s σ → PostE X.K W F H ι σ (k z s) Q → r (.str z) [] H Q) {σ : L2.St} {H : Hp} {Q : VK} (h : tE X.K W (eM0 k f) σ H Q) : tM0 r (tE X.K W f) σ H Q := by
  obtain ⟨F, ι, s, R, h⟩ := h
  refine Post.run R h fun F1 H1 ι₁ s1 v d R1 x1 q1 h1 => ?_
  have y := R1.at q1
  split at h1
  · rename_i z e
    rw [e] at y
    rw [y.strD]
    exact ⟨⟨z, rfl⟩, hk F1 H1 ι₁ σ s1 z Q R1 h1⟩
  · exact h1.elim
def strsOf : List D → Option (List Str)
  | [] => some []
  | .str z :: r => (strsOf r).map (z :: ·)
  | _ => none
theorem strsOf_map : ∀ {ds : List D} {zs : List Str}, strsOf ds = some zs → ds = zs.map D.str
  | [], zs, h => by cases h; rfl
  | d :: r, zs, h => by
    cases d <;> first | (cases h; done) | skip
    rename_i b
    rw [strsOf] at h
    obtain ⟨cs, h1, h2⟩ := Option.map_eq_some_iff.mp h
    subst h2
    rw [strsOf_map h1, List.map_cons]
theorem strsOf_str (zs : List Str) : strsOf (zs.map D.str) = some zs := by
  induction zs with
  | nil => rfl
  | cons b r ih => rw [List.map_cons, strsOf, ih]; rfl
theorem Rps.ofStrs {K : PySem.W.Frag} {F : Hp} {ι : List Addr} : ∀ zs : List Str, Rps K F ι (zs.map V.str) (zs.map D.str)
  | [] => .nil
  | z :: zs => .cons (.str z) (Rps.ofStrs zs)
def kJoin (z : Str) (d : D) (s : S) : Res D := match look s d with
  | .lst ds => (match strsOf ds with
    | some ys => if (ys.map (·.length)).sum + ys.length * z.length ≤ 16777216 then .ok (.str (Txt.join z ys)) s else .bad
    | none => .bad)
  | .tup ds => (match strsOf ds with
    | some ys => if (ys.map (·.length)).sum + ys.length * z.length ≤ 16777216 then .ok (.str (Txt.join z ys)) s else .bad
    | none => .bad)
  | _ => .bad
theorem v_join (ho : E' X W o f) (he : E' X W e g) (hs : starEach [e] X.env = [(false, eval e X.env)] := by rfl) (hbase : attributeBase o "join" X.env (eval o X.env) = eval o X.env := by rfl) (hline : (apos.endLine == pos.line) = true := by rfl) :
    E' X W (.Call (.Attribute o "join" apos) [e] [] pos) (eM1 kJoin f g) := by
  refine imE (pe_join ho he hs hbase hline) fun σ H Q h => m1_run (fun F H ι σ s z w b Q R q z2 => ?_) h
  have y := R.at q
  unfold kJoin at z2
  split at z2
  · rename_i ds e1
    rw [e1] at y
    obtain ⟨t, vs, rfl, h1, r1⟩ := y.lstD R.same
    split at z2
    · rename_i ys e2
      rw [strsOf_map e2] at r1
      split at z2
      · rename_i hl
        exact ⟨z, t, ys, rfl, rfl, .inl (.of (by rw [h1, r1.strs])), hl, Post.fin z2 R (.str _)⟩
      · exact z2.elim
    · exact z2.elim
  · rename_i ds e1
    rw [e1] at y
    obtain ⟨t, vs, rfl, h1, r1⟩ := y.tupD R.same
    split at z2
    · rename_i ys e2
      rw [strsOf_map e2] at r1
      split at z2
      · rename_i hl
        exact ⟨z, t, ys, rfl, rfl, .inr (by rw [← r1.strs]; exact h1), hl, Post.fin z2 R (.str _)⟩
      · exact z2.elim
    · exact z2.elim
  · exact z2.elim
def kSplit (m : Bool) (z : Str) (d : D) (s : S) : Res D := match d with
  | .str b => if (b.length == 0) = false ∧ z.length + 2 ≤ sizeLine then newL m ((Txt.split z b).map D.str) s else .bad
  | _ => .bad
theorem v_split (m : Bool) (ho : E' X W o f) (he : E' X W e g) (hs : starEach [e] X.env = [(false, eval e X.env)] := by rfl) (hbase : attributeBase o "split" X.env (eval o X.env) = eval o X.env := by rfl) (hline : (apos.endLine == pos.line) = true := by rfl) :
    E' X W (.Call (.Attribute o "split" apos) [e] [] pos) (eM1 (kSplit m) f g) := by
  refine imE (pe_split ho he hs hbase hline) fun σ H Q h => m1_run (fun F H ι σ s z w b Q R q z2 => ?_) h
  unfold kSplit at z2
  split at z2
  · rename_i b
    cases q
    split at z2
    · rename_i hl
      exact ⟨z, b, rfl, rfl, hl.1, hl.2, new_lst R (.ofStrs _) z2⟩
    · exact z2.elim
  · exact z2.elim
def kUpper (z : Str) (s : S) : Res D := if z.length ≤ 5592405 then .ok (.str (Txt.upper z)) s else .bad
theorem v_upper (ho : E' X W o f) (hbase : attributeBase o "upper" X.env (eval o X.env) = eval o X.env := by rfl) (hline : (apos.endLine == pos.line) = true := by rfl) :
    E' X W (.Call (.Attribute o "upper" apos) [] [] pos) (eM0 kUpper f) := by
  refine imE (pe_upper ho hbase hline) fun σ H Q h => m0_run (fun F H ι σ s z Q R z2 => ?_) h
  unfold kUpper at z2
  split at z2
  · rename_i hl
    exact ⟨z, rfl, rfl, hl, Post.fin z2 R (.str _)⟩
  · exact z2.elim
end
/-! ### xs[i] = e -/
def sPut (f g h : VE) (s : S) : SR := (f s).bindS fun v s => (g s).bindS fun o s => (h s).bindS fun i s => match o, i with
  | .ptr k, .int j => (match s.η[k]? with
    | some (.lst xs) => (match ixN xs.length j with
      | some n => .nx ⟨s.ρ, s.η.set k (.lst (xs.set n v))⟩
      | none => .bad)
    | _ => .bad)
  | _, _ => .bad
section
variable {X : Cx} {W : WX} {pos p2 : Pos} {o i e : Expr} {f g h : VE}
theorem s_put (he : E' X W e f) (ho : E' X W o g) (hi : E' X W i h) (hs : swapsWithSole [.Subscript o i p2] e pos.line X.env = pure false := by rfl) (hw : swappedStores [.Subscript o i p2] e X.env = pure none := by rfl)
    (h1 : (assignEach [.Subscript o i p2] X.env).map (·.2) = [assign (.Subscript o i p2) X.env] := by rfl)
    (hb : ∀ v, assign (.Subscript o i p2) X.env v = (do
      let ov ← holding [v] (eval o X.env)
      let iv ← holding [v, ov] (eval i X.env)
      standAt p2
      holding [v, ov, iv] (setItem ov iv v)
      release [v, ov, iv] []) := by intro _; rfl) : S' X W (.Assign [.Subscript o i p2] e pos) (sPut f g h) := by
  refine imS (ps_asg he (pg_sub ho hi set_list hb) hs hw h1) fun Dn σ H ⟨F, ι, s, R, z⟩ => ?_
  refine PostS.run R z fun F1 H1 ι₁ s1 v d R1 x1 q1 h1 => ?_
  refine PostS.run R1 h1 fun F2 H2 ι₂ s2 ov od R2 x2 q2 h2 => ?_
  refine PostS.run R2 h2 fun F3 H3 ι₃ s3 iv idd R3 x3 q3 h3 => ?_
  split at h3
  · rename_i k j
    cases q3
    split at h3
    · rename_i xs e
      obtain ⟨a, us, e1, hj, hF, hH, r⟩ := R3.cellL (q2.mono x3.sub x3.grow) e
      cases e1
      split at h3
      · rename_i n en
        refine ⟨a, us, j, n, rfl, rfl, hH, by rw [r.length]; exact en, ?_⟩
        have x23 := x2.trans x3
        obtain ⟨R', x'⟩ := R3.write (o := .lst (us.set n v)) (c' := .lst (xs.set n d)) hj hF ⟨hF, _, upd_same, r.set (q1.mono x23.sub x23.grow) n⟩
        exact h3 _ _ _ _ R' x'
      · exact h3.elim
    · exact h3.elim
  · exact h3.elim
/-! ### a, b = x, y -/
def sPar2 (i j : Nat) (f : VA) (s : S) : SR := (f s).bindS fun ds s => match ds with
  | [a, b] => .nx ((s.put i a).put j b)
  | _ => .bad
def sPar3 (i j l : Nat) (f : VA) (s : S) : SR := (f s).bindS fun ds s => match ds with
  | [a, b, c] => .nx (((s.put i a).put j b).put l c)
  | _ => .bad
theorem s_par2 {i j : Nat} {x y : Str} {a b : Expr} {fa : VA} {px py pt : Pos} {kt k2 pt2} (hc : X.calm = true) (hN : X.N.Nodup) (ha : A' X W [a, b] fa) (hi : X.N[i]? = some x := by rfl) (hj : X.N[j]? = some y := by rfl) (hij : i ≠ j := by decide)
    (hx : X.env.scope.names.lookup x = some .local := by rfl) (hy : X.env.scope.names.lookup y = some .local := by rfl)
    (hw : swappedStores [.Tuple [.Name x px, .Name y py] kt pt] (.Tuple [a, b] k2 pt2) X.env = pure (some [x, y]) := by rfl)
    (hs : swapsWithSole [.Tuple [.Name x px, .Name y py] kt pt] (.Tuple [a, b] k2 pt2) pos.line X.env = pure false := by rfl) :
    S' X W (.Assign [.Tuple [.Name x px, .Name y py] kt pt] (.Tuple [a, b] k2 pt2) pos) (sPar2 i j fa) := by
  refine imS (ps_par hc hN hi hj hij hx hy ha hw hs) fun Dn σ H ⟨F, ι, s, R, z⟩ => ?_
  refine PostS.run R z fun F1 H1 ι₁ s1 vs ds R1 x1 q1 h1 => ?_
  split at h1
  · obtain ⟨v, w, rfl, r1, r2⟩ := q1.two_inv
    refine ⟨v, w, rfl, ?_⟩
    have R2 := (R1.put i r1).put j r2
    exact h1 _ _ _ _ R2 (.refl _ _ _)
  · exact h1.elim
theorem s_par3 {i j l : Nat} {x y z : Str} {a b c : Expr} {fa : VA} {px py pz pt : Pos} {kt k2 pt2} (hc : X.calm = true) (hN : X.N.Nodup) (ha : A' X W [a, b, c] fa) (hi : X.N[i]? = some x := by rfl) (hj : X.N[j]? = some y := by rfl) (hl : X.N[l]? = some z := by rfl) (hij : i ≠ j := by decide) (hil : i ≠ l := by decide) (hjl : j ≠ l := by decide)
    (hx : X.env.scope.names.lookup x = some .local := by rfl) (hy : X.env.scope.names.lookup y = some .local := by rfl) (hz : X.env.scope.names.lookup z = some .local := by rfl)
    (hw : swappedStores [.Tuple [.Name x px, .Name y py, .Name z pz] kt pt] (.Tuple [a, b, c] k2 pt2) X.env = pure (some [x, y, z]) := by rfl)
    (hs : swapsWithSole [.Tuple [.Name x px, .Name y py, .Name z pz] kt pt] (.Tuple [a, b, c] k2 pt2) pos.line X.env = pure false := by rfl) :
    S' X W (.Assign [.Tuple [.Name x px, .Name y py, .Name z pz] kt pt] (.Tuple [a, b, c] k2 pt2) pos) (sPar3 i j l fa) := by
  refine imS (ps_par3 hc hN hi hj hl hij hil hjl hx hy hz ha hw hs) fun Dn σ H ⟨F, ι, s, R, z⟩ => ?_
  refine PostS.run R z fun F1 H1 ι₁ s1 vs ds R1 x1 q1 h1 => ?_
  split at h1
  · cases q1 with
    | cons r1 t =>
      obtain ⟨w1, w2, rfl, r2, r3⟩ := t.two_inv
      refine ⟨_, w1, w2, rfl, ?_⟩
      exact h1 _ _ _ _ (((R1.put i r1).put j r2).put l r3) (.refl _ _ _)
  · exact h1.elim
end
end
end VL

set_option Elab.async false
set_option linter.all false
set_option maxRecDepth 20000
/-! Written tables of the module: dicts from texts to plain values. -/
namespace VL
open PySem PyProof.Rows PySem.Spec L2 PySem.W
noncomputable section
def dvD : He.Dv → D
  | .bl b => .bl b
  | .int i => .int i
  | .str x => .str x
  | _ => .non
def dvOk : He.Dv → Bool
  | .non => true
  | .bl _ => true
  | .int _ => true
  | .str _ => true
  | _ => false
abbrev Tbl := List (Str × He.Dv)
theorem keys_find {P : Params} {z : Str} : ∀ {l : List DictEntry} {ks : List Str}, l.map He.keyOf = He.keysIn P ks → z ∉ ks → l.find? (·.key.isStr z) = none ∧ l.any (·.refKey) = false
  | [], _, _, _ => ⟨rfl, rfl⟩
  | e :: r, [], h, _ => by cases h
  | e :: r, k :: ks, h, hz => by
    have h1 : He.keyOf e :: r.map He.keyOf = some (k, PyData.keyHash P k) :: He.keysIn P ks := h
    injection h1 with h2 h3
    obtain ⟨i1, i2⟩ := keys_find h3 fun m => hz (List.mem_cons_of_mem _ m)
    unfold He.keyOf at h2
    split at h2
    · rename_i x t q
      have h5 := (Prod.mk.inj (Option.some.inj h2)).1
      subst h5
      have hne : (e.key.isStr z) = false := by
        rw [q]
        show (x == z) = false
        exact beq_false_of_ne fun e => hz (by rw [e]; exact List.mem_cons_self)
      refine ⟨by rw [List.find?_cons, hne]; exact i1, ?_⟩
      have hr : e.refKey = false := by
        unfold DictEntry.refKey
        rw [q] <;> rfl
      rw [List.any_cons, hr, i2]
      rfl
    · cases h2
/-- a table of the module stands at x -/
structure KTab (K : PySem.W.Frag) (w : World) (x : Str) (kvs : Tbl) : Prop where
  at_ : ∃ es n, KDict K w (He.ga K x) es n
  has : ∀ z v, kvs.lookup z = some v → ∃ u, PySem.W.nsIn K (He.ga K x) z = some (some u) ∧ RelV (v.v K) u
  hasnt : ∀ z, kvs.lookup z = none → PySem.W.nsIn K (He.ga K x) z = some none
theorem lookup_mem {α β : Type} [BEq α] [LawfulBEq α] {k : α} {v : β} : ∀ {l : List (α × β)}, l.lookup k = some v → (k, v) ∈ l
  | [], h => by cases h
  | (a, b) :: r, h => by
    rw [List.lookup_cons] at h
    cases e : k == a with
    | true =>
      rw [e] at h
      cases h
      rw [beq_iff_eq.mp e]
      exact List.mem_cons_self
    | false =>
      rw [e] at h
      exact List.mem_cons_of_mem _ (lookup_mem h)
theorem lookup_none {α β : Type} [BEq α] [LawfulBEq α] {k : α} : ∀ {l : List (α × β)}, l.lookup k = none → k ∉ l.map Prod.fst
  | [], _ => List.not_mem_nil
  | (a, b) :: r, h => by
    rw [List.lookup_cons] at h
    cases e : k == a with
    | true => rw [e] at h; cases h
    | false =>
      rw [e] at h
      intro m
      rcases List.mem_cons.mp m with m | m
      · rw [show k = a from m, beq_self_eq_true] at e
        cases e
      · exact lookup_none h m
theorem ktab_of {K : PySem.W.Frag} {w : World} {x : Str} {kvs : Tbl} (h : He.dicW K (He.ga K x) = some (He.keysIn w.params (kvs.map Prod.fst))) (hv : He.valsB K (He.ga K x) kvs = true) : KTab K w x kvs := by
  refine ⟨He.dicW_ok h, fun z v e => ?_, fun z e => ?_⟩
  · exact He.valsB_ok hv (lookup_mem e)
  · have hz := lookup_none e
    unfold He.dicW at h
    split at h
    · rename_i c es n slots q
      split at h
      · have h2 := Option.some.inj h
        obtain ⟨i1, i2⟩ := keys_find h2 hz
        unfold PySem.W.nsIn
        rw [q]
        dsimp only
        rw [i1]
        dsimp only
        rw [i2]
        rfl
      · cases h
    · cases h
theorem hu65 {k : Nat} {A : Around} (r : Room k A) : A.units + 65 < cLine := by
  have := r.un
  omega
/-! the operations -/
def eInT (kvs : Tbl) (n : Bool) (f : VE) (s : S) : Res D := (f s).bind fun d s => match d with
  | .str z => .ok (.bl (inB n (kvs.lookup z).isSome)) s
  | _ => .bad
def eIxT (kvs : Tbl) (f : VE) (s : S) : Res D := (f s).bind fun d s => match d with
  | .str z => (match kvs.lookup z with
    | some v => if dvOk v = true then .ok (dvD v) s else .bad
    | none => .bad)
  | _ => .bad
theorem Rp.ofDv {K : PySem.W.Frag} {F : Hp} {ι : List Addr} {v : He.Dv} (h : dvOk v = true) : Rp K F ι (v.v K) (dvD v) := by
  cases v <;> first | cases h | skip
  · exact .non
  · exact .bl _
  · exact .int _
  · exact .str _
section
variable {X : Cx} {W : WX} {pos p : Pos} {a : Expr} {f : VE} {x : Str} {kvs : Tbl}
theorem v_inT (T : KTab X.K X.w x kvs) (hm : X.mg x = some (.ref (He.ga X.K x))) (ha : E' X W a f) (hg : Gl X x := by rfl) (h1 : (x == ("__debug__" : Str)) = false := by decide) (hb : behindInMarks .In (.Name x p) = false := by rfl) : E' X W (.Compare a [.In] [.Name x p] pos) (eInT kvs false f) := by
  obtain ⟨es, n, D⟩ := T.at_
  refine imE (pe_cmpR (op_in_kd D) ha (pe_glob (v := .ref (He.ga X.K x)) hg hm rfl h1) hb) fun σ H Q ⟨F, ι, s, R, z⟩ => ?_
  refine Post.run R z fun F1 H1 ι₁ s1 v d R1 x1 q1 h2 => ?_
  cases q1 <;> first | exact h2.elim | skip
  rename_i t
  cases e : kvs.lookup t with
  | none => exact ⟨t, none, rfl, rfl, T.hasnt t e, by dsimp only at h2; rw [e] at h2; exact Post.fin h2 R1 (.bl _)⟩
  | some v =>
    obtain ⟨u, e2, _⟩ := T.has t v e
    exact ⟨t, some u, rfl, rfl, e2, by dsimp only at h2; rw [e] at h2; exact Post.fin h2 R1 (.bl _)⟩
theorem t_inT (T : KTab X.K X.w x kvs) (hm : X.mg x = some (.ref (He.ga X.K x))) (ha : E' X W a f) (hg : Gl X x := by rfl) (h1 : (x == ("__debug__" : Str)) = false := by decide) (hb : behindInMarks .In (.Name x p) = false := by rfl) : T' X W (.Compare a [.In] [.Name x p] pos) (bOf (eInT kvs false f)) := by
  obtain ⟨es, n, D⟩ := T.at_
  refine imT (pt_cmpR (op_in_kd D) ha (pe_glob (v := .ref (He.ga X.K x)) hg hm rfl h1) hb) fun σ H Q z => ?_
  obtain ⟨F, ι, s, R, z⟩ := bOf_run z
  refine Post.run R z fun F1 H1 ι₁ s1 v d R1 x1 q1 h2 => ?_
  cases q1 <;> first | exact h2.elim | skip
  rename_i t
  cases e : kvs.lookup t with
  | none => exact ⟨t, none, rfl, rfl, T.hasnt t e, by dsimp only at h2; rw [e] at h2; exact Post.fin h2 R1 (.bl _)⟩
  | some v =>
    obtain ⟨u, e2, _⟩ := T.has t v e
    exact ⟨t, some u, rfl, rfl, e2, by dsimp only at h2; rw [e] at h2; exact Post.fin h2 R1 (.bl _)⟩
theorem v_ixT (T : KTab X.K X.w x kvs) (hm : X.mg x = some (.ref (He.ga X.K x))) (ha : E' X W a f) (hg : Gl X x := by rfl) (h1 : (x == ("__debug__" : Str)) = false := by decide) (hs : PlainIx a := by intro _ _; rfl) : E' X W (.Subscript (.Name x p) a pos) (eIxT kvs f) := by
  obtain ⟨es, n, D⟩ := T.at_
  refine imE (pe_ix ix_kdict (pe_glob (v := .ref (He.ga X.K x)) hg hm rfl h1) ha hs) fun σ H Q ⟨F, ι, s, R, z⟩ => ?_
  refine Post.run R z fun F1 H1 ι₁ s1 v d R1 x1 q1 h2 => ?_
  cases q1 <;> first | exact h2.elim | skip
  rename_i t
  dsimp only at h2
  split at h2
  · rename_i v e
    split at h2
    · rename_i ok
      obtain ⟨u, e2, r⟩ := T.has t v e
      exact ⟨_, t, _, rfl, rfl, ⟨es, n, u, D.at_, D.lit, e2, r⟩, Post.fin h2 R1 (.ofDv ok)⟩
    · exact h2.elim
  · exact h2.elim
end
/-! ### the head's hook, with one more Bool -/
abbrev AlE : Type := He.AlT × Bool
def obsE (fa : List He.Fa) (fn : List He.DefD) (ts : List He.Tab) (ex : PySem.W.Frag → Bool) (K : PySem.W.Frag) : AlE := (He.obsT fa fn ts K, ex K)
def obsEG (n : Nat) (fa : List He.Fa) (fn : List He.DefD) (ts : List He.Tab) (ex : PySem.W.Frag → Bool) (g : Addr → Option Obj) : AlE := obsE fa fn ts ex (He.frG g (He.asD g n))
def SaysE (fa : List He.Fa) (fn : List He.DefD) (ts : List He.Tab) (ex : PySem.W.Frag → Bool) (w : World) (K : PySem.W.Frag) : Prop := obsE fa fn ts ex K = (He.valT fn ts w, true)
def hookE (n : Nat) (fa : List He.Fa) (fn : List He.DefD) (ts : List He.Tab) (ex : PySem.W.Frag → Bool) : PySem.W.Hook where
  α := AlE
  obs := fun s => obsEG n fa fn ts ex s.heap.get?
  val := fun w => (He.valT fn ts w, true)
  says := fun w h => ∃ K : PySem.W.Frag, K.In h ∧ SaysE fa fn ts ex w K
  of := fun w s e => ⟨_, He.frG_in, e⟩
  keeps := fun w h h' ⟨K, a, c⟩ k => ⟨K, PySem.W.Frag.In.keeps a k, c⟩
theorem obsEG_eq {n : Nat} {fa : List He.Fa} {fn : List He.DefD} {ts : List He.Tab} {ex : PySem.W.Frag → Bool} {g : Addr → Option Obj} {s : Shared} (h : ∀ a, g a = s.heap.get? a) : obsEG n fa fn ts ex g = (hookE n fa fn ts ex).obs s := by
  have e : g = s.heap.get? := funext h
  subst e
  first | rfl | skip
theorem SaysE.t {fa : List He.Fa} {fn : List He.DefD} {ts : List He.Tab} {ex : PySem.W.Frag → Bool} {w : World} {K : PySem.W.Frag} (c : SaysE fa fn ts ex w K) : He.SaysT fa fn ts w K := congrArg Prod.fst c
theorem SaysE.ex {fa : List He.Fa} {fn : List He.DefD} {ts : List He.Tab} {ex : PySem.W.Frag → Bool} {w : World} {K : PySem.W.Frag} (c : SaysE fa fn ts ex w K) : ex K = true := congrArg Prod.snd c
/-- the i-th table -/
theorem SaysE.tab {fa : List He.Fa} {fn : List He.DefD} {tbs : List (Str × Tbl)} {w : World} {K : PySem.W.Frag} (c : SaysE fa fn (tbs.map fun t => (fun K => He.ga K t.1, t.2.map Prod.fst)) (fun K => tbs.all fun t => He.valsB K (He.ga K t.1) t.2) w K) (i : Nat) {t : Str × Tbl} (h : tbs[i]? = some t := by rfl) : KTab K w t.1 t.2 := by
  have e : (tbs.map fun t => (fun K => He.ga K t.1, t.2.map Prod.fst)).map (fun t : He.Tab => He.dicW K (t.1 K)) = (tbs.map fun t => ((fun K => He.ga K t.1, t.2.map Prod.fst) : He.Tab)).map fun t => some (He.keysIn w.params t.2) := congrArg (fun z : He.AlT => z.2) c.t
  have e2 := congrArg (fun l => l[i]?) e
  simp only [List.getElem?_map, h, Option.map_some] at e2
  exact ktab_of (Option.some.inj e2) (List.all_eq_true.mp c.ex t (List.mem_of_getElem? h))
end
end VL

set_option Elab.async false
set_option linter.all false
set_option maxRecDepth 20000
/-! Walks over texts too. -/
namespace VL
open PySem PyProof.Rows PySem.Spec L2 PySem.W
noncomputable section
/-- the signs of a text -/
def sgD (z : Str) : List D := z.cps.toList.map fun c => D.str ⟨#[c]⟩
def itC (f : VE) (s : S) : Res (List D) := (f s).bind fun d s => match d with
  | .str z => .ok (sgD z) s
  | _ => .bad
def itQ (f : VE) (s : S) : Res (List D) := (f s).bind fun d s => match d with
  | .scr ds => .ok ds s
  | _ => .bad
/-- a list, a tuple or a text is walked, whichever it is -/
def itU (f : VE) (s : S) : Res (List D) := (f s).bind fun d s => match d with
  | .lst ds => .ok ds s
  | .tup ds => .ok ds s
  | .scr ds => .ok ds s
  | .str z => .ok (sgD z) s
  | _ => .bad
section
variable {X : Cx} {W : WX} {pos : Pos} {tg iter a b : Expr} {f g : VE}
theorem i_str (he : E' X W iter f) : I' X W tg iter (itC f) := by
  refine imI (pi_str he) fun σ H Q ⟨F, ι, s, R, h⟩ => ?_
  refine Post.run R h fun F1 H1 ι₁ s1 v d R1 x1 q1 h1 => ?_
  cases q1 with
  | str z =>
    have hl : (sgD z).length = z.cps.size := by simp [sgD]
    refine ⟨z, rfl, Post.fin h1 R1 fun i F2 H2 ι₂ s2 σ2 R2 sF gr => ?_⟩
    refine ⟨fun hi => (by rw [hl] at hi; exact hi), fun hi => (by rw [hl] at hi; exact hi), fun x H' y hi => ?_⟩
    obtain ⟨rfl, c, e, rfl⟩ := y
    refine ⟨F2, ι₂, .str ⟨#[c]⟩, R2, .refl _ _ _, ?_, .str _⟩
    rw [sgD, List.getElem?_map, Array.getElem?_toList, e]
    rfl
  | _ => exact h1.elim
theorem i_scr (he : E' X W iter f) : I' X W tg iter (itQ f) := by
  refine imI (pi_list he) fun σ H Q ⟨F, ι, s, R, h⟩ => ?_
  refine Post.run R h fun F1 H1 ι₁ s1 v d R1 x1 q1 h1 => ?_
  cases q1 with
  | @scr a vs ds hs r =>
    refine ⟨a, rfl, ⟨vs, sqL_mono R1.same hs⟩, Post.fin h1 R1 fun i F2 H2 ι₂ s2 σ2 R2 sF gr => ?_⟩
    have hs2 : SqL X.K H2 a vs := sqL_mono R2.same (sqL_mono sF hs)
    have hl := r.length
    refine ⟨fun hi => ⟨vs, vs[i]'(by omega), hs2, List.getElem?_eq_getElem _⟩, fun hi => ⟨vs, hs2, by omega⟩, fun x H' y hi => ?_⟩
    obtain ⟨rfl, y⟩ := y
    obtain ⟨d, k1, k2⟩ := r.get' (y vs hs2)
    exact ⟨F2, ι₂, d, R2, .refl _ _ _, k1, k2.mono sF gr⟩
  | _ => exact h1.elim
theorem i_uni (he : E' X W iter f) : I' X W tg iter (itU f) := by
  refine imI (pi_or (pi_or (i_list he) (i_tup he)) (pi_or (i_scr he) (i_str he))) fun σ H Q ⟨F, ι, s, R, h⟩ => ?_
  unfold itU at h
  cases q : f s with
  | ok d s1 =>
    rw [q, bind_ok] at h
    cases d with
    | lst ds => exact .inl (.inl ⟨F, ι, s, R, by unfold itL; rw [q, bind_ok]; exact h⟩)
    | tup ds => exact .inl (.inr ⟨F, ι, s, R, by unfold itT; rw [q, bind_ok]; exact h⟩)
    | scr ds => exact .inr (.inl ⟨F, ι, s, R, by unfold itQ; rw [q, bind_ok]; exact h⟩)
    | str z => exact .inr (.inr ⟨F, ι, s, R, by unfold itC; rw [q, bind_ok]; exact h⟩)
    | _ => exact h.elim
  | exc C fs s1 => rw [q, bind_exc] at h; exact .inl (.inl ⟨F, ι, s, R, by unfold itL; rw [q, bind_exc]; exact h⟩)
  | bad => rw [q, bind_bad] at h; exact h.elim
end
end
end VL

set_option Elab.async false
set_option linter.all false
set_option maxRecDepth 20000
/-! Plain facts about texts, sums by kPlus, all over a comprehension. -/
namespace VL
open PySem PyProof.Rows PySem.Spec L2 PySem.W TL
noncomputable section
theorem plus_int (m : Bool) (i j : Int) (s : S) : kPlus m (.int i) (.int j) s = .ok (.int (i + j)) s := rfl
theorem plus_str {m : Bool} {x y : Str} {s : S} (h : x.length + y.length ≤ 16000000) : kPlus m (.str x) (.str y) s = .ok (.str (x ++ y)) s := by
  simp only [kPlus, look]
  rw [if_pos (by rw [sizeLine_eq]; omega)]
theorem plus_lst {m : Bool} {x y : List D} {s : S} (h : x.length + y.length ≤ 16000000) : kPlus m (.lst x) (.lst y) s = newL m (x ++ y) s := by
  simp only [kPlus, look]
  rw [if_pos (by rw [sizeLine_eq]; omega)]
theorem plus_tup {m : Bool} {x y : List D} {s : S} (h : x.length + y.length ≤ 16000000) : kPlus m (.tup x) (.tup y) s = .ok (.tup (x ++ y)) s := by
  simp only [kPlus, look]
  rw [if_pos (by rw [sizeLine_eq]; omega)]
theorem sgD_len (z : Str) : (sgD z).length = z.length := by simp [sgD, Str.length]
theorem at_first {w : Str} {c : Nat} {r : List Nat} (h : tl w = c :: r) : atI w.cps.toList 0 = some c := by
  refine atI_nat (j := 0) ?_
  show (tl w)[0]? = some c
  rw [h]
  rfl
theorem all_to {vs : List Nat} {g : VG} {it : VA} {fe : VE} {s s1 : S} {ds : List D} (p : D → Bool) (h : it s = .ok ds s1) (hl : ds.length ≤ 16000000)
    (H : ∀ d ∈ ds, ∃ s2 s3, g d ⟨wipeD s1.ρ vs, s1.η⟩ = .nx s2 ∧ fe s2 = .ok (.bl (p d)) s3 ∧ s2.η = s1.η ∧ s3.η = s1.η) : eCall kAll (aCons (eLc false vs g it tYes' fe) aNil) s = .ok (.bl (ds.all p)) s1 := by
  have e := lcGo_all (g := g) (fe := fe) (ρ := wipeD s1.ρ vs) (η := s1.η) (fun d => .bl (p d)) ds [] (by rw [sizeLine_eq]; simp; omega) H
  have e2 := lc_to (m := false) h e
  have e3 : [] ++ ds.map (fun d => D.bl (p d)) = (ds.map p).map D.bl := by rw [List.map_map]; rfl
  rw [e3] at e2
  have e4 : (ds.map p).all id = ds.all p := by rw [List.all_map]; rfl
  simp only [eCall, aCons, aNil, e2, newL, bind_ok, kAll, look, blsOf_bl, e4, Bool.false_eq_true, if_false]
theorem okEq_str {x : Str} (h : PyData.strOk x = true) : okEq (.str x) = true := okEq_pl h
/-- x among texts -/
theorem in_strs {n : Bool} {x : Str} {ys : List Str} {s : S} (hx : PyData.strOk x = true) (hy : ys.all PyData.strOk = true) : kIn n (.str x) (.tup (ys.map D.str)) s = .ok (.bl (inB n (decide (x ∈ ys)))) s := by
  have h2 : okEq (.tup (ys.map D.str)) = true := okEq_pl (by
    rw [plD, List.all_map]
    exact hy)
  have h3 : ((ys.map D.str).any fun z => PyData.eqv (toPy z) (toPy (.str x))) = decide (x ∈ ys) := by
    rw [List.any_map]
    clear h2 hy
    induction ys with
    | nil => rfl
    | cons y r ih =>
      rw [List.any_cons, ih]
      show ((PyData.eqv (toPy (.str y)) (toPy (.str x))) || decide (x ∈ r)) = _
      simp only [toPy, PyData.eqv]
      by_cases e : y = x
      · subst e; simp
      · have : (y == x) = false := beq_false_of_ne e
        rw [this]
        simp [show x ≠ y from fun z => e z.symm]
  simp only [kIn, look, okEq_str hx, h2, h3, Bool.and_self, if_true]
theorem seq_rt {f g : VS} {s s' : S} {d : D} (h : f s = .rt d s') : sSeq f g s = .rt d s' := by rw [sSeq, h]
theorem if_yes {c : VB} {f g : VS} {s s1 : S} {r : SR} (h : c s = .ok true s1) (k : f s1 = r) : sIf c f g s = r := by
  rw [sIf, h]
  exact k
theorem if_no {c : VB} {f g : VS} {s s1 : S} {r : SR} (h : c s = .ok false s1) (k : g s1 = r) : sIf c f g s = r := by
  rw [sIf, h]
  exact k
theorem set_to {i : Nat} {f : VE} {s s1 : S} {d : D} (h : f s = .ok d s1) : sSet i f s = .nx (s1.put i d) := by
  rw [sSet, h]
  rfl
theorem ret_to {f : VE} {s s1 : S} {d : D} (h : f s = .ok d s1) : sRet f s = .rt d s1 := by
  rw [sRet, h]
  rfl
theorem e2_to {k : D → D → S → Res D} {f g : VE} {s s1 s2 : S} {a b : D} {r : Res D} (h : f s = .ok a s1) (h2 : g s1 = .ok b s2) (h3 : k a b s2 = r) : e2 k f g s = r := by
  rw [e2, h, bind_ok, h2, bind_ok]
  exact h3
theorem no_seq {c : VB} {f g : VS} {s : S} {r : SR} (h : c s = .ok false s) (k : g s = r) : sSeq (sIf c f sNil) g s = r := seq_to (if_no h rfl) k
theorem yes_rt {c : VB} {f f2 g : VS} {s s1 : S} {d : D} (h : c s = .ok true s) (k : f s = .rt d s1) : sSeq (sIf c f f2) g s = .rt d s1 := seq_rt (if_yes h k)
/-! ### splitting at blanks -/
def wordsOf (l : List Nat) : List (List Nat) := (spl [32] 0 [] l).filter fun p => !p.isEmpty
theorem wordsOf_blank (u : List Nat) : wordsOf (32 :: u) = wordsOf u := by
  have e : spl [32] 0 [] (32 :: u) = [] :: spl [32] 0 [] u := by
    have := spl_part1 (s := 32) (S := []) (p := []) (rest := u) (acc := []) (by simp)
    simpa using this
  unfold wordsOf
  rw [e]
  rfl
theorem wordsOf_blanks (n : Nat) (u : List Nat) : wordsOf (List.replicate n 32 ++ u) = wordsOf u := by
  induction n with
  | zero => rfl
  | succ n ih => rw [List.replicate_succ, List.cons_append, wordsOf_blank, ih]
theorem wordsOf_word {w : List Nat} (h : 32 ∉ w) (hne : w ≠ []) (u : List Nat) : wordsOf (w ++ 32 :: u) = w :: wordsOf u := by
  have e : spl [32] 0 [] (w ++ 32 :: u) = w :: spl [32] 0 [] u := by
    have := spl_part1 (s := 32) (S := []) (p := w) (rest := u) (acc := []) h
    simpa using this
  unfold wordsOf
  rw [e, List.filter_cons]
  cases w with
  | nil => exact absurd rfl hne
  | cons c r => rfl
theorem wordsOf_last {w : List Nat} (h : 32 ∉ w) (hne : w ≠ []) : wordsOf w = [w] := by
  have e : spl [32] 0 [] w = [w] := by
    have := spl_last1 (s := 32) (S := []) (p := w) (acc := []) h
    simpa using this
  unfold wordsOf
  rw [e]
  cases w with
  | nil => exact absurd rfl hne
  | cons c r => rfl
theorem wordsOf_nil : wordsOf [] = [] := rfl
theorem wordsOf_end {w : List Nat} (h : 32 ∉ w) (hne : w ≠ []) (n : Nat) : wordsOf (w ++ List.replicate n 32) = [w] := by
  cases n with
  | zero => rw [List.replicate_zero, List.append_nil]; exact wordsOf_last h hne
  | succ n =>
    rw [List.replicate_succ, wordsOf_word h hne]
    have := wordsOf_blanks n []
    rw [List.append_nil] at this
    rw [this, wordsOf_nil]
theorem split_words_tl (x : Str) : ((Txt.split x " ").map tl).filter (fun p => !p.isEmpty) = wordsOf (tl x) := by
  rw [split_spl x " " (by decide) (kind_ok (by decide +kernel))]
  rfl
theorem tl_rep (n : Nat) : tl (repS " " n) = List.replicate n 32 := by
  have e : ∀ (n : Nat) (A : Array Nat), ((List.replicate n (" " : Str).cps).foldl (· ++ ·) A).toList = A.toList ++ List.replicate n 32 := fun n => by
    induction n with
    | zero => intro A; simp
    | succ n ih =>
      intro A
      rw [List.replicate_succ, List.foldl_cons, ih, Array.toList_append, List.append_assoc, List.replicate_succ]
      rfl
  show ((List.replicate n (" " : Str).cps).foldl (· ++ ·) #[]).toList = _
  rw [e]
  rfl
end
end VL

set_option Elab.async false
set_option linter.all false
set_option maxRecDepth 100000
set_option maxHeartbeats 4000000
namespace K57
open PySem PyProof.Rows PySem.Spec L2 VL
noncomputable section
def topS (i : Nat) : Stmt := PySem.Challenge.pw_paironce_k57_words_of_a_session.main.body.getD i (.Pass ⟨0, 0, 0, 0⟩)
def tb_ASKED : Tbl := [("size", (.int 0)), ("third", (.int 2)), ("least", (.int 0))]
def tb_FORMS : Tbl := [("system", (.int 1)), ("double", (.int 2)), ("product", (.int 3)), ("remove", (.int 1)), ("drop", (.int 1)), ("answer", (.int 1)), ("answers", (.int 0)), ("print", (.int 1)), ("systems", (.int 0)), ("questions", (.int 0)), ("undo", (.int 0)), ("redo", (.int 0))]
/-! is_name -/
abbrev s_is_name : Stmt := topS 3
abbrev N_is_name : List Str := ["text", "char"]
theorem sc_is_name : FnScope N_is_name ["text"] (defScope s_is_name) := ⟨rfl, rfl, rfl, by decide +kernel, rfl, by decide +kernel, by decide +kernel⟩
def b_is_name : VS := (sSeq (sIf (tOr' (tNot' (bOf (eChain kLe kLe (eC (D.int 1)) (eCall kLen (aCons (eVar 0) aNil)) (eC (D.int 12))))) (bOf (e2 (kIn false) (e2 kIx (eVar 0) (eC (D.int 0))) (eC (D.str "0123456789"))))) (sRet (eC (D.bl false))) sNil)
    (sRet (eCall kAll (aCons (eLc false [1] (gNm 1) (itU (eVar 0)) tYes' (e2 (kIn false) (eVar 1) (eC (D.str "abcdefghijklmnopqrstuvwxyz0123456789")))) aNil))))
def F_is_name : PF := runP 2 b_is_name
/-! is_number -/
abbrev s_is_number : Stmt := topS 7
abbrev N_is_number : List Str := ["word", "char"]
theorem sc_is_number : FnScope N_is_number ["word"] (defScope s_is_number) := ⟨rfl, rfl, rfl, by decide +kernel, rfl, by decide +kernel, by decide +kernel⟩
def b_is_number : VS := (sSeq (sIf (tOr' (tNot' (bOf (eChain kLe kLe (eC (D.int 1)) (eCall kLen (aCons (eVar 0) aNil)) (eC (D.int 31))))) (tNot' (tTru (eCall kAll (aCons (eLc false [1] (gNm 1) (itU (eVar 0)) tYes' (e2 (kIn false) (eVar 1) (eC (D.str "0123456789")))) aNil))))) (sRet (eC (D.bl false))) sNil)
    (sRet (eOr (e2 kEq (eVar 0) (eC (D.str "0"))) (e2 kNe (e2 kIx (eVar 0) (eC (D.int 0))) (eC (D.str "0"))))))
def F_is_number : PF := runP 2 b_is_number
/-! split_words -/
abbrev s_split_words : Stmt := topS 12
abbrev N_split_words : List Str := ["line", "word"]
theorem sc_split_words : FnScope N_split_words ["line"] (defScope s_split_words) := ⟨rfl, rfl, rfl, by decide +kernel, rfl, by decide +kernel, by decide +kernel⟩
def b_split_words : VS := (sRet (eLc false [1] (gNm 1) (itU (eM1 (kSplit false) (eVar 0) (eC (D.str " ")))) (bOf (e2 kNe (eVar 1) (eC (D.str "")))) (eVar 1)))
def F_split_words : PF := runP 2 b_split_words
/-! are_names -/
abbrev s_are_names : Stmt := topS 13
abbrev N_are_names : List Str := ["words", "word"]
theorem sc_are_names : FnScope N_are_names ["words"] (defScope s_are_names) := ⟨rfl, rfl, rfl, by decide +kernel, rfl, by decide +kernel, by decide +kernel⟩
def b_are_names : VS := (sRet (eCall kAll (aCons (eLc false [1] (gNm 1) (itU (eVar 0)) tYes' (callP F_is_name (aCons (eVar 1) aNil))) aNil)))
def F_are_names : PF := runP 2 b_are_names
/-! are_numbers -/
abbrev s_are_numbers : Stmt := topS 14
abbrev N_are_numbers : List Str := ["words", "word"]
theorem sc_are_numbers : FnScope N_are_numbers ["words"] (defScope s_are_numbers) := ⟨rfl, rfl, rfl, by decide +kernel, rfl, by decide +kernel, by decide +kernel⟩
def b_are_numbers : VS := (sRet (eAnd (e2 kLe (eCall kLen (aCons (eVar 0) aNil)) (eC (D.int 6))) (eCall kAll (aCons (eLc false [1] (gNm 1) (itU (eVar 0)) tYes' (callP F_is_number (aCons (eVar 1) aNil))) aNil))))
def F_are_numbers : PF := runP 2 b_are_numbers
/-! is_command -/
abbrev s_is_command : Stmt := topS 15
abbrev N_is_command : List Str := ["words", "first", "rest"]
theorem sc_is_command : FnScope N_is_command ["words"] (defScope s_is_command) := ⟨rfl, rfl, rfl, by decide +kernel, rfl, by decide +kernel, by decide +kernel⟩
def b_is_command : VS := (sSeq (sPar2 1 2 (aCons (e2 kIx (eVar 0) (eC (D.int 0))) (aCons (eSl false (eVar 0) (oSome (eC (D.int 1))) oNone) aNil)))
    (sSeq (sIf (bOf (eInT tb_FORMS false (eVar 1))) (sRet (eAnd (e2 kEq (eCall kLen (aCons (eVar 2) aNil)) (eIxT tb_FORMS (eVar 1))) (callP F_are_names (aCons (eVar 2) aNil)))) sNil)
    (sSeq (sIf (bOf (e2 kEq (eVar 1) (eC (D.str "take")))) (sRet (eAnd (e2 kGt (eCall kLen (aCons (eVar 2) aNil)) (eC (D.int 2))) (eAnd (callP F_are_names (aCons (eSl false (eVar 2) oNone (oSome (eC (D.int 2)))) aNil)) (callP F_are_numbers (aCons (eSl false (eVar 2) (oSome (eC (D.int 2))) oNone) aNil))))) sNil)
    (sSeq (sIf (tOr' (bOf (e2 kNe (eVar 1) (eC (D.str "ask")))) (tOr' (bOf (e2 kLt (eCall kLen (aCons (eVar 2) aNil)) (eC (D.int 3)))) (tOr' (tNot' (tTru (callP F_is_name (aCons (e2 kIx (eVar 2) (eC (D.int 0))) aNil)))) (tNot' (tTru (callP F_is_name (aCons (e2 kIx (eVar 2) (eC (D.int 2))) aNil))))))) (sRet (eC (D.bl false))) sNil)
    (sSeq (sIf (bOf (e2 kEq (e2 kIx (eVar 2) (eC (D.int 1))) (eC (D.str "closed")))) (sRet (callP F_are_numbers (aCons (eSl false (eVar 2) (oSome (eC (D.int 3))) oNone) aNil))) sNil)
    (sRet (eAnd (eInT tb_ASKED false (e2 kIx (eVar 2) (eC (D.int 1)))) (eAnd (e2 kEq (eCall kLen (aCons (eVar 2) aNil)) (e2 (kPlus false) (eC (D.int 3)) (eIxT tb_ASKED (e2 kIx (eVar 2) (eC (D.int 1)))))) (callP F_are_numbers (aCons (eSl false (eVar 2) (oSome (eC (D.int 3))) oNone) aNil))))))))))
def F_is_command : PF := runP 3 b_is_command
/-! _law_row -/
abbrev s__law_row : Stmt := topS 17
abbrev N__law_row : List Str := ["_law_cell", "_law_many", "_law_row_here", "_law_rest", "_law_mixed", "_law_k"]
theorem sc__law_row : FnScope N__law_row ["_law_cell", "_law_many"] (defScope s__law_row) := ⟨rfl, rfl, rfl, by decide +kernel, rfl, by decide +kernel, by decide +kernel⟩
def b__law_row : VS := (sSeq (sSet 2 (eLst true aNil))
    (sSeq (sSet 3 (eCall kAbs (aCons (eVar 0) aNil)))
    (sSeq (sSet 4 (e2 kMod (eCall kIntOf (aCons (e2 kAdd (e2 kMul (eVar 3) (eC (D.int 48271))) (eC (D.int 69621))) aNil)) (eC (D.int 2147483647))))
    (sSeq (sFor (gNm 5) (itR1 (aCons (eVar 1) aNil)) (sSeq (sSet 4 (e2 kMod (eCall kIntOf (aCons (e2 kAdd (e2 kMul (eVar 4) (eC (D.int 16807))) (e2 kMul (eC (D.int 271)) (e2 kAdd (eVar 5) (eC (D.int 3))))) aNil)) (eC (D.int 2147483629))))
    (sIf (bOf (e2 kGe (eCall kAbs (aCons (eVar 0) aNil)) (e2 kPow (eC (D.int 10)) (eC (D.int 18))))) (sSeq (sExpr (eApp (eVar 2) (aCons (e2 kMod (eCall kIntOf (aCons (eVar 3) aNil)) (eC (D.int 1009))) aNil)))
    (sSet 3 (e2 kDiv (eVar 3) (eC (D.int 1009))))) (sExpr (eApp (eVar 2) (aCons (e2 kMod (eCall kIntOf (aCons (e2 kDiv (eVar 4) (eC (D.int 7))) aNil)) (eC (D.int 1009))) aNil))))))
    (sRet (eFrz (eVar 2)))))))
def F__law_row : PF := runP 6 b__law_row
/-! _law_numbers -/
abbrev s__law_numbers : Stmt := topS 18
abbrev N__law_numbers : List Str := ["_law_script", "_law_many", "_law_cells", "_law_each", "_law_numbers_here", "_law_cell", "_law_number"]
theorem sc__law_numbers : FnScope N__law_numbers ["_law_script", "_law_many"] (defScope s__law_numbers) := ⟨rfl, rfl, rfl, by decide +kernel, rfl, by decide +kernel, by decide +kernel⟩
def b__law_numbers : VS := (sSeq (sSet 2 (eSl false (eVar 0) oNone (oSome (eC (D.int 63)))))
    (sSeq (sSet 3 (e2 kAdd (eC (D.int 1)) (e2 kDiv (eVar 1) (eCall kMax2 (aCons (eC (D.int 1)) (aCons (eCall kLen (aCons (eVar 2) aNil)) aNil))))))
    (sSeq (sSet 4 (eLst true aNil))
    (sSeq (sFor (gNm 5) (itS (eVar 2)) (sFor (gNm 6) (itS (callP F__law_row (aCons (eVar 5) (aCons (eVar 3) aNil)))) (sExpr (eApp (eVar 4) (aCons (eVar 6) aNil)))))
    (sSeq (sWhile (bOf (e2 kLt (eCall kLen (aCons (eVar 4) aNil)) (eVar 1))) (sExpr (eApp (eVar 4) (aCons (eC (D.int 0)) aNil))))
    (sRet (eSl false (eVar 4) oNone (oSome (eVar 1)))))))))
def F__law_numbers : PF := runP 7 b__law_numbers
/-! _law_word -/
abbrev s__law_word : Stmt := topS 19
abbrev N__law_word : List Str := ["_law_number", "_law_more", "_law_words", "_law_letters", "_law_size", "_law_long", "_law_figures", "_law_word_here", "_law_k"]
theorem sc__law_word : FnScope N__law_word ["_law_number", "_law_more"] (defScope s__law_word) := ⟨rfl, rfl, rfl, by decide +kernel, rfl, by decide +kernel, by decide +kernel⟩
def b__law_word : VS := (sSeq (sSet 2 (eTup (aCons (eC (D.str "system")) (aCons (eC (D.str "double")) (aCons (eC (D.str "product")) (aCons (eC (D.str "remove")) (aCons (eC (D.str "drop")) (aCons (eC (D.str "answer")) (aCons (eC (D.str "answers")) (aCons (eC (D.str "print")) (aCons (eC (D.str "systems")) (aCons (eC (D.str "questions")) (aCons (eC (D.str "undo")) (aCons (eC (D.str "redo")) aNil))))))))))))))
    (sSeq (sSet 2 (e2 (kPlus false) (eVar 2) (eTup (aCons (eC (D.str "take")) (aCons (eC (D.str "ask")) (aCons (eC (D.str "size")) (aCons (eC (D.str "third")) (aCons (eC (D.str "closed")) (aCons (eC (D.str "least")) (aCons (eC (D.str "end")) (aCons (eC (D.str "7")) aNil)))))))))))
    (sSeq (sSet 3 (eC (D.str "abcdefghijklmnopqrstuvwxyz0123456789")))
    (sSeq (sIf (bOf (e2 kEq (e2 kMod (eCall kIntOf (aCons (eVar 0) aNil)) (eC (D.int 4))) (eC (D.int 0)))) (sRet (e2 kIx (eVar 2) (e2 kMod (eCall kIntOf (aCons (e2 kDiv (eVar 0) (eC (D.int 4))) aNil)) (eC (D.int 20))))) sNil)
    (sSeq (sSet 4 (e2 kMod (eCall kIntOf (aCons (e2 kDiv (eVar 0) (eC (D.int 4))) aNil)) (eC (D.int 7))))
    (sSeq (sIf (bOf (e2 kEq (e2 kMod (eCall kIntOf (aCons (eVar 0) aNil)) (eC (D.int 4))) (eC (D.int 1)))) (sSeq (sSet 5 (e2 (kPlus false) (e2 (kPlus false) (eC (D.int 1)) (eVar 4)) (e2 (kTimes false) (eC (D.int 26)) (eCall kIntOf (aCons (e2 kEq (e2 kMod (eCall kIntOf (aCons (eVar 1) aNil)) (eC (D.int 5))) (eC (D.int 0))) aNil)))))
    (sSeq (sSet 6 (eM1 kJoin (eC (D.str "")) (eLc false [8] (gNm 8) (itR1 (aCons (eVar 5) aNil)) tYes' (e2 kIx (eVar 3) (e2 (kPlus false) (eC (D.int 26)) (e2 kMod (eCall kIntOf (aCons (e2 (kPlus false) (e2 (kPlus false) (eVar 1) (e2 (kTimes false) (e2 (kTimes false) (eVar 8) (eVar 8)) (eC (D.int 3)))) (e2 kDiv (eVar 0) (eC (D.int 28)))) aNil)) (eC (D.int 10))))))))
    (sRet (e2 (kPlus false) (e2 kIx (eTup (aCons (eC (D.str "")) (aCons (eC (D.str "")) (aCons (eC (D.str "")) (aCons (eC (D.str "-")) aNil))))) (e2 kMod (eCall kIntOf (aCons (eVar 1) aNil)) (eC (D.int 4)))) (eVar 6))))) sNil)
    (sSeq (sSet 7 (e2 (kPlus false) (e2 kIx (eVar 3) (e2 kMod (eCall kIntOf (aCons (eVar 1) aNil)) (eC (D.int 36)))) (eM1 kJoin (eC (D.str "")) (eLc false [8] (gNm 8) (itR1 (aCons (e2 (kTimes false) (eVar 4) (eC (D.int 2))) aNil)) tYes' (e2 kIx (eVar 3) (e2 kMod (eCall kIntOf (aCons (e2 (kPlus false) (e2 (kPlus false) (eVar 1) (e2 (kTimes false) (e2 (kTimes false) (eC (D.int 11)) (eVar 8)) (eVar 0))) (eVar 8)) aNil)) (eC (D.int 36))))))))
    (sSeq (sIf (bOf (e2 kEq (e2 kMod (eCall kIntOf (aCons (eVar 1) aNil)) (eC (D.int 9))) (eC (D.int 0)))) (sRet (e2 (kPlus false) (e2 (kPlus false) (eSl false (eVar 7) oNone (oSome (eC (D.int 2)))) (eC (D.str "_"))) (eSl false (eVar 7) (oSome (eC (D.int 2))) oNone))) sNil)
    (sRet (eVar 7))))))))))
def F__law_word : PF := runP 9 b__law_word
/-! _law_is_name -/
abbrev s__law_is_name : Stmt := topS 20
abbrev N__law_is_name : List Str := ["_law_word_here", "_law_char"]
theorem sc__law_is_name : FnScope N__law_is_name ["_law_word_here"] (defScope s__law_is_name) := ⟨rfl, rfl, rfl, by decide +kernel, rfl, by decide +kernel, by decide +kernel⟩
def b__law_is_name : VS := (sSeq (sIf (tOr' (bOf (e2 kLt (eCall kLen (aCons (eVar 0) aNil)) (eC (D.int 1)))) (tOr' (bOf (e2 kGt (eCall kLen (aCons (eVar 0) aNil)) (eC (D.int 12)))) (bOf (e2 (kIn true) (e2 kIx (eVar 0) (eC (D.int 0))) (eC (D.str "abcdefghijklmnopqrstuvwxyz")))))) (sRet (eC (D.bl false))) sNil)
    (sRet (eCall kAll (aCons (eLc false [1] (gNm 1) (itU (eVar 0)) tYes' (e2 (kIn false) (eVar 1) (eC (D.str "abcdefghijklmnopqrstuvwxyz0123456789")))) aNil))))
def F__law_is_name : PF := runP 2 b__law_is_name
/-! _law_all_names -/
abbrev s__law_all_names : Stmt := topS 21
abbrev N__law_all_names : List Str := ["_law_words", "_law_word_here"]
theorem sc__law_all_names : FnScope N__law_all_names ["_law_words"] (defScope s__law_all_names) := ⟨rfl, rfl, rfl, by decide +kernel, rfl, by decide +kernel, by decide +kernel⟩
def b__law_all_names : VS := (sRet (eCall kAll (aCons (eLc false [1] (gNm 1) (itU (eVar 0)) tYes' (callP F__law_is_name (aCons (eVar 1) aNil))) aNil)))
def F__law_all_names : PF := runP 2 b__law_all_names
/-! _law_is_number -/
abbrev s__law_is_number : Stmt := topS 22
abbrev N__law_is_number : List Str := ["_law_word_here", "_law_char"]
theorem sc__law_is_number : FnScope N__law_is_number ["_law_word_here"] (defScope s__law_is_number) := ⟨rfl, rfl, rfl, by decide +kernel, rfl, by decide +kernel, by decide +kernel⟩
def b__law_is_number : VS := (sSeq (sIf (tOr' (bOf (e2 kLt (eCall kLen (aCons (eVar 0) aNil)) (eC (D.int 1)))) (tOr' (bOf (e2 kGt (eCall kLen (aCons (eVar 0) aNil)) (eC (D.int 31)))) (tAnd' (bOf (e2 kGt (eCall kLen (aCons (eVar 0) aNil)) (eC (D.int 1)))) (bOf (e2 kEq (e2 kIx (eVar 0) (eC (D.int 0))) (eC (D.str "0"))))))) (sRet (eC (D.bl false))) sNil)
    (sRet (eCall kAll (aCons (eLc false [1] (gNm 1) (itU (eVar 0)) tYes' (e2 (kIn false) (eVar 1) (eC (D.str "0123456789")))) aNil))))
def F__law_is_number : PF := runP 2 b__law_is_number
/-! _law_all_numbers -/
abbrev s__law_all_numbers : Stmt := topS 23
abbrev N__law_all_numbers : List Str := ["_law_words", "_law_word_here"]
theorem sc__law_all_numbers : FnScope N__law_all_numbers ["_law_words"] (defScope s__law_all_numbers) := ⟨rfl, rfl, rfl, by decide +kernel, rfl, by decide +kernel, by decide +kernel⟩
def b__law_all_numbers : VS := (sRet (eAnd (e2 kLe (eCall kLen (aCons (eVar 0) aNil)) (eC (D.int 6))) (eCall kAll (aCons (eLc false [1] (gNm 1) (itU (eVar 0)) tYes' (callP F__law_is_number (aCons (eVar 1) aNil))) aNil))))
def F__law_all_numbers : PF := runP 2 b__law_all_numbers
/-! _law_command -/
abbrev s__law_command : Stmt := topS 24
abbrev N__law_command : List Str := ["_law_words", "_law_first", "_law_rest"]
theorem sc__law_command : FnScope N__law_command ["_law_words"] (defScope s__law_command) := ⟨rfl, rfl, rfl, by decide +kernel, rfl, by decide +kernel, by decide +kernel⟩
def b__law_command : VS := (sSeq (sSet 1 (e2 kIx (eVar 0) (eC (D.int 0))))
    (sSeq (sSet 2 (eSl false (eVar 0) (oSome (eC (D.int 1))) oNone))
    (sSeq (sIf (bOf (e2 (kIn false) (eVar 1) (eTup (aCons (eC (D.str "answers")) (aCons (eC (D.str "systems")) (aCons (eC (D.str "questions")) (aCons (eC (D.str "undo")) (aCons (eC (D.str "redo")) aNil)))))))) (sRet (e2 kEq (eCall kLen (aCons (eVar 2) aNil)) (eC (D.int 0)))) sNil)
    (sSeq (sIf (bOf (e2 (kIn false) (eVar 1) (eTup (aCons (eC (D.str "system")) (aCons (eC (D.str "remove")) (aCons (eC (D.str "drop")) (aCons (eC (D.str "answer")) (aCons (eC (D.str "print")) aNil)))))))) (sRet (eAnd (e2 kEq (eCall kLen (aCons (eVar 2) aNil)) (eC (D.int 1))) (callP F__law_is_name (aCons (e2 kIx (eVar 2) (eC (D.int 0))) aNil)))) sNil)
    (sSeq (sIf (bOf (e2 kEq (eVar 1) (eC (D.str "double")))) (sRet (eAnd (e2 kEq (eCall kLen (aCons (eVar 2) aNil)) (eC (D.int 2))) (callP F__law_all_names (aCons (eVar 2) aNil)))) sNil)
    (sSeq (sIf (bOf (e2 kEq (eVar 1) (eC (D.str "product")))) (sRet (eAnd (e2 kEq (eCall kLen (aCons (eVar 2) aNil)) (eC (D.int 3))) (callP F__law_all_names (aCons (eVar 2) aNil)))) sNil)
    (sSeq (sIf (bOf (e2 kEq (eVar 1) (eC (D.str "take")))) (sRet (eAnd (e2 kGt (eCall kLen (aCons (eVar 2) aNil)) (eC (D.int 2))) (eAnd (callP F__law_all_names (aCons (eSl false (eVar 2) oNone (oSome (eC (D.int 2)))) aNil)) (callP F__law_all_numbers (aCons (eSl false (eVar 2) (oSome (eC (D.int 2))) oNone) aNil))))) sNil)
    (sSeq (sIf (tOr' (bOf (e2 kNe (eVar 1) (eC (D.str "ask")))) (tOr' (bOf (e2 kLt (eCall kLen (aCons (eVar 2) aNil)) (eC (D.int 3)))) (tOr' (tNot' (tTru (callP F__law_is_name (aCons (e2 kIx (eVar 2) (eC (D.int 0))) aNil)))) (tNot' (tTru (callP F__law_is_name (aCons (e2 kIx (eVar 2) (eC (D.int 2))) aNil))))))) (sRet (eC (D.bl false))) sNil)
    (sSeq (sIf (tNot' (tTru (callP F__law_all_numbers (aCons (eSl false (eVar 2) (oSome (eC (D.int 3))) oNone) aNil)))) (sRet (eC (D.bl false))) sNil)
    (sRet (eOr (e2 kEq (e2 kIx (eVar 2) (eC (D.int 1))) (eC (D.str "closed"))) (e2 (kIn false) (eTup (aCons (e2 kIx (eVar 2) (eC (D.int 1))) (aCons (eCall kLen (aCons (eVar 2) aNil)) aNil))) (eTup (aCons (eTup (aCons (eC (D.str "size")) (aCons (eC (D.int 3)) aNil))) (aCons (eTup (aCons (eC (D.str "least")) (aCons (eC (D.int 3)) aNil))) (aCons (eTup (aCons (eC (D.str "third")) (aCons (eC (D.int 5)) aNil))) aNil))))))))))))))))
def F__law_command : PF := runP 3 b__law_command
/-! _law_formed -/
abbrev s__law_formed : Stmt := topS 25
abbrev N__law_formed : List Str := ["_law_numbers_here", "_law_words", "_law_names", "_law_figures", "_law_many", "_law_kind", "_law_word_here", "_law_k"]
theorem sc__law_formed : FnScope N__law_formed ["_law_numbers_here", "_law_words"] (defScope s__law_formed) := ⟨rfl, rfl, rfl, by decide +kernel, rfl, by decide +kernel, by decide +kernel⟩
def b__law_formed : VS := (sSeq (sSet 2 (e2 (kPlus false) (eLc false [6] (gNm 6) (itU (eVar 1)) (tTru (callP F__law_is_name (aCons (eVar 6) aNil))) (eVar 6)) (eLst false (aCons (eC (D.str "a")) (aCons (eC (D.str "b")) (aCons (eC (D.str "c")) aNil))))))
    (sSeq (sSet 3 (e2 (kPlus false) (eLc false [6] (gNm 6) (itU (eVar 1)) (tTru (callP F__law_is_number (aCons (eVar 6) aNil))) (eVar 6)) (eLst false (aCons (eC (D.str "0")) (aCons (eC (D.str "7")) (aCons (eC (D.str "12")) aNil))))))
    (sSeq (sSet 4 (e2 kMod (eCall kIntOf (aCons (e2 kIx (eVar 0) (eC (D.int 43))) aNil)) (eC (D.int 8))))
    (sSeq (sSet 5 (e2 kMod (eCall kIntOf (aCons (e2 kIx (eVar 0) (eC (D.int 42))) aNil)) (eC (D.int 12))))
    (sSeq (sIf (bOf (e2 kLt (eVar 5) (eC (D.int 3)))) (sRet (eLst true (aCons (e2 kIx (eTup (aCons (eC (D.str "answers")) (aCons (eC (D.str "systems")) (aCons (eC (D.str "questions")) (aCons (eC (D.str "undo")) (aCons (eC (D.str "redo")) aNil)))))) (e2 kMod (eVar 4) (eC (D.int 5)))) aNil))) sNil)
    (sSeq (sIf (bOf (e2 kLt (eVar 5) (eC (D.int 5)))) (sRet (eLst true (aCons (e2 kIx (eTup (aCons (eC (D.str "system")) (aCons (eC (D.str "remove")) (aCons (eC (D.str "drop")) (aCons (eC (D.str "answer")) (aCons (eC (D.str "print")) aNil)))))) (e2 kMod (eVar 4) (eC (D.int 5)))) (aCons (e2 kIx (eVar 2) (eC (D.int 0))) aNil)))) sNil)
    (sSeq (sIf (bOf (e2 kEq (eVar 5) (eC (D.int 5)))) (sRet (eLst true (aCons (eC (D.str "double")) (aCons (e2 kIx (eVar 2) (eC (D.int 0))) (aCons (e2 kIx (eVar 2) (eC (D.int 1))) aNil))))) sNil)
    (sSeq (sIf (bOf (e2 kEq (eVar 5) (eC (D.int 6)))) (sRet (eLst true (aCons (eC (D.str "product")) (aCons (e2 kIx (eVar 2) (eC (D.int 0))) (aCons (e2 kIx (eVar 2) (eC (D.int 1))) (aCons (e2 kIx (eVar 2) (eC (D.int 2))) aNil)))))) sNil)
    (sSeq (sIf (bOf (e2 kEq (eVar 5) (eC (D.int 7)))) (sRet (eLst true (aCons (eC (D.str "ask")) (aCons (e2 kIx (eVar 2) (eC (D.int 0))) (aCons (e2 kIx (eTup (aCons (eC (D.str "size")) (aCons (eC (D.str "least")) aNil))) (e2 kMod (eVar 4) (eC (D.int 2)))) (aCons (e2 kIx (eVar 2) (eC (D.int 1))) aNil)))))) sNil)
    (sSeq (sIf (bOf (e2 kEq (eVar 5) (eC (D.int 8)))) (sRet (eLst true (aCons (eC (D.str "ask")) (aCons (e2 kIx (eVar 2) (eC (D.int 0))) (aCons (eC (D.str "third")) (aCons (e2 kIx (eVar 2) (eC (D.int 1))) (aCons (e2 kIx (eVar 3) (eC (D.int 0))) (aCons (e2 kIx (eVar 3) (eC (D.int 1))) aNil)))))))) sNil)
    (sSeq (sIf (bOf (e2 kEq (eVar 5) (eC (D.int 9)))) (sRet (e2 (kPlus true) (eLst false (aCons (eC (D.str "ask")) (aCons (e2 kIx (eVar 2) (eC (D.int 0))) (aCons (eC (D.str "closed")) (aCons (e2 kIx (eVar 2) (eC (D.int 1))) aNil))))) (eLc false [7] (gNm 7) (itR1 (aCons (eVar 4) aNil)) tYes' (e2 kIx (eVar 3) (e2 kMod (eVar 7) (eCall kLen (aCons (eVar 3) aNil))))))) sNil)
    (sRet (e2 (kPlus true) (eLst false (aCons (eC (D.str "take")) (aCons (e2 kIx (eVar 2) (eC (D.int 0))) (aCons (e2 kIx (eVar 2) (eC (D.int 1))) aNil)))) (eLc false [7] (gNm 7) (itR1 (aCons (eVar 4) aNil)) tYes' (e2 kIx (eVar 3) (e2 kMod (eVar 7) (eCall kLen (aCons (eVar 3) aNil))))))))))))))))))
def F__law_formed : SF := runS 8 b__law_formed
/-! law -/
abbrev s_law : Stmt := topS 26
abbrev N_law : List Str := ["_law_script", "_law_numbers_here", "_law_words", "_law_line", "_law_place", "_law_text", "_law_k", "_law_told", "_law_passed", "_law_actual"]
theorem sc_law : FnScope N_law ["_law_script"] (defScope s_law) := ⟨rfl, rfl, rfl, by decide +kernel, rfl, by decide +kernel, by decide +kernel⟩
def b_law : VS := (sSeq (sSet 1 (callP F__law_numbers (aCons (eVar 0) (aCons (eC (D.int 60)) aNil))))
    (sSeq (sSet 2 (eLc false [6] (gNm 6) (itR1 (aCons (e2 (kPlus false) (eC (D.int 1)) (e2 kMod (eCall kIntOf (aCons (e2 kIx (eVar 1) (eC (D.int 40))) aNil)) (eC (D.int 8)))) aNil)) tYes' (callP F__law_word (aCons (e2 kIx (eVar 1) (e2 (kTimes false) (eC (D.int 2)) (eVar 6))) (aCons (e2 kIx (eVar 1) (e2 (kPlus false) (e2 (kTimes false) (eC (D.int 2)) (eVar 6)) (eC (D.int 1)))) aNil)))))
    (sSeq (sIf (bOf (e2 kGt (e2 kMod (eCall kIntOf (aCons (e2 kIx (eVar 1) (eC (D.int 41))) aNil)) (eC (D.int 3))) (eC (D.int 0)))) (sSeq (sSet 3 (callS F__law_formed (aCons (eVar 1) (aCons (eVar 2) aNil))))
    (sSeq (sSet 4 (e2 kMod (eCall kIntOf (aCons (e2 kIx (eVar 1) (eC (D.int 44))) aNil)) (eCall kLen (aCons (eVar 3) aNil))))
    (sSeq (sIf (bOf (e2 kEq (e2 kMod (eCall kIntOf (aCons (e2 kIx (eVar 1) (eC (D.int 45))) aNil)) (eC (D.int 6))) (eC (D.int 0)))) (sPut (e2 kIx (eVar 2) (eC (D.int 0))) (eVar 3) (eVar 4)) sNil)
    (sSeq (sIf (tAnd' (bOf (e2 kEq (e2 kMod (eCall kIntOf (aCons (e2 kIx (eVar 1) (eC (D.int 45))) aNil)) (eC (D.int 6))) (eC (D.int 1)))) (bOf (e2 kGt (eCall kLen (aCons (eVar 3) aNil)) (eC (D.int 1))))) (sSet 3 (e2 (kPlus true) (eSl false (eVar 3) oNone (oSome (eVar 4))) (eSl false (eVar 3) (oSome (e2 (kPlus false) (eVar 4) (eC (D.int 1)))) oNone))) sNil)
    (sSeq (sIf (bOf (e2 kEq (e2 kMod (eCall kIntOf (aCons (e2 kIx (eVar 1) (eC (D.int 45))) aNil)) (eC (D.int 6))) (eC (D.int 2)))) (sExpr (eApp (eVar 3) (aCons (e2 kIx (eVar 2) (eC (D.int 0))) aNil))) sNil)
    (sSet 2 (eFrz (eVar 3)))))))) sNil)
    (sSeq (sSet 5 (e2 (kTimes false) (eC (D.str " ")) (e2 kMod (eCall kIntOf (aCons (e2 kIx (eVar 1) (eC (D.int 46))) aNil)) (eC (D.int 3)))))
    (sSeq (sFor (gNm 6) (itR1 (aCons (eCall kLen (aCons (eVar 2) aNil)) aNil)) (sSeq (sSet 5 (e2 (kPlus false) (eVar 5) (e2 kIx (eVar 2) (eVar 6))))
    (sIf (bOf (e2 kLt (e2 (kPlus false) (eVar 6) (eC (D.int 1))) (eCall kLen (aCons (eVar 2) aNil)))) (sSet 5 (e2 (kPlus false) (eVar 5) (e2 (kTimes false) (eC (D.str " ")) (e2 (kPlus false) (eC (D.int 1)) (e2 kMod (eCall kIntOf (aCons (e2 (kPlus false) (e2 kIx (eVar 1) (eC (D.int 47))) (e2 (kTimes false) (eVar 6) (e2 kIx (eVar 1) (eC (D.int 48))))) aNil)) (eC (D.int 3))))))) sNil)))
    (sSeq (sSet 5 (e2 (kPlus false) (eVar 5) (e2 (kTimes false) (eC (D.str " ")) (e2 kMod (eCall kIntOf (aCons (e2 kIx (eVar 1) (eC (D.int 49))) aNil)) (eC (D.int 3))))))
    (sSeq (sSet 7 (callP F_split_words (aCons (eVar 5) aNil)))
    (sSeq (sIf (tOr' (tNot' (tTru (eCall kIsi (aCons (eVar 7) (aCons (eC (D.ty "list")) aNil))))) (tOr' (bOf (e2 kNe (eVar 7) (eVar 2))) (bOf (e2 kNe (callP F_split_words (aCons (e2 (kTimes false) (eC (D.str " ")) (e2 kMod (eCall kIntOf (aCons (e2 kIx (eVar 1) (eC (D.int 50))) aNil)) (eC (D.int 4)))) aNil)) (eLst false aNil))))) (sRet (eC (D.bl false))) sNil)
    (sSeq (sIf (bOf (e2 kNe (callP F_split_words (aCons (eC (D.str "a\tb \t")) aNil)) (eLst false (aCons (eC (D.str "a\tb")) (aCons (eC (D.str "\t")) aNil))))) (sRet (eC (D.bl false))) sNil)
    (sSeq (sSet 8 (eCall (kLstOf false) (aCons (eVar 2) aNil)))
    (sSeq (sSet 9 (callP F_is_command (aCons (eVar 8) aNil)))
    (sRet (eAnd (eCall kIsi (aCons (eVar 9) (aCons (eC (D.ty "bool")) aNil))) (eAnd (e2 kEq (eVar 9) (callP F__law_command (aCons (eVar 2) aNil))) (e2 kEq (eVar 8) (eVar 2))))))))))))))))
def F_law : PF := runP 10 b_law
structure Tx (K : PySem.W.Frag) (w : World) (mg : Str → Option Value) : Prop where
  n_abs : mg "abs" = none
  n_all : mg "all" = none
  n_bool : mg "bool" = none
  n_int : mg "int" = none
  n_isinstance : mg "isinstance" = none
  n_len : mg "len" = none
  n_list : mg "list" = none
  n_max : mg "max" = none
  n_range : mg "range" = none
  k_DIGITS : ∃ t, mg "DIGITS" = some (.str "0123456789" t)
  k_MOST_ASKED : ∃ t, mg "MOST_ASKED" = some (.int 6 t)
  k_MOST_DIGITS : ∃ t, mg "MOST_DIGITS" = some (.int 31 t)
  k_MOST_NAME_CHARS : ∃ t, mg "MOST_NAME_CHARS" = some (.int 12 t)
  k_NAME_CHARS : ∃ t, mg "NAME_CHARS" = some (.str "abcdefghijklmnopqrstuvwxyz0123456789" t)
  g_ASKED : mg "ASKED" = some (.ref (He.ga K "ASKED"))
  t_ASKED : KTab K w "ASKED" tb_ASKED
  g_FORMS : mg "FORMS" = some (.ref (He.ga K "FORMS"))
  t_FORMS : KTab K w "FORMS" tb_FORMS
  g_is_name : mg "is_name" = some (.ref (He.ga K "is_name"))
  g_is_number : mg "is_number" = some (.ref (He.ga K "is_number"))
  g_split_words : mg "split_words" = some (.ref (He.ga K "split_words"))
  g_are_names : mg "are_names" = some (.ref (He.ga K "are_names"))
  g_are_numbers : mg "are_numbers" = some (.ref (He.ga K "are_numbers"))
  g_is_command : mg "is_command" = some (.ref (He.ga K "is_command"))
  g__law_row : mg "_law_row" = some (.ref (He.ga K "_law_row"))
  g__law_numbers : mg "_law_numbers" = some (.ref (He.ga K "_law_numbers"))
  g__law_word : mg "_law_word" = some (.ref (He.ga K "_law_word"))
  g__law_is_name : mg "_law_is_name" = some (.ref (He.ga K "_law_is_name"))
  g__law_all_names : mg "_law_all_names" = some (.ref (He.ga K "_law_all_names"))
  g__law_is_number : mg "_law_is_number" = some (.ref (He.ga K "_law_is_number"))
  g__law_all_numbers : mg "_law_all_numbers" = some (.ref (He.ga K "_law_all_numbers"))
  g__law_command : mg "_law_command" = some (.ref (He.ga K "_law_command"))
  g__law_formed : mg "_law_formed" = some (.ref (He.ga K "_law_formed"))
  g_law : mg "law" = some (.ref (He.ga K "law"))
  d_is_name : ∃ fd, FunD K "is_name" "is_name" (defArgs s_is_name) (defBody s_is_name) (defScope s_is_name) [] [] (He.ga K "is_name") fd
  d_is_number : ∃ fd, FunD K "is_number" "is_number" (defArgs s_is_number) (defBody s_is_number) (defScope s_is_number) [] [] (He.ga K "is_number") fd
  d_split_words : ∃ fd, FunD K "split_words" "split_words" (defArgs s_split_words) (defBody s_split_words) (defScope s_split_words) [] [] (He.ga K "split_words") fd
  d_are_names : ∃ fd, FunD K "are_names" "are_names" (defArgs s_are_names) (defBody s_are_names) (defScope s_are_names) [] [] (He.ga K "are_names") fd
  d_are_numbers : ∃ fd, FunD K "are_numbers" "are_numbers" (defArgs s_are_numbers) (defBody s_are_numbers) (defScope s_are_numbers) [] [] (He.ga K "are_numbers") fd
  d_is_command : ∃ fd, FunD K "is_command" "is_command" (defArgs s_is_command) (defBody s_is_command) (defScope s_is_command) [] [] (He.ga K "is_command") fd
  d__law_row : ∃ fd, FunD K "_law_row" "_law_row" (defArgs s__law_row) (defBody s__law_row) (defScope s__law_row) [] [] (He.ga K "_law_row") fd
  d__law_numbers : ∃ fd, FunD K "_law_numbers" "_law_numbers" (defArgs s__law_numbers) (defBody s__law_numbers) (defScope s__law_numbers) [] [] (He.ga K "_law_numbers") fd
  d__law_word : ∃ fd, FunD K "_law_word" "_law_word" (defArgs s__law_word) (defBody s__law_word) (defScope s__law_word) [] [] (He.ga K "_law_word") fd
  d__law_is_name : ∃ fd, FunD K "_law_is_name" "_law_is_name" (defArgs s__law_is_name) (defBody s__law_is_name) (defScope s__law_is_name) [] [] (He.ga K "_law_is_name") fd
  d__law_all_names : ∃ fd, FunD K "_law_all_names" "_law_all_names" (defArgs s__law_all_names) (defBody s__law_all_names) (defScope s__law_all_names) [] [] (He.ga K "_law_all_names") fd
  d__law_is_number : ∃ fd, FunD K "_law_is_number" "_law_is_number" (defArgs s__law_is_number) (defBody s__law_is_number) (defScope s__law_is_number) [] [] (He.ga K "_law_is_number") fd
  d__law_all_numbers : ∃ fd, FunD K "_law_all_numbers" "_law_all_numbers" (defArgs s__law_all_numbers) (defBody s__law_all_numbers) (defScope s__law_all_numbers) [] [] (He.ga K "_law_all_numbers") fd
  d__law_command : ∃ fd, FunD K "_law_command" "_law_command" (defArgs s__law_command) (defBody s__law_command) (defScope s__law_command) [] [] (He.ga K "_law_command") fd
  d__law_formed : ∃ fd, FunD K "_law_formed" "_law_formed" (defArgs s__law_formed) (defBody s__law_formed) (defScope s__law_formed) [] [] (He.ga K "_law_formed") fd
  d_law : ∃ fd, FunD K "law" "law" (defArgs s_law) (defBody s_law) (defScope s_law) [] [] (He.ga K "law") fd
theorem ok_is_name {P : Program} {w : World} {K : PySem.W.Frag} {mg : Str → Option Value} {base : Heap} {fd : FuncData} (T : Tx K w mg) (D₀ : FunD K "is_name" "is_name" (defArgs s_is_name) (defBody s_is_name) (defScope s_is_name) [] [] (He.ga K "is_name") fd) :
    FnOk P w K mg base (L2.CX P w) 1 (He.ga K "is_name") fd ["text"] (spP K 1 F_is_name) := by
  exact ok_fn D₀ sc_is_name fun cdv A outer s H E hr => (b_cons (s_if (t_w (w_or (t_not (t_chain op_le op_le ol_le ol_le v_int (v_len T.n_len (a_cons (v_var 0) a_nil)) (v_glob (v := .int 12) rfl T.k_MOST_NAME_CHARS.choose_spec ⟨_, rfl⟩ fun _ _ => .int _))) (w_or1 (t_in (hu65 hr) (v_ix (v_var 0) v_int) v_str)))) (b_one (s_ret v_bl)) b_nil)
    (b_one (s_ret (v_all rfl T.n_all (a_cons (v_lc (own := [("char", 1)]) false rfl sc_is_name.nd (i_uni (v_var 0)) (blkOk_by (N := N_is_name) (own := [("char", 1)]) (by kernel_rfl)) (by decide) (fun _ _ _ _ _ => (g_nm sc_is_name.nd 1)) (fun _ _ _ _ _ => ts_nil) (fun _ _ _ _ _ => (v_in (hu65 hr) (v_var 1) (v_glob (v := .str "abcdefghijklmnopqrstuvwxyz0123456789") rfl T.k_NAME_CHARS.choose_spec ⟨_, rfl⟩ fun _ _ => .str _)))) a_nil)))))
theorem ok_is_number {P : Program} {w : World} {K : PySem.W.Frag} {mg : Str → Option Value} {base : Heap} {fd : FuncData} (T : Tx K w mg) (D₀ : FunD K "is_number" "is_number" (defArgs s_is_number) (defBody s_is_number) (defScope s_is_number) [] [] (He.ga K "is_number") fd) :
    FnOk P w K mg base (L2.CX P w) 1 (He.ga K "is_number") fd ["word"] (spP K 1 F_is_number) := by
  exact ok_fn D₀ sc_is_number fun cdv A outer s H E hr => (b_cons (s_if (t_w (w_or (t_not (t_chain op_le op_le ol_le ol_le v_int (v_len T.n_len (a_cons (v_var 0) a_nil)) (v_glob (v := .int 31) rfl T.k_MOST_DIGITS.choose_spec ⟨_, rfl⟩ fun _ _ => .int _))) (w_or1 (t_not (t_tru (v_all rfl T.n_all (a_cons (v_lc (own := [("char", 1)]) false rfl sc_is_number.nd (i_uni (v_var 0)) (blkOk_by (N := N_is_number) (own := [("char", 1)]) (by kernel_rfl)) (by decide) (fun _ _ _ _ _ => (g_nm sc_is_number.nd 1)) (fun _ _ _ _ _ => ts_nil) (fun _ _ _ _ _ => (v_in (hu65 hr) (v_var 1) (v_glob (v := .str "0123456789") rfl T.k_DIGITS.choose_spec ⟨_, rfl⟩ fun _ _ => .str _)))) a_nil))))))) (b_one (s_ret v_bl)) b_nil)
    (b_one (s_ret (v_or (v_eq hr.units (v_var 0) v_str) (v_one (v_ne hr.units (v_ix (v_var 0) v_int) v_str))))))
theorem ok_split_words {P : Program} {w : World} {K : PySem.W.Frag} {mg : Str → Option Value} {base : Heap} {fd : FuncData} (T : Tx K w mg) (D₀ : FunD K "split_words" "split_words" (defArgs s_split_words) (defBody s_split_words) (defScope s_split_words) [] [] (He.ga K "split_words") fd) :
    FnOk P w K mg base (L2.CX P w) 1 (He.ga K "split_words") fd ["line"] (spP K 1 F_split_words) := by
  exact ok_fn D₀ sc_split_words fun cdv A outer s H E hr => (b_one (s_ret (v_lc (own := [("word", 1)]) false rfl sc_split_words.nd (i_uni (v_split false (v_var 0) v_str)) (blkOk_by (N := N_split_words) (own := [("word", 1)]) (by kernel_rfl)) (by decide) (fun _ _ _ _ _ => (g_nm sc_split_words.nd 1)) (fun _ _ _ _ _ => (ts_one (t_ne hr.units (v_var 1) v_str))) (fun _ _ _ _ _ => (v_var 1)))))
theorem ok_are_names {P : Program} {w : World} {K : PySem.W.Frag} {mg : Str → Option Value} {base : Heap} {fd : FuncData} (T : Tx K w mg) (D₀ : FunD K "are_names" "are_names" (defArgs s_are_names) (defBody s_are_names) (defScope s_are_names) [] [] (He.ga K "are_names") fd) :
    FnOk P w K mg base (L2.CX P w) 2 (He.ga K "are_names") fd ["words"] (spP K 1 F_are_names) := by
  obtain ⟨fd_is_name, D_is_name⟩ := T.d_is_name
  have G_is_name := ok_is_name (P := P) (w := w) (base := base) T D_is_name
  have B_is_name := D_is_name.bindsN (ps := ["text"]) fun _ _ _ _ _ _ us hl => match us, hl with | [_], _ => rfl
  exact ok_fn D₀ sc_are_names fun cdv A outer s H E hr => (b_one (s_ret (v_all rfl T.n_all (a_cons (v_lc (own := [("word", 1)]) false rfl sc_are_names.nd (i_uni (v_var 0)) (blkOk_by (N := N_are_names) (own := [("word", 1)]) (by kernel_rfl)) (by decide) (fun _ _ _ _ _ => (g_nm sc_are_names.nd 1)) (fun _ _ _ _ _ => ts_nil) (fun _ _ _ _ _ => (v_call G_is_name (hr.mono (by decide)) T.g_is_name D_is_name.kp B_is_name takes0 (a_cons (v_var 1) a_nil) (argN_cons argN_nil)))) a_nil))))
theorem ok_are_numbers {P : Program} {w : World} {K : PySem.W.Frag} {mg : Str → Option Value} {base : Heap} {fd : FuncData} (T : Tx K w mg) (D₀ : FunD K "are_numbers" "are_numbers" (defArgs s_are_numbers) (defBody s_are_numbers) (defScope s_are_numbers) [] [] (He.ga K "are_numbers") fd) :
    FnOk P w K mg base (L2.CX P w) 2 (He.ga K "are_numbers") fd ["words"] (spP K 1 F_are_numbers) := by
  obtain ⟨fd_is_number, D_is_number⟩ := T.d_is_number
  have G_is_number := ok_is_number (P := P) (w := w) (base := base) T D_is_number
  have B_is_number := D_is_number.bindsN (ps := ["word"]) fun _ _ _ _ _ _ us hl => match us, hl with | [_], _ => rfl
  exact ok_fn D₀ sc_are_numbers fun cdv A outer s H E hr => (b_one (s_ret (v_and (v_le (v_len T.n_len (a_cons (v_var 0) a_nil)) (v_glob (v := .int 6) rfl T.k_MOST_ASKED.choose_spec ⟨_, rfl⟩ fun _ _ => .int _)) (v_one (v_all rfl T.n_all (a_cons (v_lc (own := [("word", 1)]) false rfl sc_are_numbers.nd (i_uni (v_var 0)) (blkOk_by (N := N_are_numbers) (own := [("word", 1)]) (by kernel_rfl)) (by decide) (fun _ _ _ _ _ => (g_nm sc_are_numbers.nd 1)) (fun _ _ _ _ _ => ts_nil) (fun _ _ _ _ _ => (v_call G_is_number (hr.mono (by decide)) T.g_is_number D_is_number.kp B_is_number takes0 (a_cons (v_var 1) a_nil) (argN_cons argN_nil)))) a_nil))))))
theorem ok_is_command {P : Program} {w : World} {K : PySem.W.Frag} {mg : Str → Option Value} {base : Heap} {fd : FuncData} (T : Tx K w mg) (D₀ : FunD K "is_command" "is_command" (defArgs s_is_command) (defBody s_is_command) (defScope s_is_command) [] [] (He.ga K "is_command") fd) :
    FnOk P w K mg base (L2.CX P w) 3 (He.ga K "is_command") fd ["words"] (spP K 1 F_is_command) := by
  obtain ⟨fd_is_name, D_is_name⟩ := T.d_is_name
  have G_is_name := ok_is_name (P := P) (w := w) (base := base) T D_is_name
  have B_is_name := D_is_name.bindsN (ps := ["text"]) fun _ _ _ _ _ _ us hl => match us, hl with | [_], _ => rfl
  obtain ⟨fd_are_names, D_are_names⟩ := T.d_are_names
  have G_are_names := ok_are_names (P := P) (w := w) (base := base) T D_are_names
  have B_are_names := D_are_names.bindsN (ps := ["words"]) fun _ _ _ _ _ _ us hl => match us, hl with | [_], _ => rfl
  obtain ⟨fd_are_numbers, D_are_numbers⟩ := T.d_are_numbers
  have G_are_numbers := ok_are_numbers (P := P) (w := w) (base := base) T D_are_numbers
  have B_are_numbers := D_are_numbers.bindsN (ps := ["words"]) fun _ _ _ _ _ _ us hl => match us, hl with | [_], _ => rfl
  exact ok_fn D₀ sc_is_command fun cdv A outer s H E hr => (b_cons (s_par2 (i := 1) (j := 2) rfl sc_is_command.nd (a_cons (v_ix (v_var 0) v_int) (a_cons (v_sl false (v_var 0) (o_some v_int) o_none) a_nil)))
    (b_cons (s_if (t_inT T.t_FORMS T.g_FORMS (v_var 1)) (b_one (s_ret (v_and (v_eq hr.units (v_len T.n_len (a_cons (v_var 2) a_nil)) (v_ixT T.t_FORMS T.g_FORMS (v_var 1))) (v_one (v_call G_are_names (hr.mono (by decide)) T.g_are_names D_are_names.kp B_are_names tkB (a_cons (v_var 2) a_nil) (argN_cons argN_nil)))))) b_nil)
    (b_cons (s_if (t_eq hr.units (v_var 1) v_str) (b_one (s_ret (v_and (v_gt (v_len T.n_len (a_cons (v_var 2) a_nil)) v_int) (v_and (v_call G_are_names (hr.mono (by decide)) T.g_are_names D_are_names.kp B_are_names tkB (a_cons (v_sl false (v_var 2) o_none (o_some v_int)) a_nil) (argN_cons argN_nil)) (v_one (v_call G_are_numbers (hr.mono (by decide)) T.g_are_numbers D_are_numbers.kp B_are_numbers tkB (a_cons (v_sl false (v_var 2) (o_some v_int) o_none) a_nil) (argN_cons argN_nil))))))) b_nil)
    (b_cons (s_if (t_w (w_or (t_ne hr.units (v_var 1) v_str) (w_or (t_lt (v_len T.n_len (a_cons (v_var 2) a_nil)) v_int) (w_or (t_not (t_tru (v_call G_is_name (hr.mono (by decide)) T.g_is_name D_is_name.kp B_is_name tkB (a_cons (v_ix (v_var 2) v_int) a_nil) (argN_cons argN_nil)))) (w_or1 (t_not (t_tru (v_call G_is_name (hr.mono (by decide)) T.g_is_name D_is_name.kp B_is_name tkB (a_cons (v_ix (v_var 2) v_int) a_nil) (argN_cons argN_nil))))))))) (b_one (s_ret v_bl)) b_nil)
    (b_cons (s_if (t_eq hr.units (v_ix (v_var 2) v_int) v_str) (b_one (s_ret (v_call G_are_numbers (hr.mono (by decide)) T.g_are_numbers D_are_numbers.kp B_are_numbers tkB (a_cons (v_sl false (v_var 2) (o_some v_int) o_none) a_nil) (argN_cons argN_nil)))) b_nil)
    (b_one (s_ret (v_and (v_inT T.t_ASKED T.g_ASKED (v_ix (v_var 2) v_int)) (v_and (v_eq hr.units (v_len T.n_len (a_cons (v_var 2) a_nil)) (v_plus false v_int (v_ixT T.t_ASKED T.g_ASKED (v_ix (v_var 2) v_int)))) (v_one (v_call G_are_numbers (hr.mono (by decide)) T.g_are_numbers D_are_numbers.kp B_are_numbers tkB (a_cons (v_sl false (v_var 2) (o_some v_int) o_none) a_nil) (argN_cons argN_nil))))))))))))
theorem ok__law_row {P : Program} {w : World} {K : PySem.W.Frag} {mg : Str → Option Value} {base : Heap} {fd : FuncData} (T : Tx K w mg) (D₀ : FunD K "_law_row" "_law_row" (defArgs s__law_row) (defBody s__law_row) (defScope s__law_row) [] [] (He.ga K "_law_row") fd) :
    FnOk P w K mg base (L2.CX P w) 1 (He.ga K "_law_row") fd ["_law_cell", "_law_many"] (spP K 2 F__law_row) := by
  exact ok_fn D₀ sc__law_row fun cdv A outer s H E hr => (b_cons (s_set (i := 2) sc__law_row.nd (v_lst true a_nil))
    (b_cons (s_set (i := 3) sc__law_row.nd (v_abs T.n_abs (a_cons (v_var 0) a_nil)))
    (b_cons (s_set (i := 4) sc__law_row.nd (v_mod (v_intOf T.n_int (a_cons (v_add (v_mul (v_var 3) v_int) v_int) a_nil)) v_int))
    (b_cons (s_for (passes_of rfl) rfl (i_rg1 rfl T.n_range (a_cons (v_var 1) a_nil)) (g_nm sc__law_row.nd 5) (b_cons (s_set (i := 4) sc__law_row.nd (v_mod (v_intOf T.n_int (a_cons (v_add (v_mul (v_var 4) v_int) (v_mul v_int (v_add (v_var 5) v_int))) a_nil)) v_int))
    (b_one (s_if (t_ge (v_abs T.n_abs (a_cons (v_var 0) a_nil)) (v_pow v_int v_int)) (b_cons (s_expr (v_app (v_var 2) (a_cons (v_mod (v_intOf T.n_int (a_cons (v_var 3) a_nil)) v_int) a_nil)))
    (b_one (s_set (i := 3) sc__law_row.nd (v_div (v_var 3) v_int)))) (b_one (s_expr (v_app (v_var 2) (a_cons (v_mod (v_intOf T.n_int (a_cons (v_div (v_var 4) v_int) a_nil)) v_int) a_nil))))))))
    (b_one (s_ret (v_frz (v_var 2))))))))
theorem ok__law_numbers {P : Program} {w : World} {K : PySem.W.Frag} {mg : Str → Option Value} {base : Heap} {fd : FuncData} (T : Tx K w mg) (D₀ : FunD K "_law_numbers" "_law_numbers" (defArgs s__law_numbers) (defBody s__law_numbers) (defScope s__law_numbers) [] [] (He.ga K "_law_numbers") fd) :
    FnOk P w K mg base (L2.CX P w) 2 (He.ga K "_law_numbers") fd ["_law_script", "_law_many"] (spP K 2 F__law_numbers) := by
  obtain ⟨fd__law_row, D__law_row⟩ := T.d__law_row
  have G__law_row := ok__law_row (P := P) (w := w) (base := base) T D__law_row
  have B__law_row := D__law_row.bindsN (ps := ["_law_cell", "_law_many"]) fun _ _ _ _ _ _ us hl => match us, hl with | [_, _], _ => rfl
  exact ok_fn D₀ sc__law_numbers fun cdv A outer s H E hr => (b_cons (s_set (i := 2) sc__law_numbers.nd (v_sl false (v_var 0) o_none (o_some v_int)))
    (b_cons (s_set (i := 3) sc__law_numbers.nd (v_add v_int (v_div (v_var 1) (v_max2 rfl T.n_max (a_cons v_int (a_cons (v_len T.n_len (a_cons (v_var 2) a_nil)) a_nil))))))
    (b_cons (s_set (i := 4) sc__law_numbers.nd (v_lst true a_nil))
    (b_cons (s_for (passes_of rfl) rfl (i_seq (v_var 2)) (g_nm sc__law_numbers.nd 5) (b_one (s_for (passes_of rfl) rfl (i_seq (v_call G__law_row (hr.mono (by decide)) T.g__law_row D__law_row.kp B__law_row tkB (a_cons (v_var 5) (a_cons (v_var 3) a_nil)) (argN_cons (argN_cons argN_nil)))) (g_nm sc__law_numbers.nd 6) (b_one (s_expr (v_app (v_var 4) (a_cons (v_var 6) a_nil)))))))
    (b_cons (s_while (passes_of rfl) (t_lt (v_len T.n_len (a_cons (v_var 4) a_nil)) (v_var 1)) (b_one (s_expr (v_app (v_var 4) (a_cons v_int a_nil)))))
    (b_one (s_ret (v_sl false (v_var 4) o_none (o_some (v_var 1))))))))))
theorem ok__law_word {P : Program} {w : World} {K : PySem.W.Frag} {mg : Str → Option Value} {base : Heap} {fd : FuncData} (T : Tx K w mg) (D₀ : FunD K "_law_word" "_law_word" (defArgs s__law_word) (defBody s__law_word) (defScope s__law_word) [] [] (He.ga K "_law_word") fd) :
    FnOk P w K mg base (L2.CX P w) 1 (He.ga K "_law_word") fd ["_law_number", "_law_more"] (spP K 2 F__law_word) := by
  exact ok_fn D₀ sc__law_word fun cdv A outer s H E hr => (b_cons (s_set (i := 2) sc__law_word.nd (v_tup (a_cons v_str (a_cons v_str (a_cons v_str (a_cons v_str (a_cons v_str (a_cons v_str (a_cons v_str (a_cons v_str (a_cons v_str (a_cons v_str (a_cons v_str (a_cons v_str a_nil))))))))))))))
    (b_cons (s_set (i := 2) sc__law_word.nd (v_plus false (v_var 2) (v_tup (a_cons v_str (a_cons v_str (a_cons v_str (a_cons v_str (a_cons v_str (a_cons v_str (a_cons v_str (a_cons v_str a_nil)))))))))))
    (b_cons (s_set (i := 3) sc__law_word.nd v_str)
    (b_cons (s_if (t_eq hr.units (v_mod (v_intOf T.n_int (a_cons (v_var 0) a_nil)) v_int) v_int) (b_one (s_ret (v_ix (v_var 2) (v_mod (v_intOf T.n_int (a_cons (v_div (v_var 0) v_int) a_nil)) v_int)))) b_nil)
    (b_cons (s_set (i := 4) sc__law_word.nd (v_mod (v_intOf T.n_int (a_cons (v_div (v_var 0) v_int) a_nil)) v_int))
    (b_cons (s_if (t_eq hr.units (v_mod (v_intOf T.n_int (a_cons (v_var 0) a_nil)) v_int) v_int) (b_cons (s_set (i := 5) sc__law_word.nd (v_plus false (v_plus false v_int (v_var 4)) (v_times false v_int (v_intOf T.n_int (a_cons (v_eq hr.units (v_mod (v_intOf T.n_int (a_cons (v_var 1) a_nil)) v_int) v_int) a_nil)))))
    (b_cons (s_set (i := 6) sc__law_word.nd (v_join v_str (v_lc (own := [("_law_k", 8)]) false rfl sc__law_word.nd (i_rg1 rfl T.n_range (a_cons (v_var 5) a_nil)) (blkOk_by (N := N__law_word) (own := [("_law_k", 8)]) (by kernel_rfl)) (by decide) (fun _ _ _ _ _ => (g_nm sc__law_word.nd 8)) (fun _ _ _ _ _ => ts_nil) (fun _ _ _ _ _ => (v_ix (v_var 3) (v_plus false v_int (v_mod (v_intOf T.n_int (a_cons (v_plus false (v_plus false (v_var 1) (v_times false (v_times false (v_var 8) (v_var 8)) v_int)) (v_div (v_var 0) v_int)) a_nil)) v_int)))))))
    (b_one (s_ret (v_plus false (v_ix (v_tup (a_cons v_str (a_cons v_str (a_cons v_str (a_cons v_str a_nil))))) (v_mod (v_intOf T.n_int (a_cons (v_var 1) a_nil)) v_int)) (v_var 6)))))) b_nil)
    (b_cons (s_set (i := 7) sc__law_word.nd (v_plus false (v_ix (v_var 3) (v_mod (v_intOf T.n_int (a_cons (v_var 1) a_nil)) v_int)) (v_join v_str (v_lc (own := [("_law_k", 8)]) false rfl sc__law_word.nd (i_rg1 rfl T.n_range (a_cons (v_times false (v_var 4) v_int) a_nil)) (blkOk_by (N := N__law_word) (own := [("_law_k", 8)]) (by kernel_rfl)) (by decide) (fun _ _ _ _ _ => (g_nm sc__law_word.nd 8)) (fun _ _ _ _ _ => ts_nil) (fun _ _ _ _ _ => (v_ix (v_var 3) (v_mod (v_intOf T.n_int (a_cons (v_plus false (v_plus false (v_var 1) (v_times false (v_times false v_int (v_var 8)) (v_var 0))) (v_var 8)) a_nil)) v_int)))))))
    (b_cons (s_if (t_eq hr.units (v_mod (v_intOf T.n_int (a_cons (v_var 1) a_nil)) v_int) v_int) (b_one (s_ret (v_plus false (v_plus false (v_sl false (v_var 7) o_none (o_some v_int)) v_str) (v_sl false (v_var 7) (o_some v_int) o_none)))) b_nil)
    (b_one (s_ret (v_var 7)))))))))))
theorem ok__law_is_name {P : Program} {w : World} {K : PySem.W.Frag} {mg : Str → Option Value} {base : Heap} {fd : FuncData} (T : Tx K w mg) (D₀ : FunD K "_law_is_name" "_law_is_name" (defArgs s__law_is_name) (defBody s__law_is_name) (defScope s__law_is_name) [] [] (He.ga K "_law_is_name") fd) :
    FnOk P w K mg base (L2.CX P w) 1 (He.ga K "_law_is_name") fd ["_law_word_here"] (spP K 1 F__law_is_name) := by
  exact ok_fn D₀ sc__law_is_name fun cdv A outer s H E hr => (b_cons (s_if (t_w (w_or (t_lt (v_len T.n_len (a_cons (v_var 0) a_nil)) v_int) (w_or (t_gt (v_len T.n_len (a_cons (v_var 0) a_nil)) v_int) (w_or1 (t_notIn (hu65 hr) (v_ix (v_var 0) v_int) v_str))))) (b_one (s_ret v_bl)) b_nil)
    (b_one (s_ret (v_all rfl T.n_all (a_cons (v_lc (own := [("_law_char", 1)]) false rfl sc__law_is_name.nd (i_uni (v_var 0)) (blkOk_by (N := N__law_is_name) (own := [("_law_char", 1)]) (by kernel_rfl)) (by decide) (fun _ _ _ _ _ => (g_nm sc__law_is_name.nd 1)) (fun _ _ _ _ _ => ts_nil) (fun _ _ _ _ _ => (v_in (hu65 hr) (v_var 1) v_str))) a_nil)))))
theorem ok__law_all_names {P : Program} {w : World} {K : PySem.W.Frag} {mg : Str → Option Value} {base : Heap} {fd : FuncData} (T : Tx K w mg) (D₀ : FunD K "_law_all_names" "_law_all_names" (defArgs s__law_all_names) (defBody s__law_all_names) (defScope s__law_all_names) [] [] (He.ga K "_law_all_names") fd) :
    FnOk P w K mg base (L2.CX P w) 2 (He.ga K "_law_all_names") fd ["_law_words"] (spP K 1 F__law_all_names) := by
  obtain ⟨fd__law_is_name, D__law_is_name⟩ := T.d__law_is_name
  have G__law_is_name := ok__law_is_name (P := P) (w := w) (base := base) T D__law_is_name
  have B__law_is_name := D__law_is_name.bindsN (ps := ["_law_word_here"]) fun _ _ _ _ _ _ us hl => match us, hl with | [_], _ => rfl
  exact ok_fn D₀ sc__law_all_names fun cdv A outer s H E hr => (b_one (s_ret (v_all rfl T.n_all (a_cons (v_lc (own := [("_law_word_here", 1)]) false rfl sc__law_all_names.nd (i_uni (v_var 0)) (blkOk_by (N := N__law_all_names) (own := [("_law_word_here", 1)]) (by kernel_rfl)) (by decide) (fun _ _ _ _ _ => (g_nm sc__law_all_names.nd 1)) (fun _ _ _ _ _ => ts_nil) (fun _ _ _ _ _ => (v_call G__law_is_name (hr.mono (by decide)) T.g__law_is_name D__law_is_name.kp B__law_is_name takes0 (a_cons (v_var 1) a_nil) (argN_cons argN_nil)))) a_nil))))
theorem ok__law_is_number {P : Program} {w : World} {K : PySem.W.Frag} {mg : Str → Option Value} {base : Heap} {fd : FuncData} (T : Tx K w mg) (D₀ : FunD K "_law_is_number" "_law_is_number" (defArgs s__law_is_number) (defBody s__law_is_number) (defScope s__law_is_number) [] [] (He.ga K "_law_is_number") fd) :
    FnOk P w K mg base (L2.CX P w) 1 (He.ga K "_law_is_number") fd ["_law_word_here"] (spP K 1 F__law_is_number) := by
  exact ok_fn D₀ sc__law_is_number fun cdv A outer s H E hr => (b_cons (s_if (t_w (w_or (t_lt (v_len T.n_len (a_cons (v_var 0) a_nil)) v_int) (w_or (t_gt (v_len T.n_len (a_cons (v_var 0) a_nil)) v_int) (w_or1 (t_w (w_and (t_gt (v_len T.n_len (a_cons (v_var 0) a_nil)) v_int) (w_and1 (t_eq hr.units (v_ix (v_var 0) v_int) v_str)))))))) (b_one (s_ret v_bl)) b_nil)
    (b_one (s_ret (v_all rfl T.n_all (a_cons (v_lc (own := [("_law_char", 1)]) false rfl sc__law_is_number.nd (i_uni (v_var 0)) (blkOk_by (N := N__law_is_number) (own := [("_law_char", 1)]) (by kernel_rfl)) (by decide) (fun _ _ _ _ _ => (g_nm sc__law_is_number.nd 1)) (fun _ _ _ _ _ => ts_nil) (fun _ _ _ _ _ => (v_in (hu65 hr) (v_var 1) v_str))) a_nil)))))
theorem ok__law_all_numbers {P : Program} {w : World} {K : PySem.W.Frag} {mg : Str → Option Value} {base : Heap} {fd : FuncData} (T : Tx K w mg) (D₀ : FunD K "_law_all_numbers" "_law_all_numbers" (defArgs s__law_all_numbers) (defBody s__law_all_numbers) (defScope s__law_all_numbers) [] [] (He.ga K "_law_all_numbers") fd) :
    FnOk P w K mg base (L2.CX P w) 2 (He.ga K "_law_all_numbers") fd ["_law_words"] (spP K 1 F__law_all_numbers) := by
  obtain ⟨fd__law_is_number, D__law_is_number⟩ := T.d__law_is_number
  have G__law_is_number := ok__law_is_number (P := P) (w := w) (base := base) T D__law_is_number
  have B__law_is_number := D__law_is_number.bindsN (ps := ["_law_word_here"]) fun _ _ _ _ _ _ us hl => match us, hl with | [_], _ => rfl
  exact ok_fn D₀ sc__law_all_numbers fun cdv A outer s H E hr => (b_one (s_ret (v_and (v_le (v_len T.n_len (a_cons (v_var 0) a_nil)) v_int) (v_one (v_all rfl T.n_all (a_cons (v_lc (own := [("_law_word_here", 1)]) false rfl sc__law_all_numbers.nd (i_uni (v_var 0)) (blkOk_by (N := N__law_all_numbers) (own := [("_law_word_here", 1)]) (by kernel_rfl)) (by decide) (fun _ _ _ _ _ => (g_nm sc__law_all_numbers.nd 1)) (fun _ _ _ _ _ => ts_nil) (fun _ _ _ _ _ => (v_call G__law_is_number (hr.mono (by decide)) T.g__law_is_number D__law_is_number.kp B__law_is_number takes0 (a_cons (v_var 1) a_nil) (argN_cons argN_nil)))) a_nil))))))
theorem ok__law_command {P : Program} {w : World} {K : PySem.W.Frag} {mg : Str → Option Value} {base : Heap} {fd : FuncData} (T : Tx K w mg) (D₀ : FunD K "_law_command" "_law_command" (defArgs s__law_command) (defBody s__law_command) (defScope s__law_command) [] [] (He.ga K "_law_command") fd) :
    FnOk P w K mg base (L2.CX P w) 3 (He.ga K "_law_command") fd ["_law_words"] (spP K 1 F__law_command) := by
  obtain ⟨fd__law_is_name, D__law_is_name⟩ := T.d__law_is_name
  have G__law_is_name := ok__law_is_name (P := P) (w := w) (base := base) T D__law_is_name
  have B__law_is_name := D__law_is_name.bindsN (ps := ["_law_word_here"]) fun _ _ _ _ _ _ us hl => match us, hl with | [_], _ => rfl
  obtain ⟨fd__law_all_names, D__law_all_names⟩ := T.d__law_all_names
  have G__law_all_names := ok__law_all_names (P := P) (w := w) (base := base) T D__law_all_names
  have B__law_all_names := D__law_all_names.bindsN (ps := ["_law_words"]) fun _ _ _ _ _ _ us hl => match us, hl with | [_], _ => rfl
  obtain ⟨fd__law_all_numbers, D__law_all_numbers⟩ := T.d__law_all_numbers
  have G__law_all_numbers := ok__law_all_numbers (P := P) (w := w) (base := base) T D__law_all_numbers
  have B__law_all_numbers := D__law_all_numbers.bindsN (ps := ["_law_words"]) fun _ _ _ _ _ _ us hl => match us, hl with | [_], _ => rfl
  exact ok_fn D₀ sc__law_command fun cdv A outer s H E hr => (b_cons (s_set (i := 1) sc__law_command.nd (v_ix (v_var 0) v_int))
    (b_cons (s_set (i := 2) sc__law_command.nd (v_sl false (v_var 0) (o_some v_int) o_none))
    (b_cons (s_if (t_in (hu65 hr) (v_var 1) (v_tup (a_cons v_str (a_cons v_str (a_cons v_str (a_cons v_str (a_cons v_str a_nil))))))) (b_one (s_ret (v_eq hr.units (v_len T.n_len (a_cons (v_var 2) a_nil)) v_int))) b_nil)
    (b_cons (s_if (t_in (hu65 hr) (v_var 1) (v_tup (a_cons v_str (a_cons v_str (a_cons v_str (a_cons v_str (a_cons v_str a_nil))))))) (b_one (s_ret (v_and (v_eq hr.units (v_len T.n_len (a_cons (v_var 2) a_nil)) v_int) (v_one (v_call G__law_is_name (hr.mono (by decide)) T.g__law_is_name D__law_is_name.kp B__law_is_name tkB (a_cons (v_ix (v_var 2) v_int) a_nil) (argN_cons argN_nil)))))) b_nil)
    (b_cons (s_if (t_eq hr.units (v_var 1) v_str) (b_one (s_ret (v_and (v_eq hr.units (v_len T.n_len (a_cons (v_var 2) a_nil)) v_int) (v_one (v_call G__law_all_names (hr.mono (by decide)) T.g__law_all_names D__law_all_names.kp B__law_all_names tkB (a_cons (v_var 2) a_nil) (argN_cons argN_nil)))))) b_nil)
    (b_cons (s_if (t_eq hr.units (v_var 1) v_str) (b_one (s_ret (v_and (v_eq hr.units (v_len T.n_len (a_cons (v_var 2) a_nil)) v_int) (v_one (v_call G__law_all_names (hr.mono (by decide)) T.g__law_all_names D__law_all_names.kp B__law_all_names tkB (a_cons (v_var 2) a_nil) (argN_cons argN_nil)))))) b_nil)
    (b_cons (s_if (t_eq hr.units (v_var 1) v_str) (b_one (s_ret (v_and (v_gt (v_len T.n_len (a_cons (v_var 2) a_nil)) v_int) (v_and (v_call G__law_all_names (hr.mono (by decide)) T.g__law_all_names D__law_all_names.kp B__law_all_names tkB (a_cons (v_sl false (v_var 2) o_none (o_some v_int)) a_nil) (argN_cons argN_nil)) (v_one (v_call G__law_all_numbers (hr.mono (by decide)) T.g__law_all_numbers D__law_all_numbers.kp B__law_all_numbers tkB (a_cons (v_sl false (v_var 2) (o_some v_int) o_none) a_nil) (argN_cons argN_nil))))))) b_nil)
    (b_cons (s_if (t_w (w_or (t_ne hr.units (v_var 1) v_str) (w_or (t_lt (v_len T.n_len (a_cons (v_var 2) a_nil)) v_int) (w_or (t_not (t_tru (v_call G__law_is_name (hr.mono (by decide)) T.g__law_is_name D__law_is_name.kp B__law_is_name tkB (a_cons (v_ix (v_var 2) v_int) a_nil) (argN_cons argN_nil)))) (w_or1 (t_not (t_tru (v_call G__law_is_name (hr.mono (by decide)) T.g__law_is_name D__law_is_name.kp B__law_is_name tkB (a_cons (v_ix (v_var 2) v_int) a_nil) (argN_cons argN_nil))))))))) (b_one (s_ret v_bl)) b_nil)
    (b_cons (s_if (t_not (t_tru (v_call G__law_all_numbers (hr.mono (by decide)) T.g__law_all_numbers D__law_all_numbers.kp B__law_all_numbers tkB (a_cons (v_sl false (v_var 2) (o_some v_int) o_none) a_nil) (argN_cons argN_nil)))) (b_one (s_ret v_bl)) b_nil)
    (b_one (s_ret (v_or (v_eq hr.units (v_ix (v_var 2) v_int) v_str) (v_one (v_in (hu65 hr) (v_tup (a_cons (v_ix (v_var 2) v_int) (a_cons (v_len T.n_len (a_cons (v_var 2) a_nil)) a_nil))) (v_tup (a_cons (v_tup (a_cons v_str (a_cons v_int a_nil))) (a_cons (v_tup (a_cons v_str (a_cons v_int a_nil))) (a_cons (v_tup (a_cons v_str (a_cons v_int a_nil))) a_nil))))))))))))))))))
theorem ok__law_formed {P : Program} {w : World} {K : PySem.W.Frag} {mg : Str → Option Value} {base : Heap} {fd : FuncData} (T : Tx K w mg) (D₀ : FunD K "_law_formed" "_law_formed" (defArgs s__law_formed) (defBody s__law_formed) (defScope s__law_formed) [] [] (He.ga K "_law_formed") fd) :
    FnOk P w K mg base (L2.CX P w) 2 (He.ga K "_law_formed") fd ["_law_numbers_here", "_law_words"] (spS K 2 F__law_formed) := by
  obtain ⟨fd__law_is_name, D__law_is_name⟩ := T.d__law_is_name
  have G__law_is_name := ok__law_is_name (P := P) (w := w) (base := base) T D__law_is_name
  have B__law_is_name := D__law_is_name.bindsN (ps := ["_law_word_here"]) fun _ _ _ _ _ _ us hl => match us, hl with | [_], _ => rfl
  obtain ⟨fd__law_is_number, D__law_is_number⟩ := T.d__law_is_number
  have G__law_is_number := ok__law_is_number (P := P) (w := w) (base := base) T D__law_is_number
  have B__law_is_number := D__law_is_number.bindsN (ps := ["_law_word_here"]) fun _ _ _ _ _ _ us hl => match us, hl with | [_], _ => rfl
  exact ok_fnS D₀ sc__law_formed fun cdv A outer s H E hr => (b_cons (s_set (i := 2) sc__law_formed.nd (v_plus false (v_lc (own := [("_law_word_here", 6)]) false rfl sc__law_formed.nd (i_uni (v_var 1)) (blkOk_by (N := N__law_formed) (own := [("_law_word_here", 6)]) (by kernel_rfl)) (by decide) (fun _ _ _ _ _ => (g_nm sc__law_formed.nd 6)) (fun _ _ _ _ _ => (ts_one (t_tru (v_call G__law_is_name (hr.mono (by decide)) T.g__law_is_name D__law_is_name.kp B__law_is_name takes0 (a_cons (v_var 6) a_nil) (argN_cons argN_nil))))) (fun _ _ _ _ _ => (v_var 6))) (v_lst false (a_cons v_str (a_cons v_str (a_cons v_str a_nil))))))
    (b_cons (s_set (i := 3) sc__law_formed.nd (v_plus false (v_lc (own := [("_law_word_here", 6)]) false rfl sc__law_formed.nd (i_uni (v_var 1)) (blkOk_by (N := N__law_formed) (own := [("_law_word_here", 6)]) (by kernel_rfl)) (by decide) (fun _ _ _ _ _ => (g_nm sc__law_formed.nd 6)) (fun _ _ _ _ _ => (ts_one (t_tru (v_call G__law_is_number (hr.mono (by decide)) T.g__law_is_number D__law_is_number.kp B__law_is_number takes0 (a_cons (v_var 6) a_nil) (argN_cons argN_nil))))) (fun _ _ _ _ _ => (v_var 6))) (v_lst false (a_cons v_str (a_cons v_str (a_cons v_str a_nil))))))
    (b_cons (s_set (i := 4) sc__law_formed.nd (v_mod (v_intOf T.n_int (a_cons (v_ix (v_var 0) v_int) a_nil)) v_int))
    (b_cons (s_set (i := 5) sc__law_formed.nd (v_mod (v_intOf T.n_int (a_cons (v_ix (v_var 0) v_int) a_nil)) v_int))
    (b_cons (s_if (t_lt (v_var 5) v_int) (b_one (s_ret (v_lst true (a_cons (v_ix (v_tup (a_cons v_str (a_cons v_str (a_cons v_str (a_cons v_str (a_cons v_str a_nil)))))) (v_mod (v_var 4) v_int)) a_nil)))) b_nil)
    (b_cons (s_if (t_lt (v_var 5) v_int) (b_one (s_ret (v_lst true (a_cons (v_ix (v_tup (a_cons v_str (a_cons v_str (a_cons v_str (a_cons v_str (a_cons v_str a_nil)))))) (v_mod (v_var 4) v_int)) (a_cons (v_ix (v_var 2) v_int) a_nil))))) b_nil)
    (b_cons (s_if (t_eq hr.units (v_var 5) v_int) (b_one (s_ret (v_lst true (a_cons v_str (a_cons (v_ix (v_var 2) v_int) (a_cons (v_ix (v_var 2) v_int) a_nil)))))) b_nil)
    (b_cons (s_if (t_eq hr.units (v_var 5) v_int) (b_one (s_ret (v_lst true (a_cons v_str (a_cons (v_ix (v_var 2) v_int) (a_cons (v_ix (v_var 2) v_int) (a_cons (v_ix (v_var 2) v_int) a_nil))))))) b_nil)
    (b_cons (s_if (t_eq hr.units (v_var 5) v_int) (b_one (s_ret (v_lst true (a_cons v_str (a_cons (v_ix (v_var 2) v_int) (a_cons (v_ix (v_tup (a_cons v_str (a_cons v_str a_nil))) (v_mod (v_var 4) v_int)) (a_cons (v_ix (v_var 2) v_int) a_nil))))))) b_nil)
    (b_cons (s_if (t_eq hr.units (v_var 5) v_int) (b_one (s_ret (v_lst true (a_cons v_str (a_cons (v_ix (v_var 2) v_int) (a_cons v_str (a_cons (v_ix (v_var 2) v_int) (a_cons (v_ix (v_var 3) v_int) (a_cons (v_ix (v_var 3) v_int) a_nil))))))))) b_nil)
    (b_cons (s_if (t_eq hr.units (v_var 5) v_int) (b_one (s_ret (v_plus true (v_lst false (a_cons v_str (a_cons (v_ix (v_var 2) v_int) (a_cons v_str (a_cons (v_ix (v_var 2) v_int) a_nil))))) (v_lc (own := [("_law_k", 7)]) false rfl sc__law_formed.nd (i_rg1 rfl T.n_range (a_cons (v_var 4) a_nil)) (blkOk_by (N := N__law_formed) (own := [("_law_k", 7)]) (by kernel_rfl)) (by decide) (fun _ _ _ _ _ => (g_nm sc__law_formed.nd 7)) (fun _ _ _ _ _ => ts_nil) (fun _ _ _ _ _ => (v_ix (v_var 3) (v_mod (v_var 7) (v_len T.n_len (a_cons (v_var 3) a_nil))))))))) b_nil)
    (b_one (s_ret (v_plus true (v_lst false (a_cons v_str (a_cons (v_ix (v_var 2) v_int) (a_cons (v_ix (v_var 2) v_int) a_nil)))) (v_lc (own := [("_law_k", 7)]) false rfl sc__law_formed.nd (i_rg1 rfl T.n_range (a_cons (v_var 4) a_nil)) (blkOk_by (N := N__law_formed) (own := [("_law_k", 7)]) (by kernel_rfl)) (by decide) (fun _ _ _ _ _ => (g_nm sc__law_formed.nd 7)) (fun _ _ _ _ _ => ts_nil) (fun _ _ _ _ _ => (v_ix (v_var 3) (v_mod (v_var 7) (v_len T.n_len (a_cons (v_var 3) a_nil))))))))))))))))))))
theorem ok_law {P : Program} {w : World} {K : PySem.W.Frag} {mg : Str → Option Value} {base : Heap} {fd : FuncData} (T : Tx K w mg) (D₀ : FunD K "law" "law" (defArgs s_law) (defBody s_law) (defScope s_law) [] [] (He.ga K "law") fd) :
    FnOk P w K mg base (L2.CX P w) 4 (He.ga K "law") fd ["_law_script"] (spP K 1 F_law) := by
  obtain ⟨fd_split_words, D_split_words⟩ := T.d_split_words
  have G_split_words := ok_split_words (P := P) (w := w) (base := base) T D_split_words
  have B_split_words := D_split_words.bindsN (ps := ["line"]) fun _ _ _ _ _ _ us hl => match us, hl with | [_], _ => rfl
  obtain ⟨fd_is_command, D_is_command⟩ := T.d_is_command
  have G_is_command := ok_is_command (P := P) (w := w) (base := base) T D_is_command
  have B_is_command := D_is_command.bindsN (ps := ["words"]) fun _ _ _ _ _ _ us hl => match us, hl with | [_], _ => rfl
  obtain ⟨fd__law_numbers, D__law_numbers⟩ := T.d__law_numbers
  have G__law_numbers := ok__law_numbers (P := P) (w := w) (base := base) T D__law_numbers
  have B__law_numbers := D__law_numbers.bindsN (ps := ["_law_script", "_law_many"]) fun _ _ _ _ _ _ us hl => match us, hl with | [_, _], _ => rfl
  obtain ⟨fd__law_word, D__law_word⟩ := T.d__law_word
  have G__law_word := ok__law_word (P := P) (w := w) (base := base) T D__law_word
  have B__law_word := D__law_word.bindsN (ps := ["_law_number", "_law_more"]) fun _ _ _ _ _ _ us hl => match us, hl with | [_, _], _ => rfl
  obtain ⟨fd__law_command, D__law_command⟩ := T.d__law_command
  have G__law_command := ok__law_command (P := P) (w := w) (base := base) T D__law_command
  have B__law_command := D__law_command.bindsN (ps := ["_law_words"]) fun _ _ _ _ _ _ us hl => match us, hl with | [_], _ => rfl
  obtain ⟨fd__law_formed, D__law_formed⟩ := T.d__law_formed
  have G__law_formed := ok__law_formed (P := P) (w := w) (base := base) T D__law_formed
  have B__law_formed := D__law_formed.bindsN (ps := ["_law_numbers_here", "_law_words"]) fun _ _ _ _ _ _ us hl => match us, hl with | [_, _], _ => rfl
  exact ok_fn D₀ sc_law fun cdv A outer s H E hr => (b_cons (s_set (i := 1) sc_law.nd (v_call G__law_numbers (hr.mono (by decide)) T.g__law_numbers D__law_numbers.kp B__law_numbers tkB (a_cons (v_var 0) (a_cons v_int a_nil)) (argN_cons (argN_cons argN_nil))))
    (b_cons (s_setLc (own := [("_law_k", 6)]) (i := 2) false rfl sc_law.nd rfl (sw_true rfl rfl rfl (by decide +kernel)) (i_rg1 rfl T.n_range (a_cons (v_plus false v_int (v_mod (v_intOf T.n_int (a_cons (v_ix (v_var 1) v_int) a_nil)) v_int)) a_nil)) (blkOk_by (N := N_law) (own := [("_law_k", 6)]) (by kernel_rfl)) (by decide) (fun _ _ _ _ _ => (g_nm sc_law.nd 6)) (fun _ _ _ _ _ => ts_nil) (fun _ _ _ _ _ => (v_call G__law_word (hr.mono (by decide)) T.g__law_word D__law_word.kp B__law_word takes0 (a_cons (v_ix (v_var 1) (v_times false v_int (v_var 6))) (a_cons (v_ix (v_var 1) (v_plus false (v_times false v_int (v_var 6)) v_int)) a_nil)) (argN_cons (argN_cons argN_nil)))))
    (b_cons (s_if (t_gt (v_mod (v_intOf T.n_int (a_cons (v_ix (v_var 1) v_int) a_nil)) v_int) v_int) (b_cons (s_set (i := 3) sc_law.nd (v_callS G__law_formed (hr.mono (by decide)) T.g__law_formed D__law_formed.kp B__law_formed tkB (a_cons (v_var 1) (a_cons (v_var 2) a_nil)) (argN_cons (argN_cons argN_nil))))
    (b_cons (s_set (i := 4) sc_law.nd (v_mod (v_intOf T.n_int (a_cons (v_ix (v_var 1) v_int) a_nil)) (v_len T.n_len (a_cons (v_var 3) a_nil))))
    (b_cons (s_if (t_eq hr.units (v_mod (v_intOf T.n_int (a_cons (v_ix (v_var 1) v_int) a_nil)) v_int) v_int) (b_one (s_put (v_ix (v_var 2) v_int) (v_var 3) (v_var 4))) b_nil)
    (b_cons (s_if (t_w (w_and (t_eq hr.units (v_mod (v_intOf T.n_int (a_cons (v_ix (v_var 1) v_int) a_nil)) v_int) v_int) (w_and1 (t_gt (v_len T.n_len (a_cons (v_var 3) a_nil)) v_int)))) (b_one (s_set (i := 3) sc_law.nd (v_plus true (v_sl false (v_var 3) o_none (o_some (v_var 4))) (v_sl false (v_var 3) (o_some (v_plus false (v_var 4) v_int)) o_none)))) b_nil)
    (b_cons (s_if (t_eq hr.units (v_mod (v_intOf T.n_int (a_cons (v_ix (v_var 1) v_int) a_nil)) v_int) v_int) (b_one (s_expr (v_app (v_var 3) (a_cons (v_ix (v_var 2) v_int) a_nil)))) b_nil)
    (b_one (s_set (i := 2) sc_law.nd (v_frz (v_var 3))))))))) b_nil)
    (b_cons (s_set (i := 5) sc_law.nd (v_times false v_str (v_mod (v_intOf T.n_int (a_cons (v_ix (v_var 1) v_int) a_nil)) v_int)))
    (b_cons (s_for (passes_of rfl) rfl (i_rg1 rfl T.n_range (a_cons (v_len T.n_len (a_cons (v_var 2) a_nil)) a_nil)) (g_nm sc_law.nd 6) (b_cons (s_set (i := 5) sc_law.nd (v_plus false (v_var 5) (v_ix (v_var 2) (v_var 6))))
    (b_one (s_if (t_lt (v_plus false (v_var 6) v_int) (v_len T.n_len (a_cons (v_var 2) a_nil))) (b_one (s_set (i := 5) sc_law.nd (v_plus false (v_var 5) (v_times false v_str (v_plus false v_int (v_mod (v_intOf T.n_int (a_cons (v_plus false (v_ix (v_var 1) v_int) (v_times false (v_var 6) (v_ix (v_var 1) v_int))) a_nil)) v_int)))))) b_nil))))
    (b_cons (s_set (i := 5) sc_law.nd (v_plus false (v_var 5) (v_times false v_str (v_mod (v_intOf T.n_int (a_cons (v_ix (v_var 1) v_int) a_nil)) v_int))))
    (b_cons (s_set (i := 7) sc_law.nd (v_call G_split_words (hr.mono (by decide)) T.g_split_words D_split_words.kp B_split_words tkB (a_cons (v_var 5) a_nil) (argN_cons argN_nil)))
    (b_cons (s_if (t_w (w_or (t_not (t_tru (v_isi T.n_isinstance (a_cons (v_var 7) (a_cons (v_ty T.n_list) a_nil))))) (w_or (t_ne hr.units (v_var 7) (v_var 2)) (w_or1 (t_ne hr.units (v_call G_split_words (hr.mono (by decide)) T.g_split_words D_split_words.kp B_split_words tkB (a_cons (v_times false v_str (v_mod (v_intOf T.n_int (a_cons (v_ix (v_var 1) v_int) a_nil)) v_int)) a_nil) (argN_cons argN_nil)) (v_lst false a_nil)))))) (b_one (s_ret v_bl)) b_nil)
    (b_cons (s_if (t_ne hr.units (v_call G_split_words (hr.mono (by decide)) T.g_split_words D_split_words.kp B_split_words tkB (a_cons v_str a_nil) (argN_cons argN_nil)) (v_lst false (a_cons v_str (a_cons v_str a_nil)))) (b_one (s_ret v_bl)) b_nil)
    (b_cons (s_set (i := 8) sc_law.nd (v_lstOf false T.n_list (a_cons (v_var 2) a_nil)))
    (b_cons (s_set (i := 9) sc_law.nd (v_call G_is_command (hr.mono (by decide)) T.g_is_command D_is_command.kp B_is_command tkB (a_cons (v_var 8) a_nil) (argN_cons argN_nil)))
    (b_one (s_ret (v_and (v_isi T.n_isinstance (a_cons (v_var 9) (a_cons (v_ty T.n_bool) a_nil))) (v_and (v_eq hr.units (v_var 9) (v_call G__law_command (hr.mono (by decide)) T.g__law_command D__law_command.kp B__law_command tkB (a_cons (v_var 2) a_nil) (argN_cons argN_nil))) (v_one (v_eq hr.units (v_var 8) (v_var 2))))))))))))))))))
def fa : List He.Fa := [.free "abs", .free "all", .free "bool", .free "int", .free "isinstance", .free "len", .free "list", .free "max", .free "range", .str "DIGITS" "0123456789", .int "MOST_ASKED" 6, .int "MOST_DIGITS" 31, .int "MOST_NAME_CHARS" 12, .str "NAME_CHARS" "abcdefghijklmnopqrstuvwxyz0123456789", .glo "ASKED", .glo "FORMS", .glo "is_name", .glo "is_number", .glo "split_words", .glo "are_names", .glo "are_numbers", .glo "is_command", .glo "_law_row", .glo "_law_numbers", .glo "_law_word", .glo "_law_is_name", .glo "_law_all_names", .glo "_law_is_number", .glo "_law_all_numbers", .glo "_law_command", .glo "_law_formed", .glo "law"]
def fn : List He.DefD := [⟨("is_name", none), "is_name", "is_name", defArgs s_is_name, defBody s_is_name, defScope s_is_name, [], []⟩,
  ⟨("is_number", none), "is_number", "is_number", defArgs s_is_number, defBody s_is_number, defScope s_is_number, [], []⟩,
  ⟨("split_words", none), "split_words", "split_words", defArgs s_split_words, defBody s_split_words, defScope s_split_words, [], []⟩,
  ⟨("are_names", none), "are_names", "are_names", defArgs s_are_names, defBody s_are_names, defScope s_are_names, [], []⟩,
  ⟨("are_numbers", none), "are_numbers", "are_numbers", defArgs s_are_numbers, defBody s_are_numbers, defScope s_are_numbers, [], []⟩,
  ⟨("is_command", none), "is_command", "is_command", defArgs s_is_command, defBody s_is_command, defScope s_is_command, [], []⟩,
  ⟨("_law_row", none), "_law_row", "_law_row", defArgs s__law_row, defBody s__law_row, defScope s__law_row, [], []⟩,
  ⟨("_law_numbers", none), "_law_numbers", "_law_numbers", defArgs s__law_numbers, defBody s__law_numbers, defScope s__law_numbers, [], []⟩,
  ⟨("_law_word", none), "_law_word", "_law_word", defArgs s__law_word, defBody s__law_word, defScope s__law_word, [], []⟩,
  ⟨("_law_is_name", none), "_law_is_name", "_law_is_name", defArgs s__law_is_name, defBody s__law_is_name, defScope s__law_is_name, [], []⟩,
  ⟨("_law_all_names", none), "_law_all_names", "_law_all_names", defArgs s__law_all_names, defBody s__law_all_names, defScope s__law_all_names, [], []⟩,
  ⟨("_law_is_number", none), "_law_is_number", "_law_is_number", defArgs s__law_is_number, defBody s__law_is_number, defScope s__law_is_number, [], []⟩,
  ⟨("_law_all_numbers", none), "_law_all_numbers", "_law_all_numbers", defArgs s__law_all_numbers, defBody s__law_all_numbers, defScope s__law_all_numbers, [], []⟩,
  ⟨("_law_command", none), "_law_command", "_law_command", defArgs s__law_command, defBody s__law_command, defScope s__law_command, [], []⟩,
  ⟨("_law_formed", none), "_law_formed", "_law_formed", defArgs s__law_formed, defBody s__law_formed, defScope s__law_formed, [], []⟩,
  ⟨("law", none), "law", "law", defArgs s_law, defBody s_law, defScope s_law, [], []⟩]
def tbs : List (Str × Tbl) := [("ASKED", tb_ASKED), ("FORMS", tb_FORMS)]
abbrev tbK : List He.Tab := tbs.map fun t => (fun K => He.ga K t.1, t.2.map Prod.fst)
abbrev tbX : PySem.W.Frag → Bool := fun K => tbs.all fun t => He.valsB K (He.ga K t.1) t.2
theorem tx_of {K : PySem.W.Frag} {w : World} {h : Heap} {mg : Str → Option Value} (X : K.In h) (G : h.Ns mainGlobals mg) (c₀ : SaysE fa fn tbK tbX w K) : Tx K w mg :=
  have c := c₀.t.d
  ⟨He.free_ok X G (c.fact 0 rfl), He.free_ok X G (c.fact 1 rfl), He.free_ok X G (c.fact 2 rfl), He.free_ok X G (c.fact 3 rfl), He.free_ok X G (c.fact 4 rfl), He.free_ok X G (c.fact 5 rfl), He.free_ok X G (c.fact 6 rfl), He.free_ok X G (c.fact 7 rfl), He.free_ok X G (c.fact 8 rfl), He.str_ok X G (c.fact 9 rfl), He.int_ok X G (c.fact 10 rfl), He.int_ok X G (c.fact 11 rfl), He.int_ok X G (c.fact 12 rfl), He.str_ok X G (c.fact 13 rfl), He.glo_ok X G (c.fact 14 rfl), c₀.tab 0 rfl, He.glo_ok X G (c.fact 15 rfl), c₀.tab 1 rfl, He.glo_ok X G (c.fact 16 rfl), He.glo_ok X G (c.fact 17 rfl), He.glo_ok X G (c.fact 18 rfl), He.glo_ok X G (c.fact 19 rfl), He.glo_ok X G (c.fact 20 rfl), He.glo_ok X G (c.fact 21 rfl), He.glo_ok X G (c.fact 22 rfl), He.glo_ok X G (c.fact 23 rfl), He.glo_ok X G (c.fact 24 rfl), He.glo_ok X G (c.fact 25 rfl), He.glo_ok X G (c.fact 26 rfl), He.glo_ok X G (c.fact 27 rfl), He.glo_ok X G (c.fact 28 rfl), He.glo_ok X G (c.fact 29 rfl), He.glo_ok X G (c.fact 30 rfl), He.glo_ok X G (c.fact 31 rfl), c.def_ 0 rfl, c.def_ 1 rfl, c.def_ 2 rfl, c.def_ 3 rfl, c.def_ 4 rfl, c.def_ 5 rfl, c.def_ 6 rfl, c.def_ 7 rfl, c.def_ 8 rfl, c.def_ 9 rfl, c.def_ 10 rfl, c.def_ 11 rfl, c.def_ 12 rfl, c.def_ 13 rfl, c.def_ 14 rfl, c.def_ 15 rfl⟩
end
end K57

set_option Elab.async false
set_option linter.all false
set_option maxRecDepth 100000
namespace K57
open PySem PyProof.Rows PySem.Spec L2 VL TL
noncomputable section
/-! ### signs -/
def dgC (c : Nat) : Bool := decide (48 ≤ c ∧ c ≤ 57)
def alC (c : Nat) : Bool := decide (97 ≤ c ∧ c ≤ 122)
def nmC (c : Nat) : Bool := alC c || dgC c
theorem in_digits (c : Nat) : decide (c ∈ ("0123456789" : Str).cps.toList) = dgC c := by
  have e : ("0123456789" : Str).cps.toList = (List.range 10).map (48 + ·) := by decide +kernel
  rw [e, dgC, decide_eq_decide, List.mem_map]
  exact ⟨fun ⟨a, h, e⟩ => by have := List.mem_range.mp h; omega, fun h => ⟨c - 48, List.mem_range.mpr (by omega), by omega⟩⟩
theorem in_letters (c : Nat) : decide (c ∈ ("abcdefghijklmnopqrstuvwxyz" : Str).cps.toList) = alC c := by
  have e : ("abcdefghijklmnopqrstuvwxyz" : Str).cps.toList = (List.range 26).map (97 + ·) := by decide +kernel
  rw [e, alC, decide_eq_decide, List.mem_map]
  exact ⟨fun ⟨a, h, e⟩ => by have := List.mem_range.mp h; omega, fun h => ⟨c - 97, List.mem_range.mpr (by omega), by omega⟩⟩
theorem in_names (c : Nat) : decide (c ∈ ("abcdefghijklmnopqrstuvwxyz0123456789" : Str).cps.toList) = nmC c := by
  have e : ("abcdefghijklmnopqrstuvwxyz0123456789" : Str).cps.toList = (List.range 26).map (97 + ·) ++ (List.range 10).map (48 + ·) := by decide +kernel
  rw [e, nmC, ← in_letters, ← in_digits, ← Bool.decide_or, decide_eq_decide]
  have e1 : ("0123456789" : Str).cps.toList = (List.range 10).map (48 + ·) := by decide +kernel
  have e2 : ("abcdefghijklmnopqrstuvwxyz" : Str).cps.toList = (List.range 26).map (97 + ·) := by decide +kernel
  rw [e1, e2, List.mem_append]
theorem memP {L : Str} {p : Nat → Bool} (h : ∀ c, decide (c ∈ L.cps.toList) = p c) (c : Nat) : (c ∈ L.cps) ↔ p c = true := by
  rw [← h c, decide_eq_true_eq, Array.mem_toList_iff]
theorem digP (c : Nat) : (c ∈ ("0123456789" : Str).cps) ↔ dgC c = true := memP in_digits c
theorem letP (c : Nat) : (c ∈ ("abcdefghijklmnopqrstuvwxyz" : Str).cps) ↔ alC c = true := memP in_letters c
/-- a word as the law makes it -/
structure Ok (w : Str) : Prop where
  ne : tl w ≠ []
  le : w.length ≤ 60
  ch : ∀ c ∈ tl w, c < 128 ∧ c ≠ 32
theorem Ok.ok {w : Str} (h : Ok w) : PyData.strOk w = true := by
  show w.cps.all (· < 0x110000) = true
  rw [← Array.all_toList, List.all_eq_true]
  intro c hc
  have := (h.ch c hc).1
  exact decide_eq_true (by omega)
def first (w : Str) : Nat := (tl w).headD 0
def isName (w : Str) : Bool := decide (w.length ≤ 12) && (!dgC (first w) && (tl w).all nmC)
def isNumber (w : Str) : Bool := decide (w.length ≤ 31) && ((tl w).all dgC && (decide (w.length = 1) || !decide (first w = 48)))
theorem sg_all (w : Str) (p : Nat → Bool) : ((sgD w).all fun d => match d with
    | .str ⟨⟨[c]⟩⟩ => p c
    | _ => false) = (tl w).all p := by
  rw [sgD, List.all_map]
  rfl
theorem Ok.split {w : Str} (h : Ok w) : ∃ c r, tl w = c :: r ∧ first w = c ∧ w.length = r.length + 1 := by
  cases e : tl w with
  | nil => exact absurd e h.ne
  | cons c r => exact ⟨c, r, rfl, by rw [first, e]; rfl, by rw [len_tl, e]; rfl⟩
theorem all_signs {L : Str} {p : Nat → Bool} (hL : ∀ c, decide (c ∈ L.cps.toList) = p c) {w : Str} (h : w.length ≤ 60) (ρ : List (Option D)) (η : List Cell) (h0 : ρ[0]? = some (some (.str w))) (h1 : 1 < ρ.length) :
    eCall kAll (aCons (eLc false [1] (gNm 1) (itU (eVar 0)) tYes' (e2 (kIn false) (eVar 1) (eC (.str L)))) aNil) ⟨ρ, η⟩ = .ok (.bl ((tl w).all p)) ⟨ρ, η⟩ := by
  rw [all_to (s1 := ⟨ρ, η⟩) (ds := sgD w) (fun d => match d with
    | .str ⟨⟨[c]⟩⟩ => p c
    | _ => false) (by simp only [itU, eVar, h0, bind_ok]) (by rw [sgD_len]; omega) ?_, sg_all]
  intro d hd
  obtain ⟨c, _, rfl⟩ := List.mem_map.mp hd
  refine ⟨⟨(ρ.set 1 none).set 1 (some (.str ⟨#[c]⟩)), η⟩, ⟨(ρ.set 1 none).set 1 (some (.str ⟨#[c]⟩)), η⟩, rfl, ?_, rfl, rfl⟩
  have e1 : ((ρ.set 1 none).set 1 (some (D.str ⟨#[c]⟩)))[1]? = some (some (.str ⟨#[c]⟩)) := by
    rw [List.getElem?_set_self (by rw [List.length_set]; exact h1)]
  simp only [e2, eVar, e1, bind_ok, eC, kIn, look, inB, hL, Bool.false_eq_true, if_false]
theorem is_name_ok {w : Str} (h : Ok w) : F_is_name [.str w] = .ok (.bl (isName w)) := by
  obtain ⟨c, r, q1, q2, q3⟩ := h.split
  have hl : w.length ≤ 16000000 := by have := h.le; omega
  have hs : w.length ≤ sizeLine := by rw [sizeLine_eq]; omega
  have ea := all_signs in_names h.le [some (.str w), none] [] rfl (show 1 < 2 by decide)
  have h12 : ((w.length : Int) ≤ 12) = (w.length ≤ 12) := propext (by omega)
  have h1 : ((1 : Int) ≤ w.length) = True := eq_true (by omega)
  have hf := at_first q1
  rw [isName, q2]
  unfold F_is_name b_is_name
  by_cases c1 : w.length ≤ 12 <;> by_cases c2 : dgC c = true <;> simp [runP, runS, sSeq, sExpr, sRet, sRetN, sSet, sIf, sNil, sRaise, sBrk, sCnt, sFor, sAsg, sAug, eVar, eC, e2, e1, eChain, bOf, tAnd', tOr', tNot', eAnd, eOr, eNot, eIf, callP, callS, aCons, aNil, eTup, eLst, newL, eCall, tTru, truD, kInt, kIntC, S.put, gNm, gTup', gCons', gNil', itS, itL, itT, itR1, itR2, kIx, kSl, eSl, oNone, oSome, kLen, kAbs, kMax2, kMin2, kIntOf, kSorted, kAll, kAny, kTupOf, kLstOf, kIsi, eApp, kApp, eFrz, look, tYes', kNeg, kIs, kIsNot, wipeD, Res.bind, Res.bindS, pf_non, pf_bl, pf_int, pf_str, pf_tup, pf_lst, pf_scr, pfs_nil, pfs_cons, pfF, eqI, neI, eqS, neS, decide_eq_true_eq, kTimes, kIn, inB, eM1, eM0, kJoin, kSplit, kUpper, sPut, sPar2, sPar3, eInT, eIxT, itU, hs, h12, h1, c1, c2, hf, digP] at ea ⊢ <;> simp [ea, pf_bl]
theorem law_is_name_ok {w : Str} (h : Ok w) : F__law_is_name [.str w] = .ok (.bl (isName w)) := by
  obtain ⟨c, r, q1, q2, q3⟩ := h.split
  have hs : w.length ≤ sizeLine := by have := h.le; rw [sizeLine_eq]; omega
  have ea := all_signs in_names h.le [some (.str w), none] [] rfl (show 1 < 2 by decide)
  have h12 : ((12 : Int) < w.length) = (12 < w.length) := propext (by omega)
  have h1 : ((w.length : Int) < 1) = False := eq_false (by omega)
  have hf := at_first q1
  have hx : alC c = true → nmC c = true ∧ dgC c = false := by
    simp [nmC, alC, dgC]
    omega
  have hy : alC c = false → dgC c = false → (tl w).all nmC = false := fun a b => by
    rw [q1, List.all_cons, nmC, a, b]
    rfl
  rw [isName, q2]
  unfold F__law_is_name b__law_is_name
  by_cases c1 : 12 < w.length
  · simp [runP, runS, sSeq, sExpr, sRet, sRetN, sSet, sIf, sNil, sRaise, sBrk, sCnt, sFor, sAsg, sAug, eVar, eC, e2, e1, eChain, bOf, tAnd', tOr', tNot', eAnd, eOr, eNot, eIf, callP, callS, aCons, aNil, eTup, eLst, newL, eCall, tTru, truD, kInt, kIntC, S.put, gNm, gTup', gCons', gNil', itS, itL, itT, itR1, itR2, kIx, kSl, eSl, oNone, oSome, kLen, kAbs, kMax2, kMin2, kIntOf, kSorted, kAll, kAny, kTupOf, kLstOf, kIsi, eApp, kApp, eFrz, look, tYes', kNeg, kIs, kIsNot, wipeD, Res.bind, Res.bindS, pf_non, pf_bl, pf_int, pf_str, pf_tup, pf_lst, pf_scr, pfs_nil, pfs_cons, pfF, eqI, neI, eqS, neS, decide_eq_true_eq, kTimes, kIn, inB, eM1, eM0, kJoin, kSplit, kUpper, sPut, sPar2, sPar3, eInT, eIxT, itU, hs, h12, h1, c1, hf, letP]
    omega
  · by_cases c2 : alC c = true
    · simp [runP, runS, sSeq, sExpr, sRet, sRetN, sSet, sIf, sNil, sRaise, sBrk, sCnt, sFor, sAsg, sAug, eVar, eC, e2, e1, eChain, bOf, tAnd', tOr', tNot', eAnd, eOr, eNot, eIf, callP, callS, aCons, aNil, eTup, eLst, newL, eCall, tTru, truD, kInt, kIntC, S.put, gNm, gTup', gCons', gNil', itS, itL, itT, itR1, itR2, kIx, kSl, eSl, oNone, oSome, kLen, kAbs, kMax2, kMin2, kIntOf, kSorted, kAll, kAny, kTupOf, kLstOf, kIsi, eApp, kApp, eFrz, look, tYes', kNeg, kIs, kIsNot, wipeD, Res.bind, Res.bindS, pf_non, pf_bl, pf_int, pf_str, pf_tup, pf_lst, pf_scr, pfs_nil, pfs_cons, pfF, eqI, neI, eqS, neS, decide_eq_true_eq, kTimes, kIn, inB, eM1, eM0, kJoin, kSplit, kUpper, sPut, sPar2, sPar3, eInT, eIxT, itU, hs, h12, h1, c1, c2, hf, letP, (hx c2).2] at ea ⊢
      simp [ea, pf_bl, show w.length ≤ 12 by omega]
    · by_cases c3 : dgC c = true
      · simp [runP, runS, sSeq, sExpr, sRet, sRetN, sSet, sIf, sNil, sRaise, sBrk, sCnt, sFor, sAsg, sAug, eVar, eC, e2, e1, eChain, bOf, tAnd', tOr', tNot', eAnd, eOr, eNot, eIf, callP, callS, aCons, aNil, eTup, eLst, newL, eCall, tTru, truD, kInt, kIntC, S.put, gNm, gTup', gCons', gNil', itS, itL, itT, itR1, itR2, kIx, kSl, eSl, oNone, oSome, kLen, kAbs, kMax2, kMin2, kIntOf, kSorted, kAll, kAny, kTupOf, kLstOf, kIsi, eApp, kApp, eFrz, look, tYes', kNeg, kIs, kIsNot, wipeD, Res.bind, Res.bindS, pf_non, pf_bl, pf_int, pf_str, pf_tup, pf_lst, pf_scr, pfs_nil, pfs_cons, pfF, eqI, neI, eqS, neS, decide_eq_true_eq, kTimes, kIn, inB, eM1, eM0, kJoin, kSplit, kUpper, sPut, sPar2, sPar3, eInT, eIxT, itU, hs, h12, h1, c1, c2, c3, hf, letP]
      · have := hy (by simpa using c2) (by simpa using c3)
        simp [runP, runS, sSeq, sExpr, sRet, sRetN, sSet, sIf, sNil, sRaise, sBrk, sCnt, sFor, sAsg, sAug, eVar, eC, e2, e1, eChain, bOf, tAnd', tOr', tNot', eAnd, eOr, eNot, eIf, callP, callS, aCons, aNil, eTup, eLst, newL, eCall, tTru, truD, kInt, kIntC, S.put, gNm, gTup', gCons', gNil', itS, itL, itT, itR1, itR2, kIx, kSl, eSl, oNone, oSome, kLen, kAbs, kMax2, kMin2, kIntOf, kSorted, kAll, kAny, kTupOf, kLstOf, kIsi, eApp, kApp, eFrz, look, tYes', kNeg, kIs, kIsNot, wipeD, Res.bind, Res.bindS, pf_non, pf_bl, pf_int, pf_str, pf_tup, pf_lst, pf_scr, pfs_nil, pfs_cons, pfF, eqI, neI, eqS, neS, decide_eq_true_eq, kTimes, kIn, inB, eM1, eM0, kJoin, kSplit, kUpper, sPut, sPar2, sPar3, eInT, eIxT, itU, hs, h12, h1, c1, c2, c3, hf, letP] at this ⊢
        intro _
        exact this
theorem is_number_ok {w : Str} (h : Ok w) : F_is_number [.str w] = .ok (.bl (isNumber w)) := by
  obtain ⟨c, r, q1, q2, q3⟩ := h.split
  have hs : w.length ≤ sizeLine := by have := h.le; rw [sizeLine_eq]; omega
  have ea := all_signs in_digits h.le [some (.str w), none] [] rfl (show 1 < 2 by decide)
  have h12 : ((w.length : Int) ≤ 31) = (w.length ≤ 31) := propext (by omega)
  have h1 : ((1 : Int) ≤ w.length) = True := eq_true (by omega)
  have hf := at_first q1
  have ok := h.ok
  have k0 : PyData.strOk "0" = true := by decide +kernel
  have okc : PyData.strOk ⟨#[c]⟩ = true := by
    show (#[c]).all (· < 0x110000) = true
    have := (h.ch c (by rw [q1]; exact List.mem_cons_self)).1
    simp
    omega
  have w0 : w = "0" ↔ w.length = 1 ∧ c = 48 := by
    constructor
    · intro e
      subst e
      have : tl ("0" : Str) = [48] := by decide +kernel
      rw [this] at q1
      cases q1
      exact ⟨rfl, rfl⟩
    · intro ⟨a, b⟩
      have hr : r = [] := List.length_eq_zero_iff.mp (by omega)
      subst hr b
      refine ext_tl ?_
      rw [q1]
      decide +kernel
  have c0 : (⟨#[c]⟩ : Str) = "0" ↔ c = 48 := by
    constructor
    · intro e
      have : tl (⟨#[c]⟩ : Str) = tl "0" := by rw [e]
      have z : tl ("0" : Str) = [48] := by decide +kernel
      rw [z] at this
      exact List.cons.inj this |>.1
    · intro e
      subst e
      decide +kernel
  rw [isNumber, q2]
  unfold F_is_number b_is_number
  have y1 := eqS (s := ⟨[some (.str w), none], []⟩) (x := w) (y := "0") (by simpa [PyData.canLay0] using ok) (by simpa [PyData.canLay0] using k0)
  have y2 := neS (s := ⟨[some (.str w), none], []⟩) (x := ⟨#[c]⟩) (y := "0") (by simpa [PyData.canLay0] using okc) (by simpa [PyData.canLay0] using k0)
  have ca : (tl w).all dgC = w.cps.all dgC := Array.all_toList
  rw [ca] at ea ⊢
  by_cases c1 : w.length ≤ 31
  · cases c2 : w.cps.all dgC with
    | true =>
      rw [c2] at ea
      simp [runP, runS, sSeq, sExpr, sRet, sRetN, sSet, sIf, sNil, sRaise, sBrk, sCnt, sFor, sAsg, sAug, eVar, eC, e2, e1, eChain, bOf, tAnd', tOr', tNot', eAnd, eOr, eNot, eIf, callP, callS, aCons, aNil, eTup, eLst, newL, eCall, tTru, truD, kInt, kIntC, S.put, gNm, gTup', gCons', gNil', itS, itL, itT, itR1, itR2, kIx, kSl, eSl, oNone, oSome, kLen, kAbs, kMax2, kMin2, kIntOf, kSorted, kAll, kAny, kTupOf, kLstOf, kIsi, eApp, kApp, eFrz, look, tYes', kNeg, kIs, kIsNot, wipeD, Res.bind, Res.bindS, pf_non, pf_bl, pf_int, pf_str, pf_tup, pf_lst, pf_scr, pfs_nil, pfs_cons, pfF, eqI, neI, eqS, neS, decide_eq_true_eq, kTimes, kIn, inB, eM1, eM0, kJoin, kSplit, kUpper, sPut, sPar2, sPar3, eInT, eIxT, itU, hs, h12, h1, c1, hf, y1, y2] at ea ⊢
      simp [ea, y1, y2, pf_bl]
      by_cases z : w = "0"
      · rw [if_pos z]
        simp [(w0.mp z).1, pf_bl]
      · rw [if_neg z]
        simp [hs, hf, y2, c0, pf_bl]
        by_cases d : c = 48
        · have : w.length ≠ 1 := fun e => z (w0.mpr ⟨e, d⟩)
          simp [d, this]
        · simp [d]
    | false =>
      rw [c2] at ea
      simp [runP, runS, sSeq, sExpr, sRet, sRetN, sSet, sIf, sNil, sRaise, sBrk, sCnt, sFor, sAsg, sAug, eVar, eC, e2, e1, eChain, bOf, tAnd', tOr', tNot', eAnd, eOr, eNot, eIf, callP, callS, aCons, aNil, eTup, eLst, newL, eCall, tTru, truD, kInt, kIntC, S.put, gNm, gTup', gCons', gNil', itS, itL, itT, itR1, itR2, kIx, kSl, eSl, oNone, oSome, kLen, kAbs, kMax2, kMin2, kIntOf, kSorted, kAll, kAny, kTupOf, kLstOf, kIsi, eApp, kApp, eFrz, look, tYes', kNeg, kIs, kIsNot, wipeD, Res.bind, Res.bindS, pf_non, pf_bl, pf_int, pf_str, pf_tup, pf_lst, pf_scr, pfs_nil, pfs_cons, pfF, eqI, neI, eqS, neS, decide_eq_true_eq, kTimes, kIn, inB, eM1, eM0, kJoin, kSplit, kUpper, sPut, sPar2, sPar3, eInT, eIxT, itU, hs, h12, h1, c1, hf, y1, y2] at ea ⊢
      simp [ea, pf_bl]
  · simp [runP, runS, sSeq, sExpr, sRet, sRetN, sSet, sIf, sNil, sRaise, sBrk, sCnt, sFor, sAsg, sAug, eVar, eC, e2, e1, eChain, bOf, tAnd', tOr', tNot', eAnd, eOr, eNot, eIf, callP, callS, aCons, aNil, eTup, eLst, newL, eCall, tTru, truD, kInt, kIntC, S.put, gNm, gTup', gCons', gNil', itS, itL, itT, itR1, itR2, kIx, kSl, eSl, oNone, oSome, kLen, kAbs, kMax2, kMin2, kIntOf, kSorted, kAll, kAny, kTupOf, kLstOf, kIsi, eApp, kApp, eFrz, look, tYes', kNeg, kIs, kIsNot, wipeD, Res.bind, Res.bindS, pf_non, pf_bl, pf_int, pf_str, pf_tup, pf_lst, pf_scr, pfs_nil, pfs_cons, pfF, eqI, neI, eqS, neS, decide_eq_true_eq, kTimes, kIn, inB, eM1, eM0, kJoin, kSplit, kUpper, sPut, sPar2, sPar3, eInT, eIxT, itU, hs, h12, h1, c1, hf]
theorem law_is_number_ok {w : Str} (h : Ok w) : F__law_is_number [.str w] = .ok (.bl (isNumber w)) := by
  obtain ⟨c, r, q1, q2, q3⟩ := h.split
  have hs : w.length ≤ sizeLine := by have := h.le; rw [sizeLine_eq]; omega
  have ea := all_signs in_digits h.le [some (.str w), none] [] rfl (show 1 < 2 by decide)
  have h12 : ((31 : Int) < w.length) = (31 < w.length) := propext (by omega)
  have h1 : ((w.length : Int) < 1) = False := eq_false (by omega)
  have h2 : ((1 : Int) < w.length) = (1 < w.length) := propext (by omega)
  have hf := at_first q1
  have k0 : PyData.strOk "0" = true := by decide +kernel
  have okc : PyData.strOk ⟨#[c]⟩ = true := by
    show (#[c]).all (· < 0x110000) = true
    have := (h.ch c (by rw [q1]; exact List.mem_cons_self)).1
    simp
    omega
  have c0 : (⟨#[c]⟩ : Str) = "0" ↔ c = 48 := by
    constructor
    · intro e
      have : tl (⟨#[c]⟩ : Str) = tl "0" := by rw [e]
      have z : tl ("0" : Str) = [48] := by decide +kernel
      rw [z] at this
      exact List.cons.inj this |>.1
    · intro e
      subst e
      decide +kernel
  rw [isNumber, q2]
  unfold F__law_is_number b__law_is_number
  have y2 := eqS (s := ⟨[some (.str w), none], []⟩) (x := ⟨#[c]⟩) (y := "0") (by simpa [PyData.canLay0] using okc) (by simpa [PyData.canLay0] using k0)
  have ca : (tl w).all dgC = w.cps.all dgC := Array.all_toList
  rw [ca] at ea ⊢
  by_cases c1 : 31 < w.length
  · simp [runP, runS, sSeq, sExpr, sRet, sRetN, sSet, sIf, sNil, sRaise, sBrk, sCnt, sFor, sAsg, sAug, eVar, eC, e2, e1, eChain, bOf, tAnd', tOr', tNot', eAnd, eOr, eNot, eIf, callP, callS, aCons, aNil, eTup, eLst, newL, eCall, tTru, truD, kInt, kIntC, S.put, gNm, gTup', gCons', gNil', itS, itL, itT, itR1, itR2, kIx, kSl, eSl, oNone, oSome, kLen, kAbs, kMax2, kMin2, kIntOf, kSorted, kAll, kAny, kTupOf, kLstOf, kIsi, eApp, kApp, eFrz, look, tYes', kNeg, kIs, kIsNot, wipeD, Res.bind, Res.bindS, pf_non, pf_bl, pf_int, pf_str, pf_tup, pf_lst, pf_scr, pfs_nil, pfs_cons, pfF, eqI, neI, eqS, neS, decide_eq_true_eq, kTimes, kIn, inB, eM1, eM0, kJoin, kSplit, kUpper, sPut, sPar2, sPar3, eInT, eIxT, itU, hs, h12, h1, c1, hf]
    omega
  · have c1' : w.length ≤ 31 := by omega
    by_cases l1 : 1 < w.length
    · have l2 : ¬ w.length = 1 := by omega
      by_cases d : c = 48
      · rw [decide_eq_true (c0.mpr d)] at y2
        rw [decide_eq_true d]
        simp [runP, runS, sSeq, sExpr, sRet, sRetN, sSet, sIf, sNil, sRaise, sBrk, sCnt, sFor, sAsg, sAug, eVar, eC, e2, e1, eChain, bOf, tAnd', tOr', tNot', eAnd, eOr, eNot, eIf, callP, callS, aCons, aNil, eTup, eLst, newL, eCall, tTru, truD, kInt, kIntC, S.put, gNm, gTup', gCons', gNil', itS, itL, itT, itR1, itR2, kIx, kSl, eSl, oNone, oSome, kLen, kAbs, kMax2, kMin2, kIntOf, kSorted, kAll, kAny, kTupOf, kLstOf, kIsi, eApp, kApp, eFrz, look, tYes', kNeg, kIs, kIsNot, wipeD, Res.bind, Res.bindS, pf_non, pf_bl, pf_int, pf_str, pf_tup, pf_lst, pf_scr, pfs_nil, pfs_cons, pfF, eqI, neI, eqS, neS, decide_eq_true_eq, kTimes, kIn, inB, eM1, eM0, kJoin, kSplit, kUpper, sPut, sPar2, sPar3, eInT, eIxT, itU, hs, h12, h1, h2, c1, c1', l1, l2, hf, y2]
      · simp [runP, runS, sSeq, sExpr, sRet, sRetN, sSet, sIf, sNil, sRaise, sBrk, sCnt, sFor, sAsg, sAug, eVar, eC, e2, e1, eChain, bOf, tAnd', tOr', tNot', eAnd, eOr, eNot, eIf, callP, callS, aCons, aNil, eTup, eLst, newL, eCall, tTru, truD, kInt, kIntC, S.put, gNm, gTup', gCons', gNil', itS, itL, itT, itR1, itR2, kIx, kSl, eSl, oNone, oSome, kLen, kAbs, kMax2, kMin2, kIntOf, kSorted, kAll, kAny, kTupOf, kLstOf, kIsi, eApp, kApp, eFrz, look, tYes', kNeg, kIs, kIsNot, wipeD, Res.bind, Res.bindS, pf_non, pf_bl, pf_int, pf_str, pf_tup, pf_lst, pf_scr, pfs_nil, pfs_cons, pfF, eqI, neI, eqS, neS, decide_eq_true_eq, kTimes, kIn, inB, eM1, eM0, kJoin, kSplit, kUpper, sPut, sPar2, sPar3, eInT, eIxT, itU, hs, h12, h1, h2, c1, c1', l1, l2, hf, y2, c0, d] at ea ⊢
        simp [ea, pf_bl]
    · have l2 : w.length = 1 := by omega
      simp [runP, runS, sSeq, sExpr, sRet, sRetN, sSet, sIf, sNil, sRaise, sBrk, sCnt, sFor, sAsg, sAug, eVar, eC, e2, e1, eChain, bOf, tAnd', tOr', tNot', eAnd, eOr, eNot, eIf, callP, callS, aCons, aNil, eTup, eLst, newL, eCall, tTru, truD, kInt, kIntC, S.put, gNm, gTup', gCons', gNil', itS, itL, itT, itR1, itR2, kIx, kSl, eSl, oNone, oSome, kLen, kAbs, kMax2, kMin2, kIntOf, kSorted, kAll, kAny, kTupOf, kLstOf, kIsi, eApp, kApp, eFrz, look, tYes', kNeg, kIs, kIsNot, wipeD, Res.bind, Res.bindS, pf_non, pf_bl, pf_int, pf_str, pf_tup, pf_lst, pf_scr, pfs_nil, pfs_cons, pfF, eqI, neI, eqS, neS, decide_eq_true_eq, kTimes, kIn, inB, eM1, eM0, kJoin, kSplit, kUpper, sPut, sPar2, sPar3, eInT, eIxT, itU, hs, h12, h1, h2, c1, c1', l1, hf, y2, c0] at ea ⊢
      simp [ea, pf_bl, l2]
end
end K57

set_option Elab.async false
set_option linter.all false
set_option maxRecDepth 100000
namespace K57
open PySem PyProof.Rows PySem.Spec L2 VL TL
noncomputable section
def Oks (ws : List Str) : Prop := (∀ w ∈ ws, Ok w) ∧ ws.length ≤ 60
theorem Oks.take {ws : List Str} (h : Oks ws) (n : Nat) : Oks (ws.take n) := ⟨fun w m => h.1 w (List.mem_of_mem_take m), by have := h.2; rw [List.length_take]; omega⟩
theorem Oks.drop {ws : List Str} (h : Oks ws) (n : Nat) : Oks (ws.drop n) := ⟨fun w m => h.1 w (List.mem_of_mem_drop m), by have := h.2; rw [List.length_drop]; omega⟩
theorem Oks.pf {ws : List Str} : pfs (ws.map D.str) = true := by
  induction ws with
  | nil => rfl
  | cons w r ih => rw [List.map_cons, pfs_cons, ih]; rfl
theorem cut_to {α : Type} (l : List α) (n : Nat) : VL.cutD l none (some (n : Int)) = l.take n := by
  unfold VL.cutD
  rw [show HT.sIx l.length 0 none = 0 from rfl, HT.sIx_nat, List.drop_zero, Nat.sub_zero]
  by_cases h : n ≤ l.length
  · rw [Nat.min_eq_left h]
  · rw [Nat.min_eq_right (by omega), List.take_of_length_le (Nat.le_refl _), List.take_of_length_le (by omega)]
theorem cut_from {α : Type} (l : List α) (n : Nat) : VL.cutD l (some (n : Int)) none = l.drop n := by
  unfold VL.cutD
  rw [show HT.sIx l.length l.length none = l.length from rfl, HT.sIx_nat]
  by_cases h : n ≤ l.length
  · rw [Nat.min_eq_left h, List.take_of_length_le (by rw [List.length_drop]; omega)]
  · rw [Nat.min_eq_right (by omega), List.drop_of_length_le (Nat.le_refl _), List.drop_of_length_le (by omega), List.take_nil]
theorem all_call {G : PF} {p : Str → Bool} (hG : ∀ w, Ok w → G [.str w] = .ok (.bl (p w))) {ws : List Str} (h : Oks ws) :
    eCall kAll (aCons (eLc false [1] (gNm 1) (itU (eVar 0)) tYes' (callP G (aCons (eVar 1) aNil))) aNil) ⟨[some (.lst (ws.map D.str)), none], []⟩ = .ok (.bl (ws.all p)) ⟨[some (.lst (ws.map D.str)), none], []⟩ := by
  rw [all_to (it := itU (eVar 0)) (s1 := ⟨[some (.lst (ws.map D.str)), none], []⟩) (ds := ws.map D.str) (fun d => match d with
    | .str w => p w
    | _ => false) rfl (by have := h.2; rw [List.length_map]; omega) ?_, List.all_map]
  · rfl
  · intro d hd
    obtain ⟨w, hw, rfl⟩ := List.mem_map.mp hd
    refine ⟨⟨[some (.lst (ws.map D.str)), some (.str w)], []⟩, ⟨[some (.lst (ws.map D.str)), some (.str w)], []⟩, rfl, ?_, rfl, rfl⟩
    have := hG w (h.1 w hw)
    simp [runP, runS, sSeq, sExpr, sRet, sRetN, sSet, sIf, sNil, sRaise, sBrk, sCnt, sFor, sAsg, sAug, eVar, eC, e2, e1, eChain, bOf, tAnd', tOr', tNot', eAnd, eOr, eNot, eIf, callP, callS, aCons, aNil, eTup, eLst, newL, eCall, tTru, truD, kInt, kIntC, S.put, gNm, gTup', gCons', gNil', itS, itL, itT, itR1, itR2, kIx, kSl, eSl, oNone, oSome, kLen, kAbs, kMax2, kMin2, kIntOf, kSorted, kAll, kAny, kTupOf, kLstOf, kIsi, eApp, kApp, eFrz, look, tYes', kNeg, kIs, kIsNot, wipeD, Res.bind, Res.bindS, pf_non, pf_bl, pf_int, pf_str, pf_tup, pf_lst, pf_scr, pfs_nil, pfs_cons, pfF, eqI, neI, eqS, neS, decide_eq_true_eq, kTimes, kIn, inB, eM1, eM0, kJoin, kSplit, kUpper, sPut, sPar2, sPar3, eInT, eIxT, itU, this]
theorem are_names_ok {ws : List Str} (h : Oks ws) : F_are_names [.lst (ws.map D.str)] = .ok (.bl (ws.all isName)) := by
  have e := all_call (fun w => is_name_ok) h
  unfold F_are_names b_are_names runP
  simp only [sRet]
  rw [show (⟨[D.lst (ws.map D.str)].map some ++ List.replicate (2 - [D.lst (ws.map D.str)].length) none, []⟩ : S) = ⟨[some (.lst (ws.map D.str)), none], []⟩ from rfl, e]
  rfl
theorem law_all_names_ok {ws : List Str} (h : Oks ws) : F__law_all_names [.lst (ws.map D.str)] = .ok (.bl (ws.all isName)) := by
  have e := all_call (fun w => law_is_name_ok) h
  unfold F__law_all_names b__law_all_names runP
  simp only [sRet]
  rw [show (⟨[D.lst (ws.map D.str)].map some ++ List.replicate (2 - [D.lst (ws.map D.str)].length) none, []⟩ : S) = ⟨[some (.lst (ws.map D.str)), none], []⟩ from rfl, e]
  rfl
def numsB (ws : List Str) : Bool := decide (ws.length ≤ 6) && ws.all isNumber
theorem are_numbers_ok {ws : List Str} (h : Oks ws) : F_are_numbers [.lst (ws.map D.str)] = .ok (.bl (numsB ws)) := by
  have e := all_call (fun w => is_number_ok) h
  have h6 : ((ws.length : Int) ≤ 6) = (ws.length ≤ 6) := propext (by omega)
  unfold F_are_numbers b_are_numbers runP numsB
  rw [show (⟨[D.lst (ws.map D.str)].map some ++ List.replicate (2 - [D.lst (ws.map D.str)].length) none, []⟩ : S) = ⟨[some (.lst (ws.map D.str)), none], []⟩ from rfl]
  generalize eCall kAll _ = G at e ⊢
  by_cases c : ws.length ≤ 6 <;> simp [runP, runS, sSeq, sExpr, sRet, sRetN, sSet, sIf, sNil, sRaise, sBrk, sCnt, sFor, sAsg, sAug, eVar, eC, e2, e1, eChain, bOf, tAnd', tOr', tNot', eAnd, eOr, eNot, eIf, callP, callS, aCons, aNil, eTup, eLst, newL, eCall, tTru, truD, kInt, kIntC, S.put, gNm, gTup', gCons', gNil', itS, itL, itT, itR1, itR2, kIx, kSl, eSl, oNone, oSome, kLen, kAbs, kMax2, kMin2, kIntOf, kSorted, kAll, kAny, kTupOf, kLstOf, kIsi, eApp, kApp, eFrz, look, tYes', kNeg, kIs, kIsNot, wipeD, Res.bind, Res.bindS, pf_non, pf_bl, pf_int, pf_str, pf_tup, pf_lst, pf_scr, pfs_nil, pfs_cons, pfF, eqI, neI, eqS, neS, decide_eq_true_eq, kTimes, kIn, inB, eM1, eM0, kJoin, kSplit, kUpper, sPut, sPar2, sPar3, eInT, eIxT, itU, h6, c, e]
theorem law_all_numbers_ok {ws : List Str} (h : Oks ws) : F__law_all_numbers [.lst (ws.map D.str)] = .ok (.bl (numsB ws)) := by
  have e := all_call (fun w => law_is_number_ok) h
  have h6 : ((ws.length : Int) ≤ 6) = (ws.length ≤ 6) := propext (by omega)
  unfold F__law_all_numbers b__law_all_numbers runP numsB
  rw [show (⟨[D.lst (ws.map D.str)].map some ++ List.replicate (2 - [D.lst (ws.map D.str)].length) none, []⟩ : S) = ⟨[some (.lst (ws.map D.str)), none], []⟩ from rfl]
  generalize eCall kAll _ = G at e ⊢
  by_cases c : ws.length ≤ 6 <;> simp [runP, runS, sSeq, sExpr, sRet, sRetN, sSet, sIf, sNil, sRaise, sBrk, sCnt, sFor, sAsg, sAug, eVar, eC, e2, e1, eChain, bOf, tAnd', tOr', tNot', eAnd, eOr, eNot, eIf, callP, callS, aCons, aNil, eTup, eLst, newL, eCall, tTru, truD, kInt, kIntC, S.put, gNm, gTup', gCons', gNil', itS, itL, itT, itR1, itR2, kIx, kSl, eSl, oNone, oSome, kLen, kAbs, kMax2, kMin2, kIntOf, kSorted, kAll, kAny, kTupOf, kLstOf, kIsi, eApp, kApp, eFrz, look, tYes', kNeg, kIs, kIsNot, wipeD, Res.bind, Res.bindS, pf_non, pf_bl, pf_int, pf_str, pf_tup, pf_lst, pf_scr, pfs_nil, pfs_cons, pfF, eqI, neI, eqS, neS, decide_eq_true_eq, kTimes, kIn, inB, eM1, eM0, kJoin, kSplit, kUpper, sPut, sPar2, sPar3, eInT, eIxT, itU, h6, c, e]
/-! ### the commands of the program -/
theorem eq_lit {x y : Str} (hx : Ok x) (hy : PyData.strOk y = true) (s : S) : kEq (.str x) (.str y) s = .ok (.bl (decide (x = y))) s := eqS (by simpa [PyData.canLay0] using hx.ok) (by simpa [PyData.canLay0] using hy) s
theorem ne_lit {x y : Str} (hx : Ok x) (hy : PyData.strOk y = true) (s : S) : kNe (.str x) (.str y) s = .ok (.bl (!decide (x = y))) s := neS (by simpa [PyData.canLay0] using hx.ok) (by simpa [PyData.canLay0] using hy) s
theorem at_0 (w : Str) (r : List Str) : atI ((w :: r).map D.str) 0 = some (.str w) := atI_nat (j := 0) rfl
theorem cut_1 (w : Str) (r : List Str) : VL.cutD ((w :: r).map D.str) (some 1) none = r.map D.str := cut_from _ 1
theorem com_form {f : Str} {r : List Str} {n : Nat} (hf : Ok f) (hr : Oks r) (h : tb_FORMS.lookup f = some (.int n)) : F_is_command [.lst ((f :: r).map D.str)] = .ok (.bl (decide (r.length = n) && r.all isName)) := by
  have e := are_names_ok hr
  have h0 := at_0 f r
  have hc := cut_1 f r
  have hn : ((r.length : Int) = n) = (r.length = n) := propext (by omega)
  have hp : pfs (r.map D.str) = true := Oks.pf
  unfold F_is_command b_is_command
  generalize (f :: r).map D.str = l at h0 hc ⊢
  by_cases c : r.length = n <;> simp [runP, runS, sSeq, sExpr, sRet, sRetN, sSet, sIf, sNil, sRaise, sBrk, sCnt, sFor, sAsg, sAug, eVar, eC, e2, e1, eChain, bOf, tAnd', tOr', tNot', eAnd, eOr, eNot, eIf, callP, callS, aCons, aNil, eTup, eLst, newL, eCall, tTru, truD, kInt, kIntC, S.put, gNm, gTup', gCons', gNil', itS, itL, itT, itR1, itR2, kIx, kSl, eSl, oNone, oSome, kLen, kAbs, kMax2, kMin2, kIntOf, kSorted, kAll, kAny, kTupOf, kLstOf, kIsi, eApp, kApp, eFrz, look, tYes', kNeg, kIs, kIsNot, wipeD, Res.bind, Res.bindS, pf_non, pf_bl, pf_int, pf_str, pf_tup, pf_lst, pf_scr, pfs_nil, pfs_cons, pfF, eqI, neI, eqS, neS, decide_eq_true_eq, kTimes, kIn, inB, eM1, eM0, kJoin, kSplit, kUpper, sPut, sPar2, sPar3, eInT, eIxT, itU, newL, h0, hc, h, dvOk, dvD, hn, c, e, hp]
theorem cut_to2 (r : List Str) (n : Nat) : VL.cutD (r.map D.str) none (some (n : Int)) = (r.take n).map D.str := by rw [cut_to, List.map_take]
theorem cut_from2 (r : List Str) (n : Nat) : VL.cutD (r.map D.str) (some (n : Int)) none = (r.drop n).map D.str := by rw [cut_from, List.map_drop]
def takeB (r : List Str) : Bool := decide (2 < r.length) && ((r.take 2).all isName && numsB (r.drop 2))
theorem Str.ok_of {w : Str} (h : (w.cps.all fun c => decide (c < 128)) = true) : PyData.strOk w = true := by
  show w.cps.all (· < 0x110000) = true
  rw [← Array.all_toList, List.all_eq_true] at h ⊢
  intro c hc
  have := of_decide_eq_true (h c hc)
  exact decide_eq_true (by omega)
theorem com_take {f : Str} {r : List Str} (hf : Ok f) (hr : Oks r) (h : tb_FORMS.lookup f = none) (ht : f = "take") : F_is_command [.lst ((f :: r).map D.str)] = .ok (.bl (takeB r)) := by
  have z1 := are_names_ok (hr.take 2)
  have z2 := are_numbers_ok (hr.drop 2)
  have h0 := at_0 f r
  have hc := cut_1 f r
  have hn : ((2 : Int) < r.length) = (2 < r.length) := propext (by omega)
  have hp : pfs ((r.take 2).map D.str) = true := Oks.pf
  have hp2 : pfs ((r.drop 2).map D.str) = true := Oks.pf
  have k1 := cut_to2 r 2
  have k2 := cut_from2 r 2
  have q := fun s => eq_lit (y := "take") hf (by decide +kernel) s
  rw [decide_eq_true ht] at q
  unfold F_is_command b_is_command takeB
  generalize (f :: r).map D.str = l at h0 hc ⊢
  simp only [Int.ofNat_eq_natCast, Int.cast_ofNat_Int] at k1 k2
  by_cases c : 2 < r.length
  · cases c2 : (r.take 2).all isName <;> rw [c2] at z1 <;> simp only [List.map_take, List.map_drop] at hp hp2 k1 k2 z1 z2 <;> simp [runP, runS, sSeq, sExpr, sRet, sRetN, sSet, sIf, sNil, sRaise, sBrk, sCnt, sFor, sAsg, sAug, eVar, eC, e2, e1, eChain, bOf, tAnd', tOr', tNot', eAnd, eOr, eNot, eIf, callP, callS, aCons, aNil, eTup, eLst, newL, eCall, tTru, truD, kInt, kIntC, S.put, gNm, gTup', gCons', gNil', itS, itL, itT, itR1, itR2, kIx, kSl, eSl, oNone, oSome, kLen, kAbs, kMax2, kMin2, kIntOf, kSorted, kAll, kAny, kTupOf, kLstOf, kIsi, eApp, kApp, eFrz, look, tYes', kNeg, kIs, kIsNot, wipeD, Res.bind, Res.bindS, pf_non, pf_bl, pf_int, pf_str, pf_tup, pf_lst, pf_scr, pfs_nil, pfs_cons, pfF, eqI, neI, eqS, neS, decide_eq_true_eq, kTimes, kIn, inB, eM1, eM0, kJoin, kSplit, kUpper, sPut, sPar2, sPar3, eInT, eIxT, itU, newL, h0, hc, h, hn, c, q, hp, hp2, k1, k2, z1, z2]
  · simp [runP, runS, sSeq, sExpr, sRet, sRetN, sSet, sIf, sNil, sRaise, sBrk, sCnt, sFor, sAsg, sAug, eVar, eC, e2, e1, eChain, bOf, tAnd', tOr', tNot', eAnd, eOr, eNot, eIf, callP, callS, aCons, aNil, eTup, eLst, newL, eCall, tTru, truD, kInt, kIntC, S.put, gNm, gTup', gCons', gNil', itS, itL, itT, itR1, itR2, kIx, kSl, eSl, oNone, oSome, kLen, kAbs, kMax2, kMin2, kIntOf, kSorted, kAll, kAny, kTupOf, kLstOf, kIsi, eApp, kApp, eFrz, look, tYes', kNeg, kIs, kIsNot, wipeD, Res.bind, Res.bindS, pf_non, pf_bl, pf_int, pf_str, pf_tup, pf_lst, pf_scr, pfs_nil, pfs_cons, pfF, eqI, neI, eqS, neS, decide_eq_true_eq, kTimes, kIn, inB, eM1, eM0, kJoin, kSplit, kUpper, sPut, sPar2, sPar3, eInT, eIxT, itU, newL, h0, hc, h, hn, c, q]
end
end K57

set_option Elab.async false
set_option linter.all false
set_option maxRecDepth 100000
namespace K57
open PySem PyProof.Rows PySem.Spec L2 VL TL
noncomputable section
def askN (b : Str) : Option Nat := if b = "size" then some 0 else if b = "third" then some 2 else if b = "least" then some 0 else none
theorem ask_lookup (b : Str) : tb_ASKED.lookup b = (askN b).map fun n : Nat => He.Dv.int (n : Int) := by
  unfold tb_ASKED askN
  by_cases c1 : b = "size"
  · subst c1
    kernel_rfl
  · by_cases c2 : b = "third"
    · subst c2
      kernel_rfl
    · by_cases c3 : b = "least"
      · subst c3
        kernel_rfl
      · rw [if_neg c1, if_neg c2, if_neg c3, List.lookup_cons, beq_false_of_ne c1, List.lookup_cons, beq_false_of_ne c2, List.lookup_cons, beq_false_of_ne c3]
        rfl
def askM (t : List Str) : Option Nat → Bool
  | some n => decide (t.length = n) && numsB t
  | none => false
def askB (a b c : Str) (t : List Str) : Bool := isName a && (isName c && (if b = "closed" then numsB t else askM t (askN b)))
theorem at_1 (v w : Str) (r : List Str) : atI ((v :: w :: r).map D.str) 1 = some (.str w) := atI_nat (j := 1) rfl
theorem at_2 (u v w : Str) (r : List Str) : atI ((u :: v :: w :: r).map D.str) 2 = some (.str w) := atI_nat (j := 2) rfl
theorem cut_3 (u v w : Str) (r : List Str) : VL.cutD ((u :: v :: w :: r).map D.str) (some 3) none = r.map D.str := cut_from _ 3
theorem cons_ok {w : Str} {r : List Str} (h : Oks (w :: r)) : Ok w ∧ Oks r := ⟨h.1 w List.mem_cons_self, fun v m => h.1 v (List.mem_cons_of_mem _ m), by have := h.2; rw [List.length_cons] at this; omega⟩
theorem com_short {f : Str} {r : List Str} (hf : Ok f) (h : tb_FORMS.lookup f = none) (ht : f ≠ "take") (hr : f ≠ "ask" ∨ r.length < 3) : F_is_command [.lst ((f :: r).map D.str)] = .ok (.bl false) := by
  have h0 := at_0 f r
  have hc := cut_1 f r
  have q := fun s => eq_lit (y := "take") hf (by decide +kernel) s
  rw [decide_eq_false ht] at q
  have q3 := fun s => ne_lit (y := "ask") hf (by decide +kernel) s
  unfold F_is_command b_is_command
  generalize (f :: r).map D.str = l at h0 hc ⊢
  by_cases c : f = "ask"
  · have hn : ((r.length : Int) < 3) = True := eq_true (by have := hr.resolve_left (fun z => z c); omega)
    rw [decide_eq_true c] at q3
    simp [runP, runS, sSeq, sExpr, sRet, sRetN, sSet, sIf, sNil, sRaise, sBrk, sCnt, sFor, sAsg, sAug, eVar, eC, e2, e1, eChain, bOf, tAnd', tOr', tNot', eAnd, eOr, eNot, eIf, callP, callS, aCons, aNil, eTup, eLst, newL, eCall, tTru, truD, kInt, kIntC, S.put, gNm, gTup', gCons', gNil', itS, itL, itT, itR1, itR2, kIx, kSl, eSl, oNone, oSome, kLen, kAbs, kMax2, kMin2, kIntOf, kSorted, kAll, kAny, kTupOf, kLstOf, kIsi, eApp, kApp, eFrz, look, tYes', kNeg, kIs, kIsNot, wipeD, Res.bind, Res.bindS, pf_non, pf_bl, pf_int, pf_str, pf_tup, pf_lst, pf_scr, pfs_nil, pfs_cons, pfF, eqI, neI, eqS, neS, decide_eq_true_eq, kTimes, kIn, inB, eM1, eM0, kJoin, kSplit, kUpper, sPut, sPar2, sPar3, eInT, eIxT, itU, newL, h0, hc, h, q, q3, hn]
  · rw [decide_eq_false c] at q3
    simp [runP, runS, sSeq, sExpr, sRet, sRetN, sSet, sIf, sNil, sRaise, sBrk, sCnt, sFor, sAsg, sAug, eVar, eC, e2, e1, eChain, bOf, tAnd', tOr', tNot', eAnd, eOr, eNot, eIf, callP, callS, aCons, aNil, eTup, eLst, newL, eCall, tTru, truD, kInt, kIntC, S.put, gNm, gTup', gCons', gNil', itS, itL, itT, itR1, itR2, kIx, kSl, eSl, oNone, oSome, kLen, kAbs, kMax2, kMin2, kIntOf, kSorted, kAll, kAny, kTupOf, kLstOf, kIsi, eApp, kApp, eFrz, look, tYes', kNeg, kIs, kIsNot, wipeD, Res.bind, Res.bindS, pf_non, pf_bl, pf_int, pf_str, pf_tup, pf_lst, pf_scr, pfs_nil, pfs_cons, pfF, eqI, neI, eqS, neS, decide_eq_true_eq, kTimes, kIn, inB, eM1, eM0, kJoin, kSplit, kUpper, sPut, sPar2, sPar3, eInT, eIxT, itU, newL, h0, hc, h, q, q3]
theorem com_ask {f a b c : Str} {t : List Str} (hf : Ok f) (hr : Oks (a :: b :: c :: t)) (h : tb_FORMS.lookup f = none) (ht : f = "ask") : F_is_command [.lst ((f :: a :: b :: c :: t).map D.str)] = .ok (.bl (askB a b c t)) := by
  obtain ⟨oa, r1⟩ := cons_ok hr
  obtain ⟨ob, r2⟩ := cons_ok r1
  obtain ⟨oc, r3⟩ := cons_ok r2
  have h0 := at_0 f (a :: b :: c :: t)
  have hc := cut_1 f (a :: b :: c :: t)
  have h1 := at_0 a (b :: c :: t)
  have h2 := at_1 a b (c :: t)
  have h3 := at_2 a b c t
  have h4 := cut_3 a b c t
  have q := fun s => eq_lit (y := "take") hf (by decide +kernel) s
  rw [decide_eq_false (show f ≠ "take" by rw [ht]; decide +kernel)] at q
  have q3 := fun s => ne_lit (y := "ask") hf (by decide +kernel) s
  rw [decide_eq_true ht] at q3
  have q4 := fun s => eq_lit (y := "closed") ob (by decide +kernel) s
  have na := is_name_ok oa
  have nc := is_name_ok oc
  have nt := are_numbers_ok r3
  have hp : pfs (t.map D.str) = true := Oks.pf
  have hlen : ((a :: b :: c :: t).map D.str).length = t.length + 3 := by simp
  have ha := ask_lookup b
  unfold F_is_command b_is_command askB
  generalize (f :: a :: b :: c :: t).map D.str = l at h0 hc ⊢
  generalize (a :: b :: c :: t).map D.str = l2 at hc h1 h2 h3 h4 hlen ⊢
  have hn : ¬ ((t.length : Int) + 3 < 3) := by omega
  cases ia : isName a with
  | false =>
    rw [ia] at na
    simp [runP, runS, sSeq, sExpr, sRet, sRetN, sSet, sIf, sNil, sRaise, sBrk, sCnt, sFor, sAsg, sAug, eVar, eC, e2, e1, eChain, bOf, tAnd', tOr', tNot', eAnd, eOr, eNot, eIf, callP, callS, aCons, aNil, eTup, eLst, newL, eCall, tTru, truD, kInt, kIntC, S.put, gNm, gTup', gCons', gNil', itS, itL, itT, itR1, itR2, kIx, kSl, eSl, oNone, oSome, kLen, kAbs, kMax2, kMin2, kIntOf, kSorted, kAll, kAny, kTupOf, kLstOf, kIsi, eApp, kApp, eFrz, look, tYes', kNeg, kIs, kIsNot, wipeD, Res.bind, Res.bindS, pf_non, pf_bl, pf_int, pf_str, pf_tup, pf_lst, pf_scr, pfs_nil, pfs_cons, pfF, eqI, neI, eqS, neS, decide_eq_true_eq, kTimes, kIn, inB, eM1, eM0, kJoin, kSplit, kUpper, sPut, sPar2, sPar3, eInT, eIxT, itU, newL, h0, hc, h, q, q3, hlen, hn, h1, na]
  | true =>
    rw [ia] at na
    cases ic : isName c with
    | false =>
      rw [ic] at nc
      simp [runP, runS, sSeq, sExpr, sRet, sRetN, sSet, sIf, sNil, sRaise, sBrk, sCnt, sFor, sAsg, sAug, eVar, eC, e2, e1, eChain, bOf, tAnd', tOr', tNot', eAnd, eOr, eNot, eIf, callP, callS, aCons, aNil, eTup, eLst, newL, eCall, tTru, truD, kInt, kIntC, S.put, gNm, gTup', gCons', gNil', itS, itL, itT, itR1, itR2, kIx, kSl, eSl, oNone, oSome, kLen, kAbs, kMax2, kMin2, kIntOf, kSorted, kAll, kAny, kTupOf, kLstOf, kIsi, eApp, kApp, eFrz, look, tYes', kNeg, kIs, kIsNot, wipeD, Res.bind, Res.bindS, pf_non, pf_bl, pf_int, pf_str, pf_tup, pf_lst, pf_scr, pfs_nil, pfs_cons, pfF, eqI, neI, eqS, neS, decide_eq_true_eq, kTimes, kIn, inB, eM1, eM0, kJoin, kSplit, kUpper, sPut, sPar2, sPar3, eInT, eIxT, itU, newL, h0, hc, h, q, q3, hlen, hn, h1, na, h3, nc]
    | true =>
      rw [ic] at nc
      by_cases cb : b = "closed"
      · rw [decide_eq_true cb] at q4
        rw [if_pos cb]
        simp [runP, runS, sSeq, sExpr, sRet, sRetN, sSet, sIf, sNil, sRaise, sBrk, sCnt, sFor, sAsg, sAug, eVar, eC, e2, e1, eChain, bOf, tAnd', tOr', tNot', eAnd, eOr, eNot, eIf, callP, callS, aCons, aNil, eTup, eLst, newL, eCall, tTru, truD, kInt, kIntC, S.put, gNm, gTup', gCons', gNil', itS, itL, itT, itR1, itR2, kIx, kSl, eSl, oNone, oSome, kLen, kAbs, kMax2, kMin2, kIntOf, kSorted, kAll, kAny, kTupOf, kLstOf, kIsi, eApp, kApp, eFrz, look, tYes', kNeg, kIs, kIsNot, wipeD, Res.bind, Res.bindS, pf_non, pf_bl, pf_int, pf_str, pf_tup, pf_lst, pf_scr, pfs_nil, pfs_cons, pfF, eqI, neI, eqS, neS, decide_eq_true_eq, kTimes, kIn, inB, eM1, eM0, kJoin, kSplit, kUpper, sPut, sPar2, sPar3, eInT, eIxT, itU, newL, h0, hc, h, q, q3, hlen, hn, h1, na, h3, nc, h2, q4, h4, hp, nt]
      · rw [decide_eq_false cb] at q4
        rw [if_neg cb]
        cases an : askN b with
        | none =>
          rw [an] at ha
          dsimp only [askM]
          simp [runP, runS, sSeq, sExpr, sRet, sRetN, sSet, sIf, sNil, sRaise, sBrk, sCnt, sFor, sAsg, sAug, eVar, eC, e2, e1, eChain, bOf, tAnd', tOr', tNot', eAnd, eOr, eNot, eIf, callP, callS, aCons, aNil, eTup, eLst, newL, eCall, tTru, truD, kInt, kIntC, S.put, gNm, gTup', gCons', gNil', itS, itL, itT, itR1, itR2, kIx, kSl, eSl, oNone, oSome, kLen, kAbs, kMax2, kMin2, kIntOf, kSorted, kAll, kAny, kTupOf, kLstOf, kIsi, eApp, kApp, eFrz, look, tYes', kNeg, kIs, kIsNot, wipeD, Res.bind, Res.bindS, pf_non, pf_bl, pf_int, pf_str, pf_tup, pf_lst, pf_scr, pfs_nil, pfs_cons, pfF, eqI, neI, eqS, neS, decide_eq_true_eq, kTimes, kIn, inB, eM1, eM0, kJoin, kSplit, kUpper, sPut, sPar2, sPar3, eInT, eIxT, itU, newL, h0, hc, h, q, q3, hlen, hn, h1, na, h3, nc, h2, q4, h4, hp, nt, ha]
        | some n =>
          rw [an] at ha
          dsimp only [askM]
          by_cases cl : t.length = n
          · have hn2 : ((t.length : Int) + 3 = 3 + n) = True := eq_true (by omega)
            rw [decide_eq_true cl]
            simp [runP, runS, sSeq, sExpr, sRet, sRetN, sSet, sIf, sNil, sRaise, sBrk, sCnt, sFor, sAsg, sAug, eVar, eC, e2, e1, eChain, bOf, tAnd', tOr', tNot', eAnd, eOr, eNot, eIf, callP, callS, aCons, aNil, eTup, eLst, newL, eCall, tTru, truD, kInt, kIntC, S.put, gNm, gTup', gCons', gNil', itS, itL, itT, itR1, itR2, kIx, kSl, eSl, oNone, oSome, kLen, kAbs, kMax2, kMin2, kIntOf, kSorted, kAll, kAny, kTupOf, kLstOf, kIsi, eApp, kApp, eFrz, look, tYes', kNeg, kIs, kIsNot, wipeD, Res.bind, Res.bindS, pf_non, pf_bl, pf_int, pf_str, pf_tup, pf_lst, pf_scr, pfs_nil, pfs_cons, pfF, eqI, neI, eqS, neS, decide_eq_true_eq, kTimes, kIn, inB, eM1, eM0, kJoin, kSplit, kUpper, sPut, sPar2, sPar3, eInT, eIxT, itU, newL, h0, hc, h, q, q3, hlen, hn, h1, na, h3, nc, h2, q4, h4, hp, nt, ha, dvOk, dvD, plus_int, hn2]
          · have hn2 : ((t.length : Int) + 3 = 3 + n) = False := eq_false (by omega)
            rw [decide_eq_false cl]
            simp [runP, runS, sSeq, sExpr, sRet, sRetN, sSet, sIf, sNil, sRaise, sBrk, sCnt, sFor, sAsg, sAug, eVar, eC, e2, e1, eChain, bOf, tAnd', tOr', tNot', eAnd, eOr, eNot, eIf, callP, callS, aCons, aNil, eTup, eLst, newL, eCall, tTru, truD, kInt, kIntC, S.put, gNm, gTup', gCons', gNil', itS, itL, itT, itR1, itR2, kIx, kSl, eSl, oNone, oSome, kLen, kAbs, kMax2, kMin2, kIntOf, kSorted, kAll, kAny, kTupOf, kLstOf, kIsi, eApp, kApp, eFrz, look, tYes', kNeg, kIs, kIsNot, wipeD, Res.bind, Res.bindS, pf_non, pf_bl, pf_int, pf_str, pf_tup, pf_lst, pf_scr, pfs_nil, pfs_cons, pfF, eqI, neI, eqS, neS, decide_eq_true_eq, kTimes, kIn, inB, eM1, eM0, kJoin, kSplit, kUpper, sPut, sPar2, sPar3, eInT, eIxT, itU, newL, h0, hc, h, q, q3, hlen, hn, h1, na, h3, nc, h2, q4, h4, hp, nt, ha, dvOk, dvD, plus_int, hn2]
end
end K57

set_option Elab.async false
set_option linter.all false
set_option maxRecDepth 100000
namespace K57
open PySem PyProof.Rows PySem.Spec L2 VL TL
noncomputable section
def five1 : List Str := ["answers", "systems", "questions", "undo", "redo"]
def five2 : List Str := ["system", "remove", "drop", "answer", "print"]
theorem in1 {f : Str} (hf : Ok f) (s : S) : kIn false (.str f) (.tup [D.str "answers", D.str "systems", D.str "questions", D.str "undo", D.str "redo"]) s = .ok (.bl (decide (f ∈ five1))) s := by
  exact in_strs (n := false) (s := s) (ys := five1) hf.ok (by decide +kernel)
theorem in2 {f : Str} (hf : Ok f) (s : S) : kIn false (.str f) (.tup [D.str "system", D.str "remove", D.str "drop", D.str "answer", D.str "print"]) s = .ok (.bl (decide (f ∈ five2))) s := by
  exact in_strs (n := false) (s := s) (ys := five2) hf.ok (by decide +kernel)
theorem in3 {b : Str} (hb : Ok b) (m : Nat) (s : S) : kIn false (.tup [.str b, .int m]) (.tup [.tup [D.str "size", .int 3], .tup [D.str "least", .int 3], .tup [D.str "third", .int 5]]) s =
    .ok (.bl (decide ((b = "size" ∧ m = 3) ∨ (b = "least" ∧ m = 3) ∨ (b = "third" ∧ m = 5)))) s := by
  have p1 : plD 64 (.tup [.str b, .int m]) = true := by
    have := hb.ok
    simp [plD, this]
  have p2 : plD 64 (.tup [.tup [D.str "size", .int 3], .tup [D.str "least", .int 3], .tup [D.str "third", .int 5]]) = true := by decide +kernel
  have k : ∀ (z : Str) (n : Nat), PyData.strOk z = true → PyData.eqv (toPy (.tup [.str z, .int n])) (toPy (.tup [.str b, .int m])) = decide (b = z ∧ m = n) := fun z n hz => by
    have p3 : plD 64 (.tup [.str z, .int n]) = true := by simp [plD, hz]
    have := pl_eq 64 _ _ p3 p1
    by_cases c : b = z ∧ m = n
    · rw [decide_eq_true c, this, c.1, c.2]
    · rw [decide_eq_false c, eqv_not p3 p1 ?_]
      intro e
      simp at e
      exact c ⟨e.1.symm, by omega⟩
  have k1 := k "size" 3 (by decide +kernel)
  have k2 := k "least" 3 (by decide +kernel)
  have k3 := k "third" 5 (by decide +kernel)
  simp only [Int.ofNat_eq_natCast, Int.cast_ofNat_Int] at k1 k2 k3
  simp only [kIn, look, okEq_pl p1, okEq_pl p2, Bool.and_self, if_true, inB, List.any_cons, List.any_nil, k1, k2, k3, Bool.false_eq_true, if_false, Bool.or_false]
  rw [← Bool.decide_or, ← Bool.decide_or]
/-- the law's own answer, by what the first word is -/
theorem law_com_1 {f : Str} {r : List Str} (hf : Ok f) (h : f ∈ five1) : F__law_command [.lst ((f :: r).map D.str)] = .ok (.bl (decide (r.length = 0))) := by
  have h0 := at_0 f r
  have hc := cut_1 f r
  have i1 := in1 hf
  rw [decide_eq_true h] at i1
  unfold F__law_command b__law_command
  cases r with
  | nil =>
    generalize [f].map D.str = l at h0 hc ⊢
    simp [runP, runS, sSeq, sExpr, sRet, sRetN, sSet, sIf, sNil, sRaise, sBrk, sCnt, sFor, sAsg, sAug, eVar, eC, e2, e1, eChain, bOf, tAnd', tOr', tNot', eAnd, eOr, eNot, eIf, callP, callS, aCons, aNil, eTup, eLst, newL, eCall, tTru, truD, kInt, kIntC, S.put, gNm, gTup', gCons', gNil', itS, itL, itT, itR1, itR2, kIx, kSl, eSl, oNone, oSome, kLen, kAbs, kMax2, kMin2, kIntOf, kSorted, kAll, kAny, kTupOf, kLstOf, kIsi, eApp, kApp, eFrz, look, tYes', kNeg, kIs, kIsNot, wipeD, Res.bind, Res.bindS, pf_non, pf_bl, pf_int, pf_str, pf_tup, pf_lst, pf_scr, pfs_nil, pfs_cons, pfF, eqI, neI, eqS, neS, decide_eq_true_eq, kTimes, eM1, eM0, kJoin, kSplit, kUpper, sPut, sPar2, sPar3, eInT, eIxT, itU, newL, sizeLine_eq, h0, hc, i1]
  | cons v r =>
    have hl : ((v :: r).map D.str).length = r.length + 1 := by simp
    have hz : ¬ ((r.length : Int) + 1 = 0) := by omega
    generalize (f :: v :: r).map D.str = l at h0 hc ⊢
    generalize (v :: r).map D.str = l2 at hc hl ⊢
    simp [runP, runS, sSeq, sExpr, sRet, sRetN, sSet, sIf, sNil, sRaise, sBrk, sCnt, sFor, sAsg, sAug, eVar, eC, e2, e1, eChain, bOf, tAnd', tOr', tNot', eAnd, eOr, eNot, eIf, callP, callS, aCons, aNil, eTup, eLst, newL, eCall, tTru, truD, kInt, kIntC, S.put, gNm, gTup', gCons', gNil', itS, itL, itT, itR1, itR2, kIx, kSl, eSl, oNone, oSome, kLen, kAbs, kMax2, kMin2, kIntOf, kSorted, kAll, kAny, kTupOf, kLstOf, kIsi, eApp, kApp, eFrz, look, tYes', kNeg, kIs, kIsNot, wipeD, Res.bind, Res.bindS, pf_non, pf_bl, pf_int, pf_str, pf_tup, pf_lst, pf_scr, pfs_nil, pfs_cons, pfF, eqI, neI, eqS, neS, decide_eq_true_eq, kTimes, eM1, eM0, kJoin, kSplit, kUpper, sPut, sPar2, sPar3, eInT, eIxT, itU, newL, sizeLine_eq, h0, hc, i1, hl, hz]
theorem law_com_2 {f : Str} {r : List Str} (hf : Ok f) (hr : Oks r) (h1 : f ∉ five1) (h : f ∈ five2) : F__law_command [.lst ((f :: r).map D.str)] = .ok (.bl (decide (r.length = 1) && r.all isName)) := by
  have h0 := at_0 f r
  have hc := cut_1 f r
  have i1 := in1 hf
  have i2 := in2 hf
  rw [decide_eq_false h1] at i1
  rw [decide_eq_true h] at i2
  unfold F__law_command b__law_command
  match r, hr with
  | [], _ =>
    generalize [f].map D.str = l at h0 hc ⊢
    simp [runP, runS, sSeq, sExpr, sRet, sRetN, sSet, sIf, sNil, sRaise, sBrk, sCnt, sFor, sAsg, sAug, eVar, eC, e2, e1, eChain, bOf, tAnd', tOr', tNot', eAnd, eOr, eNot, eIf, callP, callS, aCons, aNil, eTup, eLst, newL, eCall, tTru, truD, kInt, kIntC, S.put, gNm, gTup', gCons', gNil', itS, itL, itT, itR1, itR2, kIx, kSl, eSl, oNone, oSome, kLen, kAbs, kMax2, kMin2, kIntOf, kSorted, kAll, kAny, kTupOf, kLstOf, kIsi, eApp, kApp, eFrz, look, tYes', kNeg, kIs, kIsNot, wipeD, Res.bind, Res.bindS, pf_non, pf_bl, pf_int, pf_str, pf_tup, pf_lst, pf_scr, pfs_nil, pfs_cons, pfF, eqI, neI, eqS, neS, decide_eq_true_eq, kTimes, eM1, eM0, kJoin, kSplit, kUpper, sPut, sPar2, sPar3, eInT, eIxT, itU, newL, sizeLine_eq, h0, hc, i1, i2]
  | [v], hr =>
    have hv := law_is_name_ok (cons_ok hr).1
    have hx := at_0 v []
    generalize [f, v].map D.str = l at h0 hc ⊢
    have hl : ([v].map D.str).length = 1 := rfl
    generalize [v].map D.str = l2 at hc hl hx ⊢
    simp [runP, runS, sSeq, sExpr, sRet, sRetN, sSet, sIf, sNil, sRaise, sBrk, sCnt, sFor, sAsg, sAug, eVar, eC, e2, e1, eChain, bOf, tAnd', tOr', tNot', eAnd, eOr, eNot, eIf, callP, callS, aCons, aNil, eTup, eLst, newL, eCall, tTru, truD, kInt, kIntC, S.put, gNm, gTup', gCons', gNil', itS, itL, itT, itR1, itR2, kIx, kSl, eSl, oNone, oSome, kLen, kAbs, kMax2, kMin2, kIntOf, kSorted, kAll, kAny, kTupOf, kLstOf, kIsi, eApp, kApp, eFrz, look, tYes', kNeg, kIs, kIsNot, wipeD, Res.bind, Res.bindS, pf_non, pf_bl, pf_int, pf_str, pf_tup, pf_lst, pf_scr, pfs_nil, pfs_cons, pfF, eqI, neI, eqS, neS, decide_eq_true_eq, kTimes, eM1, eM0, kJoin, kSplit, kUpper, sPut, sPar2, sPar3, eInT, eIxT, itU, newL, sizeLine_eq, h0, hc, i1, i2, hl, hx, hv]
  | v :: u :: r, _ =>
    have hl : ((v :: u :: r).map D.str).length = r.length + 1 + 1 := by simp
    have hz : ¬ ((r.length : Int) + 1 + 1 = 1) := by omega
    generalize (f :: v :: u :: r).map D.str = l at h0 hc ⊢
    generalize (v :: u :: r).map D.str = l2 at hc hl ⊢
    simp [runP, runS, sSeq, sExpr, sRet, sRetN, sSet, sIf, sNil, sRaise, sBrk, sCnt, sFor, sAsg, sAug, eVar, eC, e2, e1, eChain, bOf, tAnd', tOr', tNot', eAnd, eOr, eNot, eIf, callP, callS, aCons, aNil, eTup, eLst, newL, eCall, tTru, truD, kInt, kIntC, S.put, gNm, gTup', gCons', gNil', itS, itL, itT, itR1, itR2, kIx, kSl, eSl, oNone, oSome, kLen, kAbs, kMax2, kMin2, kIntOf, kSorted, kAll, kAny, kTupOf, kLstOf, kIsi, eApp, kApp, eFrz, look, tYes', kNeg, kIs, kIsNot, wipeD, Res.bind, Res.bindS, pf_non, pf_bl, pf_int, pf_str, pf_tup, pf_lst, pf_scr, pfs_nil, pfs_cons, pfF, eqI, neI, eqS, neS, decide_eq_true_eq, kTimes, eM1, eM0, kJoin, kSplit, kUpper, sPut, sPar2, sPar3, eInT, eIxT, itU, newL, sizeLine_eq, h0, hc, i1, i2, hl, hz]
theorem law_com_3 {f : Str} {r : List Str} (hf : Ok f) (hr : Oks r) (h1 : f ∉ five1) (h2 : f ∉ five2) {n : Nat} (h : (f = "double" ∧ n = 2) ∨ (f = "product" ∧ n = 3)) : F__law_command [.lst ((f :: r).map D.str)] = .ok (.bl (decide (r.length = n) && r.all isName)) := by
  have h0 := at_0 f r
  have hc := cut_1 f r
  have i1 := in1 hf
  have i2 := in2 hf
  rw [decide_eq_false h1] at i1
  rw [decide_eq_false h2] at i2
  have q1 := fun s => eq_lit (y := "double") hf (by decide +kernel) s
  have q2 := fun s => eq_lit (y := "product") hf (by decide +kernel) s
  have e := law_all_names_ok hr
  have hp : pfs (r.map D.str) = true := Oks.pf
  have hl : (r.map D.str).length = r.length := by simp
  unfold F__law_command b__law_command
  generalize (f :: r).map D.str = l at h0 hc ⊢
  generalize r.map D.str = l2 at hc hl e hp ⊢
  rcases h with ⟨h, rfl⟩ | ⟨h, rfl⟩
  · rw [decide_eq_true h] at q1
    by_cases c : r.length = 2
    · have hz : ((r.length : Int) = 2) = True := eq_true (by omega)
      rw [decide_eq_true c]
      simp [runP, runS, sSeq, sExpr, sRet, sRetN, sSet, sIf, sNil, sRaise, sBrk, sCnt, sFor, sAsg, sAug, eVar, eC, e2, e1, eChain, bOf, tAnd', tOr', tNot', eAnd, eOr, eNot, eIf, callP, callS, aCons, aNil, eTup, eLst, newL, eCall, tTru, truD, kInt, kIntC, S.put, gNm, gTup', gCons', gNil', itS, itL, itT, itR1, itR2, kIx, kSl, eSl, oNone, oSome, kLen, kAbs, kMax2, kMin2, kIntOf, kSorted, kAll, kAny, kTupOf, kLstOf, kIsi, eApp, kApp, eFrz, look, tYes', kNeg, kIs, kIsNot, wipeD, Res.bind, Res.bindS, pf_non, pf_bl, pf_int, pf_str, pf_tup, pf_lst, pf_scr, pfs_nil, pfs_cons, pfF, eqI, neI, eqS, neS, decide_eq_true_eq, kTimes, eM1, eM0, kJoin, kSplit, kUpper, sPut, sPar2, sPar3, eInT, eIxT, itU, newL, sizeLine_eq, h0, hc, i1, i2, q1, hl, hz, e, hp]
    · have hz : ((r.length : Int) = 2) = False := eq_false (by omega)
      rw [decide_eq_false c]
      simp [runP, runS, sSeq, sExpr, sRet, sRetN, sSet, sIf, sNil, sRaise, sBrk, sCnt, sFor, sAsg, sAug, eVar, eC, e2, e1, eChain, bOf, tAnd', tOr', tNot', eAnd, eOr, eNot, eIf, callP, callS, aCons, aNil, eTup, eLst, newL, eCall, tTru, truD, kInt, kIntC, S.put, gNm, gTup', gCons', gNil', itS, itL, itT, itR1, itR2, kIx, kSl, eSl, oNone, oSome, kLen, kAbs, kMax2, kMin2, kIntOf, kSorted, kAll, kAny, kTupOf, kLstOf, kIsi, eApp, kApp, eFrz, look, tYes', kNeg, kIs, kIsNot, wipeD, Res.bind, Res.bindS, pf_non, pf_bl, pf_int, pf_str, pf_tup, pf_lst, pf_scr, pfs_nil, pfs_cons, pfF, eqI, neI, eqS, neS, decide_eq_true_eq, kTimes, eM1, eM0, kJoin, kSplit, kUpper, sPut, sPar2, sPar3, eInT, eIxT, itU, newL, sizeLine_eq, h0, hc, i1, i2, q1, hl, hz]
  · rw [decide_eq_false (show f ≠ "double" by rw [h]; decide +kernel)] at q1
    rw [decide_eq_true h] at q2
    by_cases c : r.length = 3
    · have hz : ((r.length : Int) = 3) = True := eq_true (by omega)
      rw [decide_eq_true c]
      simp [runP, runS, sSeq, sExpr, sRet, sRetN, sSet, sIf, sNil, sRaise, sBrk, sCnt, sFor, sAsg, sAug, eVar, eC, e2, e1, eChain, bOf, tAnd', tOr', tNot', eAnd, eOr, eNot, eIf, callP, callS, aCons, aNil, eTup, eLst, newL, eCall, tTru, truD, kInt, kIntC, S.put, gNm, gTup', gCons', gNil', itS, itL, itT, itR1, itR2, kIx, kSl, eSl, oNone, oSome, kLen, kAbs, kMax2, kMin2, kIntOf, kSorted, kAll, kAny, kTupOf, kLstOf, kIsi, eApp, kApp, eFrz, look, tYes', kNeg, kIs, kIsNot, wipeD, Res.bind, Res.bindS, pf_non, pf_bl, pf_int, pf_str, pf_tup, pf_lst, pf_scr, pfs_nil, pfs_cons, pfF, eqI, neI, eqS, neS, decide_eq_true_eq, kTimes, eM1, eM0, kJoin, kSplit, kUpper, sPut, sPar2, sPar3, eInT, eIxT, itU, newL, sizeLine_eq, h0, hc, i1, i2, q1, q2, hl, hz, e, hp]
    · have hz : ((r.length : Int) = 3) = False := eq_false (by omega)
      rw [decide_eq_false c]
      simp [runP, runS, sSeq, sExpr, sRet, sRetN, sSet, sIf, sNil, sRaise, sBrk, sCnt, sFor, sAsg, sAug, eVar, eC, e2, e1, eChain, bOf, tAnd', tOr', tNot', eAnd, eOr, eNot, eIf, callP, callS, aCons, aNil, eTup, eLst, newL, eCall, tTru, truD, kInt, kIntC, S.put, gNm, gTup', gCons', gNil', itS, itL, itT, itR1, itR2, kIx, kSl, eSl, oNone, oSome, kLen, kAbs, kMax2, kMin2, kIntOf, kSorted, kAll, kAny, kTupOf, kLstOf, kIsi, eApp, kApp, eFrz, look, tYes', kNeg, kIs, kIsNot, wipeD, Res.bind, Res.bindS, pf_non, pf_bl, pf_int, pf_str, pf_tup, pf_lst, pf_scr, pfs_nil, pfs_cons, pfF, eqI, neI, eqS, neS, decide_eq_true_eq, kTimes, eM1, eM0, kJoin, kSplit, kUpper, sPut, sPar2, sPar3, eInT, eIxT, itU, newL, sizeLine_eq, h0, hc, i1, i2, q1, q2, hl, hz]
theorem law_com_take {f : Str} {r : List Str} (hf : Ok f) (hr : Oks r) (h1 : f ∉ five1) (h2 : f ∉ five2) (ht : f = "take") : F__law_command [.lst ((f :: r).map D.str)] = .ok (.bl (takeB r)) := by
  have z1 := law_all_names_ok (hr.take 2)
  have z2 := law_all_numbers_ok (hr.drop 2)
  have h0 := at_0 f r
  have hc := cut_1 f r
  have i1 := in1 hf
  have i2 := in2 hf
  rw [decide_eq_false h1] at i1
  rw [decide_eq_false h2] at i2
  have q1 := fun s => eq_lit (y := "double") hf (by decide +kernel) s
  have q2 := fun s => eq_lit (y := "product") hf (by decide +kernel) s
  have q3 := fun s => eq_lit (y := "take") hf (by decide +kernel) s
  rw [decide_eq_false (show f ≠ "double" by rw [ht]; decide +kernel)] at q1
  rw [decide_eq_false (show f ≠ "product" by rw [ht]; decide +kernel)] at q2
  rw [decide_eq_true ht] at q3
  have hn : ((2 : Int) < r.length) = (2 < r.length) := propext (by omega)
  have hp : pfs ((r.take 2).map D.str) = true := Oks.pf
  have hp2 : pfs ((r.drop 2).map D.str) = true := Oks.pf
  have k1 := cut_to2 r 2
  have k2 := cut_from2 r 2
  unfold F__law_command b__law_command takeB
  generalize (f :: r).map D.str = l at h0 hc ⊢
  simp only [Int.ofNat_eq_natCast, Int.cast_ofNat_Int] at k1 k2
  by_cases c : 2 < r.length
  · cases c2 : (r.take 2).all isName <;> rw [c2] at z1 <;> simp only [List.map_take, List.map_drop] at hp hp2 k1 k2 z1 z2 <;> simp [runP, runS, sSeq, sExpr, sRet, sRetN, sSet, sIf, sNil, sRaise, sBrk, sCnt, sFor, sAsg, sAug, eVar, eC, e2, e1, eChain, bOf, tAnd', tOr', tNot', eAnd, eOr, eNot, eIf, callP, callS, aCons, aNil, eTup, eLst, newL, eCall, tTru, truD, kInt, kIntC, S.put, gNm, gTup', gCons', gNil', itS, itL, itT, itR1, itR2, kIx, kSl, eSl, oNone, oSome, kLen, kAbs, kMax2, kMin2, kIntOf, kSorted, kAll, kAny, kTupOf, kLstOf, kIsi, eApp, kApp, eFrz, look, tYes', kNeg, kIs, kIsNot, wipeD, Res.bind, Res.bindS, pf_non, pf_bl, pf_int, pf_str, pf_tup, pf_lst, pf_scr, pfs_nil, pfs_cons, pfF, eqI, neI, eqS, neS, decide_eq_true_eq, kTimes, eM1, eM0, kJoin, kSplit, kUpper, sPut, sPar2, sPar3, eInT, eIxT, itU, newL, sizeLine_eq, h0, hc, i1, i2, q1, q2, q3, hn, c, hp, hp2, k1, k2, z1, z2]
  · simp [runP, runS, sSeq, sExpr, sRet, sRetN, sSet, sIf, sNil, sRaise, sBrk, sCnt, sFor, sAsg, sAug, eVar, eC, e2, e1, eChain, bOf, tAnd', tOr', tNot', eAnd, eOr, eNot, eIf, callP, callS, aCons, aNil, eTup, eLst, newL, eCall, tTru, truD, kInt, kIntC, S.put, gNm, gTup', gCons', gNil', itS, itL, itT, itR1, itR2, kIx, kSl, eSl, oNone, oSome, kLen, kAbs, kMax2, kMin2, kIntOf, kSorted, kAll, kAny, kTupOf, kLstOf, kIsi, eApp, kApp, eFrz, look, tYes', kNeg, kIs, kIsNot, wipeD, Res.bind, Res.bindS, pf_non, pf_bl, pf_int, pf_str, pf_tup, pf_lst, pf_scr, pfs_nil, pfs_cons, pfF, eqI, neI, eqS, neS, decide_eq_true_eq, kTimes, eM1, eM0, kJoin, kSplit, kUpper, sPut, sPar2, sPar3, eInT, eIxT, itU, newL, sizeLine_eq, h0, hc, i1, i2, q1, q2, q3, hn, c]
end
end K57

set_option Elab.async false
set_option linter.all false
set_option maxRecDepth 100000
namespace K57
open PySem PyProof.Rows PySem.Spec L2 VL TL
noncomputable section
structure Other (f : Str) : Prop where
  n1 : f ∉ five1
  n2 : f ∉ five2
  n3 : f ≠ "double"
  n4 : f ≠ "product"
  n5 : f ≠ "take"
theorem law_com_short {f : Str} {r : List Str} (hf : Ok f) (o : Other f) (hr : f ≠ "ask" ∨ r.length < 3) : F__law_command [.lst ((f :: r).map D.str)] = .ok (.bl false) := by
  have h0 := at_0 f r
  have hc := cut_1 f r
  have i1 := in1 hf
  have i2 := in2 hf
  rw [decide_eq_false o.n1] at i1
  rw [decide_eq_false o.n2] at i2
  have q1 := fun s => eq_lit (y := "double") hf (by decide +kernel) s
  have q2 := fun s => eq_lit (y := "product") hf (by decide +kernel) s
  have q3 := fun s => eq_lit (y := "take") hf (by decide +kernel) s
  have q4 := fun s => ne_lit (y := "ask") hf (by decide +kernel) s
  rw [decide_eq_false o.n3] at q1
  rw [decide_eq_false o.n4] at q2
  rw [decide_eq_false o.n5] at q3
  unfold F__law_command b__law_command
  generalize (f :: r).map D.str = l at h0 hc ⊢
  by_cases c : f = "ask"
  · have hn : ((r.length : Int) < 3) = True := eq_true (by have := hr.resolve_left (fun z => z c); omega)
    rw [decide_eq_true c] at q4
    simp [runP, runS, sSeq, sExpr, sRet, sRetN, sSet, sIf, sNil, sRaise, sBrk, sCnt, sFor, sAsg, sAug, eVar, eC, e2, e1, eChain, bOf, tAnd', tOr', tNot', eAnd, eOr, eNot, eIf, callP, callS, aCons, aNil, eTup, eLst, newL, eCall, tTru, truD, kInt, kIntC, S.put, gNm, gTup', gCons', gNil', itS, itL, itT, itR1, itR2, kIx, kSl, eSl, oNone, oSome, kLen, kAbs, kMax2, kMin2, kIntOf, kSorted, kAll, kAny, kTupOf, kLstOf, kIsi, eApp, kApp, eFrz, look, tYes', kNeg, kIs, kIsNot, wipeD, Res.bind, Res.bindS, pf_non, pf_bl, pf_int, pf_str, pf_tup, pf_lst, pf_scr, pfs_nil, pfs_cons, pfF, eqI, neI, eqS, neS, decide_eq_true_eq, kTimes, eM1, eM0, kJoin, kSplit, kUpper, sPut, sPar2, sPar3, eInT, eIxT, itU, newL, sizeLine_eq, h0, hc, i1, i2, q1, q2, q3, q4, hn]
  · rw [decide_eq_false c] at q4
    simp [runP, runS, sSeq, sExpr, sRet, sRetN, sSet, sIf, sNil, sRaise, sBrk, sCnt, sFor, sAsg, sAug, eVar, eC, e2, e1, eChain, bOf, tAnd', tOr', tNot', eAnd, eOr, eNot, eIf, callP, callS, aCons, aNil, eTup, eLst, newL, eCall, tTru, truD, kInt, kIntC, S.put, gNm, gTup', gCons', gNil', itS, itL, itT, itR1, itR2, kIx, kSl, eSl, oNone, oSome, kLen, kAbs, kMax2, kMin2, kIntOf, kSorted, kAll, kAny, kTupOf, kLstOf, kIsi, eApp, kApp, eFrz, look, tYes', kNeg, kIs, kIsNot, wipeD, Res.bind, Res.bindS, pf_non, pf_bl, pf_int, pf_str, pf_tup, pf_lst, pf_scr, pfs_nil, pfs_cons, pfF, eqI, neI, eqS, neS, decide_eq_true_eq, kTimes, eM1, eM0, kJoin, kSplit, kUpper, sPut, sPar2, sPar3, eInT, eIxT, itU, newL, sizeLine_eq, h0, hc, i1, i2, q1, q2, q3, q4]
theorem law_com_ask {f a b c : Str} {t : List Str} (hf : Ok f) (hr : Oks (a :: b :: c :: t)) (o : Other f) (ht : f = "ask") : F__law_command [.lst ((f :: a :: b :: c :: t).map D.str)] = .ok (.bl (askB a b c t)) := by
  obtain ⟨oa, r1⟩ := cons_ok hr
  obtain ⟨ob, r2⟩ := cons_ok r1
  obtain ⟨oc, r3⟩ := cons_ok r2
  have h0 := at_0 f (a :: b :: c :: t)
  have hc := cut_1 f (a :: b :: c :: t)
  have h1 := at_0 a (b :: c :: t)
  have h2 := at_1 a b (c :: t)
  have h3 := at_2 a b c t
  have h4 := cut_3 a b c t
  have i1 := in1 hf
  have i2 := in2 hf
  rw [decide_eq_false o.n1] at i1
  rw [decide_eq_false o.n2] at i2
  have q1 := fun s => eq_lit (y := "double") hf (by decide +kernel) s
  have q2 := fun s => eq_lit (y := "product") hf (by decide +kernel) s
  have q3 := fun s => eq_lit (y := "take") hf (by decide +kernel) s
  have q4 := fun s => ne_lit (y := "ask") hf (by decide +kernel) s
  rw [decide_eq_false o.n3] at q1
  rw [decide_eq_false o.n4] at q2
  rw [decide_eq_false o.n5] at q3
  rw [decide_eq_true ht] at q4
  have q5 := fun s => eq_lit (y := "closed") ob (by decide +kernel) s
  have na := law_is_name_ok oa
  have nc := law_is_name_ok oc
  have nt := law_all_numbers_ok r3
  have hp : pfs (t.map D.str) = true := Oks.pf
  have hlen : ((a :: b :: c :: t).map D.str).length = t.length + 3 := by simp
  have i3 := in3 ob (t.length + 3)
  have hcast : ((t.length + 3 : Nat) : Int) = (t.length : Int) + 3 := by omega
  rw [hcast] at i3
  unfold F__law_command b__law_command askB
  generalize (f :: a :: b :: c :: t).map D.str = l at h0 hc ⊢
  generalize (a :: b :: c :: t).map D.str = l2 at hc h1 h2 h3 h4 hlen ⊢
  have hn : ¬ ((t.length : Int) + 3 < 3) := by omega
  cases ia : isName a with
  | false =>
    rw [ia] at na
    simp [runP, runS, sSeq, sExpr, sRet, sRetN, sSet, sIf, sNil, sRaise, sBrk, sCnt, sFor, sAsg, sAug, eVar, eC, e2, e1, eChain, bOf, tAnd', tOr', tNot', eAnd, eOr, eNot, eIf, callP, callS, aCons, aNil, eTup, eLst, newL, eCall, tTru, truD, kInt, kIntC, S.put, gNm, gTup', gCons', gNil', itS, itL, itT, itR1, itR2, kIx, kSl, eSl, oNone, oSome, kLen, kAbs, kMax2, kMin2, kIntOf, kSorted, kAll, kAny, kTupOf, kLstOf, kIsi, eApp, kApp, eFrz, look, tYes', kNeg, kIs, kIsNot, wipeD, Res.bind, Res.bindS, pf_non, pf_bl, pf_int, pf_str, pf_tup, pf_lst, pf_scr, pfs_nil, pfs_cons, pfF, eqI, neI, eqS, neS, decide_eq_true_eq, kTimes, eM1, eM0, kJoin, kSplit, kUpper, sPut, sPar2, sPar3, eInT, eIxT, itU, newL, sizeLine_eq, h0, hc, i1, i2, q1, q2, q3, q4, hlen, hn, h1, na]
  | true =>
    rw [ia] at na
    cases ic : isName c with
    | false =>
      rw [ic] at nc
      simp [runP, runS, sSeq, sExpr, sRet, sRetN, sSet, sIf, sNil, sRaise, sBrk, sCnt, sFor, sAsg, sAug, eVar, eC, e2, e1, eChain, bOf, tAnd', tOr', tNot', eAnd, eOr, eNot, eIf, callP, callS, aCons, aNil, eTup, eLst, newL, eCall, tTru, truD, kInt, kIntC, S.put, gNm, gTup', gCons', gNil', itS, itL, itT, itR1, itR2, kIx, kSl, eSl, oNone, oSome, kLen, kAbs, kMax2, kMin2, kIntOf, kSorted, kAll, kAny, kTupOf, kLstOf, kIsi, eApp, kApp, eFrz, look, tYes', kNeg, kIs, kIsNot, wipeD, Res.bind, Res.bindS, pf_non, pf_bl, pf_int, pf_str, pf_tup, pf_lst, pf_scr, pfs_nil, pfs_cons, pfF, eqI, neI, eqS, neS, decide_eq_true_eq, kTimes, eM1, eM0, kJoin, kSplit, kUpper, sPut, sPar2, sPar3, eInT, eIxT, itU, newL, sizeLine_eq, h0, hc, i1, i2, q1, q2, q3, q4, hlen, hn, h1, na, h3, nc]
    | true =>
      rw [ic] at nc
      cases it : numsB t with
      | false =>
        rw [it] at nt
        have : (if b = "closed" then false else askM t (askN b)) = false := by
          split
          · rfl
          · cases askN b with
            | none => rfl
            | some n => rw [askM, it, Bool.and_false]
        rw [this]
        simp [runP, runS, sSeq, sExpr, sRet, sRetN, sSet, sIf, sNil, sRaise, sBrk, sCnt, sFor, sAsg, sAug, eVar, eC, e2, e1, eChain, bOf, tAnd', tOr', tNot', eAnd, eOr, eNot, eIf, callP, callS, aCons, aNil, eTup, eLst, newL, eCall, tTru, truD, kInt, kIntC, S.put, gNm, gTup', gCons', gNil', itS, itL, itT, itR1, itR2, kIx, kSl, eSl, oNone, oSome, kLen, kAbs, kMax2, kMin2, kIntOf, kSorted, kAll, kAny, kTupOf, kLstOf, kIsi, eApp, kApp, eFrz, look, tYes', kNeg, kIs, kIsNot, wipeD, Res.bind, Res.bindS, pf_non, pf_bl, pf_int, pf_str, pf_tup, pf_lst, pf_scr, pfs_nil, pfs_cons, pfF, eqI, neI, eqS, neS, decide_eq_true_eq, kTimes, eM1, eM0, kJoin, kSplit, kUpper, sPut, sPar2, sPar3, eInT, eIxT, itU, newL, sizeLine_eq, h0, hc, i1, i2, q1, q2, q3, q4, hlen, hn, h1, na, h3, nc, h4, hp, nt]
      | true =>
        rw [it] at nt
        by_cases cb : b = "closed"
        · rw [decide_eq_true cb] at q5
          rw [if_pos cb]
          simp [runP, runS, sSeq, sExpr, sRet, sRetN, sSet, sIf, sNil, sRaise, sBrk, sCnt, sFor, sAsg, sAug, eVar, eC, e2, e1, eChain, bOf, tAnd', tOr', tNot', eAnd, eOr, eNot, eIf, callP, callS, aCons, aNil, eTup, eLst, newL, eCall, tTru, truD, kInt, kIntC, S.put, gNm, gTup', gCons', gNil', itS, itL, itT, itR1, itR2, kIx, kSl, eSl, oNone, oSome, kLen, kAbs, kMax2, kMin2, kIntOf, kSorted, kAll, kAny, kTupOf, kLstOf, kIsi, eApp, kApp, eFrz, look, tYes', kNeg, kIs, kIsNot, wipeD, Res.bind, Res.bindS, pf_non, pf_bl, pf_int, pf_str, pf_tup, pf_lst, pf_scr, pfs_nil, pfs_cons, pfF, eqI, neI, eqS, neS, decide_eq_true_eq, kTimes, eM1, eM0, kJoin, kSplit, kUpper, sPut, sPar2, sPar3, eInT, eIxT, itU, newL, sizeLine_eq, h0, hc, i1, i2, q1, q2, q3, q4, q5, hlen, hn, h1, na, h3, nc, h2, h4, hp, nt]
        · rw [decide_eq_false cb] at q5
          rw [if_neg cb]
          have e : askM t (askN b) = decide ((b = "size" ∧ t.length + 3 = 3) ∨ (b = "least" ∧ t.length + 3 = 3) ∨ (b = "third" ∧ t.length + 3 = 5)) := by
            unfold askN
            have am : ∀ n, askM t (some n) = decide (t.length = n) := fun n => by rw [askM, it, Bool.and_true]
            have ne1 : ("size" : Str) ≠ "third" := by decide +kernel
            have ne2 : ("size" : Str) ≠ "least" := by decide +kernel
            have ne3 : ("third" : Str) ≠ "least" := by decide +kernel
            by_cases c1 : b = "size"
            · rw [if_pos c1]
              simp [c1, ne1, ne2, am]
            · by_cases c2 : b = "third"
              · rw [if_neg c1, if_pos c2]
                simp [c2, ne1.symm, ne3, am]
              · by_cases c3 : b = "least"
                · rw [if_neg c1, if_neg c2, if_pos c3]
                  simp [c3, ne2.symm, ne3.symm, am]
                · rw [if_neg c1, if_neg c2, if_neg c3]
                  simp [c1, c2, c3, askM]
          rw [e]
          generalize decide ((b = "size" ∧ t.length + 3 = 3) ∨ (b = "least" ∧ t.length + 3 = 3) ∨ (b = "third" ∧ t.length + 3 = 5)) = z at i3 ⊢
          simp [runP, runS, sSeq, sExpr, sRet, sRetN, sSet, sIf, sNil, sRaise, sBrk, sCnt, sFor, sAsg, sAug, eVar, eC, e2, e1, eChain, bOf, tAnd', tOr', tNot', eAnd, eOr, eNot, eIf, callP, callS, aCons, aNil, eTup, eLst, newL, eCall, tTru, truD, kInt, kIntC, S.put, gNm, gTup', gCons', gNil', itS, itL, itT, itR1, itR2, kIx, kSl, eSl, oNone, oSome, kLen, kAbs, kMax2, kMin2, kIntOf, kSorted, kAll, kAny, kTupOf, kLstOf, kIsi, eApp, kApp, eFrz, look, tYes', kNeg, kIs, kIsNot, wipeD, Res.bind, Res.bindS, pf_non, pf_bl, pf_int, pf_str, pf_tup, pf_lst, pf_scr, pfs_nil, pfs_cons, pfF, eqI, neI, eqS, neS, decide_eq_true_eq, kTimes, eM1, eM0, kJoin, kSplit, kUpper, sPut, sPar2, sPar3, eInT, eIxT, itU, newL, sizeLine_eq, h0, hc, i1, i2, q1, q2, q3, q4, q5, hlen, hn, h1, na, h3, nc, h2, h4, hp, nt, i3]
/-! ### both answer alike -/
theorem look1 : ∀ f ∈ five1, tb_FORMS.lookup f = some (.int 0) := by
  intro f h
  simp only [five1, List.mem_cons, List.not_mem_nil, or_false] at h
  rcases h with rfl | rfl | rfl | rfl | rfl <;> kernel_rfl
theorem look2 : ∀ f ∈ five2, tb_FORMS.lookup f = some (.int 1) := by
  intro f h
  simp only [five2, List.mem_cons, List.not_mem_nil, or_false] at h
  rcases h with rfl | rfl | rfl | rfl | rfl <;> kernel_rfl
theorem look0 {f : Str} (h1 : f ∉ five1) (h2 : f ∉ five2) (h3 : f ≠ "double") (h4 : f ≠ "product") : tb_FORMS.lookup f = none := by
  simp only [five1, five2, List.mem_cons, List.not_mem_nil, or_false, not_or] at h1 h2
  obtain ⟨a1, a2, a3, a4, a5⟩ := h1
  obtain ⟨b1, b2, b3, b4, b5⟩ := h2
  unfold tb_FORMS
  simp only [List.lookup_cons, beq_false_of_ne a1, beq_false_of_ne a2, beq_false_of_ne a3, beq_false_of_ne a4, beq_false_of_ne a5, beq_false_of_ne b1, beq_false_of_ne b2, beq_false_of_ne b3, beq_false_of_ne b4, beq_false_of_ne b5, beq_false_of_ne h3, beq_false_of_ne h4]
  rfl
theorem command_same {f : Str} {r : List Str} (hf : Ok f) (hr : Oks r) : ∃ b, F_is_command [.lst ((f :: r).map D.str)] = .ok (.bl b) ∧ F__law_command [.lst ((f :: r).map D.str)] = .ok (.bl b) := by
  by_cases h1 : f ∈ five1
  · refine ⟨_, com_form (n := 0) hf hr (look1 f h1), ?_⟩
    rw [law_com_1 hf h1]
    cases r with
    | nil => rfl
    | cons v r => rfl
  · by_cases h2 : f ∈ five2
    · exact ⟨_, com_form (n := 1) hf hr (look2 f h2), law_com_2 hf hr h1 h2⟩
    · by_cases h3 : f = "double"
      · refine ⟨_, com_form (n := 2) hf hr ?_, law_com_3 hf hr h1 h2 (.inl ⟨h3, rfl⟩)⟩
        subst h3
        kernel_rfl
      · by_cases h4 : f = "product"
        · refine ⟨_, com_form (n := 3) hf hr ?_, law_com_3 hf hr h1 h2 (.inr ⟨h4, rfl⟩)⟩
          subst h4
          kernel_rfl
        · have hl := look0 h1 h2 h3 h4
          by_cases h5 : f = "take"
          · exact ⟨_, com_take hf hr hl h5, law_com_take hf hr h1 h2 h5⟩
          · have o : Other f := ⟨h1, h2, h3, h4, h5⟩
            by_cases h6 : f = "ask"
            · match r, hr with
              | [], _ => exact ⟨_, com_short hf hl h5 (.inr (by simp)), law_com_short hf o (.inr (by simp))⟩
              | [_], _ => exact ⟨_, com_short hf hl h5 (.inr (by simp)), law_com_short hf o (.inr (by simp))⟩
              | [_, _], _ => exact ⟨_, com_short hf hl h5 (.inr (by simp)), law_com_short hf o (.inr (by simp))⟩
              | a :: b :: c :: t, hr => exact ⟨_, com_ask hf hr hl h6, law_com_ask hf hr o h6⟩
            · exact ⟨_, com_short hf hl h5 (.inl h6), law_com_short hf o (.inl h6)⟩
end
end K57

set_option Elab.async false
set_option linter.all false
set_option maxRecDepth 100000
namespace K57
open PySem PyProof.Rows PySem.Spec L2 VL TL
noncomputable section
theorem joinL_nil : ∀ ps : List (List Nat), joinL [] ps = ps.flatten
  | [] => rfl
  | [p] => by simp [joinL]
  | p :: q :: r => by
    have := joinL_nil (q :: r)
    rw [joinL, this]
    simp
theorem tl_joined (z : Str) (parts : List Str) (h : tl z = []) : tl (Txt.join z parts) = (parts.map tl).flatten := by
  rw [join_eq, tl_join, h, joinL_nil]
theorem join_signs {it : VA} {fe : VE} {s : S} {n : Nat} {p : Nat → Nat} (hn : n ≤ 1000) (h : it s = .ok (rgD 0 n) s)
    (H : ∀ i, i < n → fe ⟨(s.ρ.set 8 none).set 8 (some (.int (i : Int))), s.η⟩ = .ok (.str ⟨#[p i]⟩) ⟨(s.ρ.set 8 none).set 8 (some (.int (i : Int))), s.η⟩) :
    ∃ w, eM1 kJoin (eC (.str "")) (eLc false [8] (gNm 8) it tYes' fe) s = .ok (.str w) s ∧ tl w = (List.range n).map p := by
  have e := lcGo_all (g := gNm 8) (fe := fe) (ρ := wipeD s.ρ [8]) (η := s.η) (fun d => match d with
    | .int i => .str ⟨#[p i.toNat]⟩
    | _ => .non) (rgD 0 n) [] (by rw [rgD_len, sizeLine_eq]; simp; omega) (fun d hd => by
      obtain ⟨i, hi, rfl⟩ := rgD_mem hd
      rw [Int.zero_add]
      exact ⟨_, _, rfl, H i hi, rfl, rfl⟩)
  have e3 := lc_to (m := false) h e
  rw [rgD_map, List.nil_append] at e3
  have e4 : ((List.range n).map fun i : Nat => D.str ⟨#[p ((i : Int)).toNat]⟩) = ((List.range n).map fun i => (⟨#[p i]⟩ : Str)).map D.str := by
    rw [List.map_map]
    rfl
  dsimp only at e3
  rw [e4] at e3
  refine ⟨Txt.join "" ((List.range n).map fun i => (⟨#[p i]⟩ : Str)), ?_, ?_⟩
  · have l1 : (((List.range n).map fun i => (⟨#[p i]⟩ : Str)).map (·.length)).sum = n := by
      rw [List.map_map]
      have : ((fun x : Str => x.length) ∘ fun i => (⟨#[p i]⟩ : Str)) = fun _ : Nat => 1 := rfl
      rw [this]
      have k : ∀ l : List Nat, (l.map fun _ => 1).sum = l.length := fun l => by
        induction l with
        | nil => rfl
        | cons x r ih => rw [List.map_cons, List.sum_cons, ih, List.length_cons]; omega
      rw [k, List.length_range]
    have l2 : ((List.range n).map fun i => (⟨#[p i]⟩ : Str)).length = n := by simp
    have l3 : ("" : Str).length = 0 := by decide +kernel
    have l4 : (((List.range n).map fun i => (⟨#[p i]⟩ : Str)).map (·.length)).sum + ((List.range n).map fun i => (⟨#[p i]⟩ : Str)).length * ("" : Str).length ≤ 16777216 := by
      rw [l1, l2, l3]
      omega
    generalize ((List.range n).map fun i => (⟨#[p i]⟩ : Str)) = ys at e3 l4 ⊢
    simp only [eM1, eC, bind_ok, look, e3, newL, Bool.false_eq_true, if_false, kJoin, strsOf_str, l4, if_true]
  · rw [tl_joined _ _ (by decide +kernel), List.map_map]
    have : (tl ∘ fun i => (⟨#[p i]⟩ : Str)) = fun i => [p i] := rfl
    rw [this]
    clear e e3 e4 this H h
    induction n with
    | zero => rfl
    | succ n ih => rw [List.range_succ, List.map_append, List.flatten_append, ih (by omega), List.map_append]; rfl
def W0 : Str := "abcdefghijklmnopqrstuvwxyz0123456789"
def lettersL : List Nat := ("abcdefghijklmnopqrstuvwxyz0123456789" : Str).cps.toList
def ltr (i : Int) : Nat := (lettersL[i.toNat]?).getD 97
theorem ltr_ok (i : Int) : ltr i < 128 ∧ ltr i ≠ 32 := by
  unfold ltr
  cases e : lettersL[i.toNat]? with
  | none => exact ⟨by decide, by decide⟩
  | some c =>
    have : ∀ c ∈ lettersL, c < 128 ∧ c ≠ 32 := by decide +kernel
    exact this c (List.mem_of_getElem? e)
theorem W0_len : W0.length ≤ sizeLine := by
  rw [show W0.length = 36 by decide +kernel, sizeLine_eq]
  decide
theorem ltr_at {i : Int} (h : 0 ≤ i ∧ i < 36) : atI W0.cps.toList i = some (ltr i) := by
  have hl : lettersL.length = 36 := by decide +kernel
  obtain ⟨n, rfl⟩ := Int.eq_ofNat_of_zero_le h.1
  refine atI_nat ?_
  have hn : n < lettersL.length := by omega
  unfold ltr
  rw [show lettersL[((n : Nat) : Int).toNat]? = some lettersL[n] from List.getElem?_eq_getElem hn]
  exact List.getElem?_eq_getElem hn
def wordsT : List Str := ["system", "double", "product", "remove", "drop", "answer", "answers", "print", "systems", "questions", "undo", "redo", "take", "ask", "size", "third", "closed", "least", "end", "7"]
def okB (w : Str) : Bool := !(tl w).isEmpty && (decide (w.length ≤ 60) && (tl w).all fun c => decide (c < 128) && decide (c ≠ 32))
theorem Ok.of {w : Str} (h : okB w = true) : Ok w := by
  simp only [okB, Bool.and_eq_true, Bool.not_eq_true', decide_eq_true_eq, List.all_eq_true] at h
  exact ⟨fun e => by rw [e] at h; exact absurd h.1 (by simp), h.2.1, fun c hc => h.2.2 c hc⟩
theorem wordsT_ok : ∀ w ∈ wordsT, Ok w := fun w h => Ok.of ((List.all_eq_true.mp (show wordsT.all okB = true by decide +kernel)) w h)
theorem word_at {i : Int} (h : 0 ≤ i ∧ i < 20) : ∃ w, w ∈ wordsT ∧ atI (wordsT.map D.str) i = some (.str w) := by
  obtain ⟨n, rfl⟩ := Int.eq_ofNat_of_zero_le h.1
  have hn : n < wordsT.length := by
    show n < 20
    omega
  refine ⟨wordsT[n], List.getElem_mem hn, ?_⟩
  exact atI_nat (by rw [List.getElem?_map, List.getElem?_eq_getElem hn]; rfl)
/-- signs that a word may have -/
def Lets (z : Str) : Prop := ∀ c ∈ tl z, c < 128 ∧ c ≠ 32
theorem Lets.app {x y : Str} (h : Lets x) (k : Lets y) : Lets (x ++ y) := fun c hc => by
  rw [tl_append] at hc
  exact (List.mem_append.mp hc).elim (h c) (k c)
theorem Lets.cut {x : Str} (h : Lets x) (lo hi : Option Int) : Lets (cutS x lo hi) := fun c hc => by
  have : c ∈ ((tl x).drop (HT.sIx x.length 0 lo)).take (HT.sIx x.length x.length hi - HT.sIx x.length 0 lo) := hc
  exact h c (List.mem_of_mem_drop (List.mem_of_mem_take this))
theorem app_len (x y : Str) : (x ++ y).length = x.length + y.length := by rw [len_tl, len_tl, len_tl, tl_append, List.length_append]
theorem Lets.sig {i : Int} : Lets ⟨#[ltr i]⟩ := fun c hc => by
  have : c = ltr i := by simpa [tl] using hc
  rw [this]
  exact ltr_ok i
/-! a word of the law -/
theorem lw_prefix (a b : Int) : ∃ s, s = (⟨[some (.int a), some (.int b), some (.tup (wordsT.map D.str)), some (.str W0), none, none, none, none, none], []⟩ : S) ∧
    ∀ g r, g s = r → (sSeq (sSet 2 (eTup (aCons (eC (D.str "system")) (aCons (eC (D.str "double")) (aCons (eC (D.str "product")) (aCons (eC (D.str "remove")) (aCons (eC (D.str "drop")) (aCons (eC (D.str "answer")) (aCons (eC (D.str "answers")) (aCons (eC (D.str "print")) (aCons (eC (D.str "systems")) (aCons (eC (D.str "questions")) (aCons (eC (D.str "undo")) (aCons (eC (D.str "redo")) aNil))))))))))))))
    (sSeq (sSet 2 (e2 (kPlus false) (eVar 2) (eTup (aCons (eC (D.str "take")) (aCons (eC (D.str "ask")) (aCons (eC (D.str "size")) (aCons (eC (D.str "third")) (aCons (eC (D.str "closed")) (aCons (eC (D.str "least")) (aCons (eC (D.str "end")) (aCons (eC (D.str "7")) aNil)))))))))))
    (sSeq (sSet 3 (eC (D.str "abcdefghijklmnopqrstuvwxyz0123456789"))) g))) ⟨[some (.int a), some (.int b), none, none, none, none, none, none, none], []⟩ = r := by
  refine ⟨_, rfl, fun g r h => ?_⟩
  refine seq_to (s' := ⟨[some (.int a), some (.int b), some (.tup ((wordsT.take 12).map D.str)), none, none, none, none, none, none], []⟩) ?_ <| seq_to (s' := ⟨[some (.int a), some (.int b), some (.tup (wordsT.map D.str)), none, none, none, none, none, none], []⟩) ?_ <| seq_to (s' := ⟨[some (.int a), some (.int b), some (.tup (wordsT.map D.str)), some (.str W0), none, none, none, none, none], []⟩) rfl h
  · simp [runP, runS, sSeq, sExpr, sRet, sRetN, sSet, sIf, sNil, sRaise, sBrk, sCnt, sFor, sAsg, sAug, eVar, eC, e2, e1, eChain, bOf, tAnd', tOr', tNot', eAnd, eOr, eNot, eIf, callP, callS, aCons, aNil, eTup, eLst, newL, eCall, tTru, truD, kInt, kIntC, S.put, gNm, gTup', gCons', gNil', itS, itL, itT, itR1, itR2, kIx, kSl, eSl, oNone, oSome, kLen, kAbs, kMax2, kMin2, kIntOf, kSorted, kAll, kAny, kTupOf, kLstOf, kIsi, eApp, kApp, eFrz, look, tYes', kNeg, kIs, kIsNot, wipeD, Res.bind, Res.bindS, pf_non, pf_bl, pf_int, pf_str, pf_tup, pf_lst, pf_scr, pfs_nil, pfs_cons, pfF, eqI, neI, eqS, neS, decide_eq_true_eq, kTimes, eM1, eM0, kJoin, kSplit, kUpper, sPut, sPar2, sPar3, eInT, eIxT, itU, sizeLine_eq, wordsT]
  · have p := plus_tup (m := false) (x := (wordsT.take 12).map D.str) (y := (wordsT.drop 12).map D.str) (s := ⟨[some (.int a), some (.int b), some (.tup ((wordsT.take 12).map D.str)), none, none, none, none, none, none], []⟩) (by decide)
    simp [runP, runS, sSeq, sExpr, sRet, sRetN, sSet, sIf, sNil, sRaise, sBrk, sCnt, sFor, sAsg, sAug, eVar, eC, e2, e1, eChain, bOf, tAnd', tOr', tNot', eAnd, eOr, eNot, eIf, callP, callS, aCons, aNil, eTup, eLst, newL, eCall, tTru, truD, kInt, kIntC, S.put, gNm, gTup', gCons', gNil', itS, itL, itT, itR1, itR2, kIx, kSl, eSl, oNone, oSome, kLen, kAbs, kMax2, kMin2, kIntOf, kSorted, kAll, kAny, kTupOf, kLstOf, kIsi, eApp, kApp, eFrz, look, tYes', kNeg, kIs, kIsNot, wipeD, Res.bind, Res.bindS, pf_non, pf_bl, pf_int, pf_str, pf_tup, pf_lst, pf_scr, pfs_nil, pfs_cons, pfF, eqI, neI, eqS, neS, decide_eq_true_eq, kTimes, eM1, eM0, kJoin, kSplit, kUpper, sPut, sPar2, sPar3, eInT, eIxT, itU, sizeLine_eq, wordsT] at p ⊢
    simp [p]
theorem law_word_ok {a b : Int} (ha : 0 ≤ a ∧ a < 1009) (hb : 0 ≤ b ∧ b < 1009) : ∃ w, Ok w ∧ F__law_word [.int a, .int b] = .ok (.str w) := by
  obtain ⟨s, es, pre⟩ := lw_prefix a b
  suffices h : ∃ w s', Ok w ∧ b__law_word ⟨[D.int a, D.int b].map some ++ List.replicate (9 - [D.int a, D.int b].length) none, []⟩ = .rt (.str w) s' by
    obtain ⟨w, s', h1, h2⟩ := h
    exact ⟨w, h1, runP_rt h2 rfl⟩
  have m4 : 0 ≤ a % 4 ∧ a % 4 < 4 := by omega
  by_cases c0 : a % 4 = 0
  · obtain ⟨w, hw, kw⟩ := word_at (i := a / 4 % 20) (by omega)
    refine ⟨w, s, wordsT_ok w hw, pre _ _ ?_⟩
    subst es
    simp [runP, runS, sSeq, sExpr, sRet, sRetN, sSet, sIf, sNil, sRaise, sBrk, sCnt, sFor, sAsg, sAug, eVar, eC, e2, e1, eChain, bOf, tAnd', tOr', tNot', eAnd, eOr, eNot, eIf, callP, callS, aCons, aNil, eTup, eLst, newL, eCall, tTru, truD, kInt, kIntC, S.put, gNm, gTup', gCons', gNil', itS, itL, itT, itR1, itR2, kIx, kSl, eSl, oNone, oSome, kLen, kAbs, kMax2, kMin2, kIntOf, kSorted, kAll, kAny, kTupOf, kLstOf, kIsi, eApp, kApp, eFrz, look, tYes', kNeg, kIs, kIsNot, wipeD, Res.bind, Res.bindS, pf_non, pf_bl, pf_int, pf_str, pf_tup, pf_lst, pf_scr, pfs_nil, pfs_cons, pfF, eqI, neI, eqS, neS, decide_eq_true_eq, kTimes, eM1, eM0, kJoin, kSplit, kUpper, sPut, sPar2, sPar3, eInT, eIxT, itU, cdiv_of, c0, kw]
  · have k0 : ¬ (a % 4 = 0) := c0
    obtain ⟨n, hn, n7⟩ : ∃ n : Nat, a / 4 % 7 = n ∧ n < 7 := ⟨(a / 4 % 7).toNat, by omega, by omega⟩
    by_cases c1 : a % 4 = 1
    · obtain ⟨m, hm, m33⟩ : ∃ m : Nat, 1 + (n : Int) + 26 * (if b % 5 = 0 then 1 else 0) = m ∧ m ≤ 33 ∧ 0 < m := by
        by_cases c5 : b % 5 = 0
        · exact ⟨1 + n + 26, by rw [if_pos c5]; omega, by omega⟩
        · exact ⟨1 + n, by rw [if_neg c5]; omega, by omega⟩
      let st : S := ⟨[some (.int a), some (.int b), some (.tup (wordsT.map D.str)), some (.str W0), some (.int n), some (.int m), none, none, none], []⟩
      obtain ⟨z, hz, tz⟩ := join_signs (it := itR1 (aCons (eVar 5) aNil)) (fe := e2 kIx (eVar 3) (e2 (kPlus false) (eC (D.int 26)) (e2 kMod (eCall kIntOf (aCons (e2 (kPlus false) (e2 (kPlus false) (eVar 1) (e2 (kTimes false) (e2 (kTimes false) (eVar 8) (eVar 8)) (eC (D.int 3)))) (e2 kDiv (eVar 0) (eC (D.int 28)))) aNil)) (eC (D.int 10)))))
        (s := st) (n := m) (p := fun i => ltr (26 + (b + (i : Int) * i * 3 + a / 28) % 10)) (by omega) (r1_to m rfl rfl (by omega)) (fun i hi => by
          have l := ltr_at (i := 26 + (b + (i : Int) * i * 3 + a / 28) % 10) (by omega)
          have w0 := W0_len
          have x1 : CMul (i : Int) i := cmulL _ _ (by omega)
          have x2 : CMul ((i : Int) * i) 3 := cmulR _ _ (by omega)
          simp [st, runP, runS, sSeq, sExpr, sRet, sRetN, sSet, sIf, sNil, sRaise, sBrk, sCnt, sFor, sAsg, sAug, eVar, eC, e2, e1, eChain, bOf, tAnd', tOr', tNot', eAnd, eOr, eNot, eIf, callP, callS, aCons, aNil, eTup, eLst, newL, eCall, tTru, truD, kInt, kIntC, S.put, gNm, gTup', gCons', gNil', itS, itL, itT, itR1, itR2, kIx, kSl, eSl, oNone, oSome, kLen, kAbs, kMax2, kMin2, kIntOf, kSorted, kAll, kAny, kTupOf, kLstOf, kIsi, eApp, kApp, eFrz, look, tYes', kNeg, kIs, kIsNot, wipeD, Res.bind, Res.bindS, pf_non, pf_bl, pf_int, pf_str, pf_tup, pf_lst, pf_scr, pfs_nil, pfs_cons, pfF, eqI, neI, eqS, neS, decide_eq_true_eq, kTimes, eM1, eM0, kJoin, kSplit, kUpper, sPut, sPar2, sPar3, eInT, eIxT, itU, plus_int, cdiv_of, x1, x2, l, w0])
      have lz : Lets z := fun c hc => by
        rw [tz] at hc
        obtain ⟨i, _, rfl⟩ := List.mem_map.mp hc
        exact ltr_ok _
      have zl : z.length = m := by rw [len_tl, tz, List.length_map, List.length_range]
      obtain ⟨q, hq, lq, ql⟩ : ∃ q : Str, atI [D.str "", D.str "", D.str "", D.str "-"] (b % 4) = some (.str q) ∧ Lets q ∧ q.length ≤ 1 := by
        have h4 : b % 4 = 0 ∨ b % 4 = 1 ∨ b % 4 = 2 ∨ b % 4 = 3 := by omega
        have le : Lets "" := fun c hc => by
          rw [show tl ("" : Str) = [] by decide +kernel] at hc
          cases hc
        have lm : Lets "-" := fun c hc => by
          rw [show tl ("-" : Str) = [45] by decide +kernel] at hc
          have : c = 45 := by simpa using hc
          rw [this]
          decide
        rcases h4 with e | e | e | e <;> rw [e]
        · exact ⟨"", rfl, le, by decide +kernel⟩
        · exact ⟨"", rfl, le, by decide +kernel⟩
        · exact ⟨"", rfl, le, by decide +kernel⟩
        · exact ⟨"-", rfl, lm, by decide +kernel⟩
      have pl := plus_str (m := false) (x := q) (y := z) (s := ⟨[some (.int a), some (.int b), some (.tup (wordsT.map D.str)), some (.str W0), some (.int n), some (.int m), some (.str z), none, none], []⟩) (by omega)
      refine ⟨q ++ z, ⟨[some (.int a), some (.int b), some (.tup (wordsT.map D.str)), some (.str W0), some (.int n), some (.int m), some (.str z), none, none], []⟩, ⟨fun e => ?_, by rw [app_len]; omega, lq.app lz⟩, pre _ _ ?_⟩
      · have : (tl (q ++ z)).length = 0 := by rw [e]; rfl
        rw [← len_tl, app_len] at this
        omega
      · subst es
        refine seq_to (s' := ⟨[some (.int a), some (.int b), some (.tup (wordsT.map D.str)), some (.str W0), none, none, none, none, none], []⟩) ?_ <| seq_to (s' := ⟨[some (.int a), some (.int b), some (.tup (wordsT.map D.str)), some (.str W0), some (.int n), none, none, none, none], []⟩) ?_ <| seq_rt <| if_yes (s1 := ⟨[some (.int a), some (.int b), some (.tup (wordsT.map D.str)), some (.str W0), some (.int n), none, none, none, none], []⟩) ?_ <| seq_to (s' := st) ?_ <| seq_to (set_to hz) ?_
        · simp [runP, runS, sSeq, sExpr, sRet, sRetN, sSet, sIf, sNil, sRaise, sBrk, sCnt, sFor, sAsg, sAug, eVar, eC, e2, e1, eChain, bOf, tAnd', tOr', tNot', eAnd, eOr, eNot, eIf, callP, callS, aCons, aNil, eTup, eLst, newL, eCall, tTru, truD, kInt, kIntC, S.put, gNm, gTup', gCons', gNil', itS, itL, itT, itR1, itR2, kIx, kSl, eSl, oNone, oSome, kLen, kAbs, kMax2, kMin2, kIntOf, kSorted, kAll, kAny, kTupOf, kLstOf, kIsi, eApp, kApp, eFrz, look, tYes', kNeg, kIs, kIsNot, wipeD, Res.bind, Res.bindS, pf_non, pf_bl, pf_int, pf_str, pf_tup, pf_lst, pf_scr, pfs_nil, pfs_cons, pfF, eqI, neI, eqS, neS, decide_eq_true_eq, kTimes, eM1, eM0, kJoin, kSplit, kUpper, sPut, sPar2, sPar3, eInT, eIxT, itU, cdiv_of, k0]
        · simp [runP, runS, sSeq, sExpr, sRet, sRetN, sSet, sIf, sNil, sRaise, sBrk, sCnt, sFor, sAsg, sAug, eVar, eC, e2, e1, eChain, bOf, tAnd', tOr', tNot', eAnd, eOr, eNot, eIf, callP, callS, aCons, aNil, eTup, eLst, newL, eCall, tTru, truD, kInt, kIntC, S.put, gNm, gTup', gCons', gNil', itS, itL, itT, itR1, itR2, kIx, kSl, eSl, oNone, oSome, kLen, kAbs, kMax2, kMin2, kIntOf, kSorted, kAll, kAny, kTupOf, kLstOf, kIsi, eApp, kApp, eFrz, look, tYes', kNeg, kIs, kIsNot, wipeD, Res.bind, Res.bindS, pf_non, pf_bl, pf_int, pf_str, pf_tup, pf_lst, pf_scr, pfs_nil, pfs_cons, pfF, eqI, neI, eqS, neS, decide_eq_true_eq, kTimes, eM1, eM0, kJoin, kSplit, kUpper, sPut, sPar2, sPar3, eInT, eIxT, itU, cdiv_of, hn]
        · simp [runP, runS, sSeq, sExpr, sRet, sRetN, sSet, sIf, sNil, sRaise, sBrk, sCnt, sFor, sAsg, sAug, eVar, eC, e2, e1, eChain, bOf, tAnd', tOr', tNot', eAnd, eOr, eNot, eIf, callP, callS, aCons, aNil, eTup, eLst, newL, eCall, tTru, truD, kInt, kIntC, S.put, gNm, gTup', gCons', gNil', itS, itL, itT, itR1, itR2, kIx, kSl, eSl, oNone, oSome, kLen, kAbs, kMax2, kMin2, kIntOf, kSorted, kAll, kAny, kTupOf, kLstOf, kIsi, eApp, kApp, eFrz, look, tYes', kNeg, kIs, kIsNot, wipeD, Res.bind, Res.bindS, pf_non, pf_bl, pf_int, pf_str, pf_tup, pf_lst, pf_scr, pfs_nil, pfs_cons, pfF, eqI, neI, eqS, neS, decide_eq_true_eq, kTimes, eM1, eM0, kJoin, kSplit, kUpper, sPut, sPar2, sPar3, eInT, eIxT, itU, cdiv_of, c1]
        · have x1 : CMul 26 (if b % 5 = 0 then 1 else 0) := cmulL _ _ (by omega)
          by_cases c5 : b % 5 = 0
          · rw [if_pos c5] at hm x1
            simp [runP, runS, sSeq, sExpr, sRet, sRetN, sSet, sIf, sNil, sRaise, sBrk, sCnt, sFor, sAsg, sAug, eVar, eC, e2, e1, eChain, bOf, tAnd', tOr', tNot', eAnd, eOr, eNot, eIf, callP, callS, aCons, aNil, eTup, eLst, newL, eCall, tTru, truD, kInt, kIntC, S.put, gNm, gTup', gCons', gNil', itS, itL, itT, itR1, itR2, kIx, kSl, eSl, oNone, oSome, kLen, kAbs, kMax2, kMin2, kIntOf, kSorted, kAll, kAny, kTupOf, kLstOf, kIsi, eApp, kApp, eFrz, look, tYes', kNeg, kIs, kIsNot, wipeD, Res.bind, Res.bindS, pf_non, pf_bl, pf_int, pf_str, pf_tup, pf_lst, pf_scr, pfs_nil, pfs_cons, pfF, eqI, neI, eqS, neS, decide_eq_true_eq, kTimes, eM1, eM0, kJoin, kSplit, kUpper, sPut, sPar2, sPar3, eInT, eIxT, itU, cdiv_of, plus_int, c5, x1, st] at hm ⊢
            simp [hm]
          · rw [if_neg c5] at hm x1
            simp [runP, runS, sSeq, sExpr, sRet, sRetN, sSet, sIf, sNil, sRaise, sBrk, sCnt, sFor, sAsg, sAug, eVar, eC, e2, e1, eChain, bOf, tAnd', tOr', tNot', eAnd, eOr, eNot, eIf, callP, callS, aCons, aNil, eTup, eLst, newL, eCall, tTru, truD, kInt, kIntC, S.put, gNm, gTup', gCons', gNil', itS, itL, itT, itR1, itR2, kIx, kSl, eSl, oNone, oSome, kLen, kAbs, kMax2, kMin2, kIntOf, kSorted, kAll, kAny, kTupOf, kLstOf, kIsi, eApp, kApp, eFrz, look, tYes', kNeg, kIs, kIsNot, wipeD, Res.bind, Res.bindS, pf_non, pf_bl, pf_int, pf_str, pf_tup, pf_lst, pf_scr, pfs_nil, pfs_cons, pfF, eqI, neI, eqS, neS, decide_eq_true_eq, kTimes, eM1, eM0, kJoin, kSplit, kUpper, sPut, sPar2, sPar3, eInT, eIxT, itU, cdiv_of, plus_int, c5, x1, st] at hm ⊢
            simp [hm]
        · simp [runP, runS, sSeq, sExpr, sRet, sRetN, sSet, sIf, sNil, sRaise, sBrk, sCnt, sFor, sAsg, sAug, eVar, eC, e2, e1, eChain, bOf, tAnd', tOr', tNot', eAnd, eOr, eNot, eIf, callP, callS, aCons, aNil, eTup, eLst, newL, eCall, tTru, truD, kInt, kIntC, S.put, gNm, gTup', gCons', gNil', itS, itL, itT, itR1, itR2, kIx, kSl, eSl, oNone, oSome, kLen, kAbs, kMax2, kMin2, kIntOf, kSorted, kAll, kAny, kTupOf, kLstOf, kIsi, eApp, kApp, eFrz, look, tYes', kNeg, kIs, kIsNot, wipeD, Res.bind, Res.bindS, pf_non, pf_bl, pf_int, pf_str, pf_tup, pf_lst, pf_scr, pfs_nil, pfs_cons, pfF, eqI, neI, eqS, neS, decide_eq_true_eq, kTimes, eM1, eM0, kJoin, kSplit, kUpper, sPut, sPar2, sPar3, eInT, eIxT, itU, st, sizeLine_eq, hq, pl]
    · obtain ⟨w2, hw2⟩ : ∃ w2 : Nat, 2 * n = w2 := ⟨_, rfl⟩
      let st : S := ⟨[some (.int a), some (.int b), some (.tup (wordsT.map D.str)), some (.str W0), some (.int n), none, none, none, none], []⟩
      obtain ⟨z, hz, tz⟩ := join_signs (it := itR1 (aCons (e2 (kTimes false) (eVar 4) (eC (D.int 2))) aNil)) (fe := e2 kIx (eVar 3) (e2 kMod (eCall kIntOf (aCons (e2 (kPlus false) (e2 (kPlus false) (eVar 1) (e2 (kTimes false) (e2 (kTimes false) (eC (D.int 11)) (eVar 8)) (eVar 0))) (eVar 8)) aNil)) (eC (D.int 36))))
        (s := st) (n := w2) (p := fun i => ltr ((b + 11 * (i : Int) * a + i) % 36)) (by omega) (r1_to w2 (i := (n : Int) * 2) (by
          have x1 : CMul (n : Int) 2 := cmulR _ _ (by omega)
          simp [st, runP, runS, sSeq, sExpr, sRet, sRetN, sSet, sIf, sNil, sRaise, sBrk, sCnt, sFor, sAsg, sAug, eVar, eC, e2, e1, eChain, bOf, tAnd', tOr', tNot', eAnd, eOr, eNot, eIf, callP, callS, aCons, aNil, eTup, eLst, newL, eCall, tTru, truD, kInt, kIntC, S.put, gNm, gTup', gCons', gNil', itS, itL, itT, itR1, itR2, kIx, kSl, eSl, oNone, oSome, kLen, kAbs, kMax2, kMin2, kIntOf, kSorted, kAll, kAny, kTupOf, kLstOf, kIsi, eApp, kApp, eFrz, look, tYes', kNeg, kIs, kIsNot, wipeD, Res.bind, Res.bindS, pf_non, pf_bl, pf_int, pf_str, pf_tup, pf_lst, pf_scr, pfs_nil, pfs_cons, pfF, eqI, neI, eqS, neS, decide_eq_true_eq, kTimes, eM1, eM0, kJoin, kSplit, kUpper, sPut, sPar2, sPar3, eInT, eIxT, itU, x1]) (by omega) (by omega)) (fun i hi => by
          have l := ltr_at (i := (b + 11 * (i : Int) * a + i) % 36) (by omega)
          have w0 := W0_len
          have x1 : CMul 11 (i : Int) := cmulL _ _ (by omega)
          have x2 : CMul (11 * (i : Int)) a := cmulR _ _ (by omega)
          simp [st, runP, runS, sSeq, sExpr, sRet, sRetN, sSet, sIf, sNil, sRaise, sBrk, sCnt, sFor, sAsg, sAug, eVar, eC, e2, e1, eChain, bOf, tAnd', tOr', tNot', eAnd, eOr, eNot, eIf, callP, callS, aCons, aNil, eTup, eLst, newL, eCall, tTru, truD, kInt, kIntC, S.put, gNm, gTup', gCons', gNil', itS, itL, itT, itR1, itR2, kIx, kSl, eSl, oNone, oSome, kLen, kAbs, kMax2, kMin2, kIntOf, kSorted, kAll, kAny, kTupOf, kLstOf, kIsi, eApp, kApp, eFrz, look, tYes', kNeg, kIs, kIsNot, wipeD, Res.bind, Res.bindS, pf_non, pf_bl, pf_int, pf_str, pf_tup, pf_lst, pf_scr, pfs_nil, pfs_cons, pfF, eqI, neI, eqS, neS, decide_eq_true_eq, kTimes, eM1, eM0, kJoin, kSplit, kUpper, sPut, sPar2, sPar3, eInT, eIxT, itU, plus_int, cdiv_of, x1, x2, l, w0])
      have lz : Lets z := fun c hc => by
        rw [tz] at hc
        obtain ⟨i, _, rfl⟩ := List.mem_map.mp hc
        exact ltr_ok _
      have zl : z.length = w2 := by rw [len_tl, tz, List.length_map, List.length_range]
      have l0 := ltr_at (i := b % 36) (by omega)
      have w0 := W0_len
      have pl := plus_str (m := false) (x := ⟨#[ltr (b % 36)]⟩) (y := z) (s := st) (by
        show 1 + z.length ≤ _
        omega)
      obtain ⟨w, hw⟩ : ∃ w : Str, (⟨#[ltr (b % 36)]⟩ : Str) ++ z = w := ⟨_, rfl⟩
      rw [hw] at pl
      have lw : Lets w := by
        rw [← hw]
        exact Lets.sig.app lz
      have wl : w.length = 1 + w2 := by
        rw [← hw, app_len, zl]
        rfl
      let st7 : S := ⟨[some (.int a), some (.int b), some (.tup (wordsT.map D.str)), some (.str W0), some (.int n), none, none, some (.str w), none], []⟩
      have go : ∀ r g, g st7 = r → (sSeq (sIf (bOf (e2 kEq (e2 kMod (eCall kIntOf (aCons (eVar 0) aNil)) (eC (D.int 4))) (eC (D.int 0)))) (sRet (e2 kIx (eVar 2) (e2 kMod (eCall kIntOf (aCons (e2 kDiv (eVar 0) (eC (D.int 4))) aNil)) (eC (D.int 20))))) sNil)
          (sSeq (sSet 4 (e2 kMod (eCall kIntOf (aCons (e2 kDiv (eVar 0) (eC (D.int 4))) aNil)) (eC (D.int 7))))
          (sSeq (sIf (bOf (e2 kEq (e2 kMod (eCall kIntOf (aCons (eVar 0) aNil)) (eC (D.int 4))) (eC (D.int 1)))) (sSeq (sSet 5 (e2 (kPlus false) (e2 (kPlus false) (eC (D.int 1)) (eVar 4)) (e2 (kTimes false) (eC (D.int 26)) (eCall kIntOf (aCons (e2 kEq (e2 kMod (eCall kIntOf (aCons (eVar 1) aNil)) (eC (D.int 5))) (eC (D.int 0))) aNil)))))
          (sSeq (sSet 6 (eM1 kJoin (eC (D.str "")) (eLc false [8] (gNm 8) (itR1 (aCons (eVar 5) aNil)) tYes' (e2 kIx (eVar 3) (e2 (kPlus false) (eC (D.int 26)) (e2 kMod (eCall kIntOf (aCons (e2 (kPlus false) (e2 (kPlus false) (eVar 1) (e2 (kTimes false) (e2 (kTimes false) (eVar 8) (eVar 8)) (eC (D.int 3)))) (e2 kDiv (eVar 0) (eC (D.int 28)))) aNil)) (eC (D.int 10))))))))
          (sRet (e2 (kPlus false) (e2 kIx (eTup (aCons (eC (D.str "")) (aCons (eC (D.str "")) (aCons (eC (D.str "")) (aCons (eC (D.str "-")) aNil))))) (e2 kMod (eCall kIntOf (aCons (eVar 1) aNil)) (eC (D.int 4)))) (eVar 6))))) sNil)
          (sSeq (sSet 7 (e2 (kPlus false) (e2 kIx (eVar 3) (e2 kMod (eCall kIntOf (aCons (eVar 1) aNil)) (eC (D.int 36)))) (eM1 kJoin (eC (D.str "")) (eLc false [8] (gNm 8) (itR1 (aCons (e2 (kTimes false) (eVar 4) (eC (D.int 2))) aNil)) tYes' (e2 kIx (eVar 3) (e2 kMod (eCall kIntOf (aCons (e2 (kPlus false) (e2 (kPlus false) (eVar 1) (e2 (kTimes false) (e2 (kTimes false) (eC (D.int 11)) (eVar 8)) (eVar 0))) (eVar 8)) aNil)) (eC (D.int 36))))))))
          g)))) s = r := fun r g hg => by
        subst es
        refine seq_to (s' := ⟨[some (.int a), some (.int b), some (.tup (wordsT.map D.str)), some (.str W0), none, none, none, none, none], []⟩) ?_ <| seq_to (s' := st) ?_ <| seq_to (s' := st) (if_no (s1 := st) ?_ rfl) <| seq_to (s' := st7) ?_ hg
        · simp [runP, runS, sSeq, sExpr, sRet, sRetN, sSet, sIf, sNil, sRaise, sBrk, sCnt, sFor, sAsg, sAug, eVar, eC, e2, e1, eChain, bOf, tAnd', tOr', tNot', eAnd, eOr, eNot, eIf, callP, callS, aCons, aNil, eTup, eLst, newL, eCall, tTru, truD, kInt, kIntC, S.put, gNm, gTup', gCons', gNil', itS, itL, itT, itR1, itR2, kIx, kSl, eSl, oNone, oSome, kLen, kAbs, kMax2, kMin2, kIntOf, kSorted, kAll, kAny, kTupOf, kLstOf, kIsi, eApp, kApp, eFrz, look, tYes', kNeg, kIs, kIsNot, wipeD, Res.bind, Res.bindS, pf_non, pf_bl, pf_int, pf_str, pf_tup, pf_lst, pf_scr, pfs_nil, pfs_cons, pfF, eqI, neI, eqS, neS, decide_eq_true_eq, kTimes, eM1, eM0, kJoin, kSplit, kUpper, sPut, sPar2, sPar3, eInT, eIxT, itU, cdiv_of, k0]
        · simp [runP, runS, sSeq, sExpr, sRet, sRetN, sSet, sIf, sNil, sRaise, sBrk, sCnt, sFor, sAsg, sAug, eVar, eC, e2, e1, eChain, bOf, tAnd', tOr', tNot', eAnd, eOr, eNot, eIf, callP, callS, aCons, aNil, eTup, eLst, newL, eCall, tTru, truD, kInt, kIntC, S.put, gNm, gTup', gCons', gNil', itS, itL, itT, itR1, itR2, kIx, kSl, eSl, oNone, oSome, kLen, kAbs, kMax2, kMin2, kIntOf, kSorted, kAll, kAny, kTupOf, kLstOf, kIsi, eApp, kApp, eFrz, look, tYes', kNeg, kIs, kIsNot, wipeD, Res.bind, Res.bindS, pf_non, pf_bl, pf_int, pf_str, pf_tup, pf_lst, pf_scr, pfs_nil, pfs_cons, pfF, eqI, neI, eqS, neS, decide_eq_true_eq, kTimes, eM1, eM0, kJoin, kSplit, kUpper, sPut, sPar2, sPar3, eInT, eIxT, itU, cdiv_of, hn, st]
        · simp [runP, runS, sSeq, sExpr, sRet, sRetN, sSet, sIf, sNil, sRaise, sBrk, sCnt, sFor, sAsg, sAug, eVar, eC, e2, e1, eChain, bOf, tAnd', tOr', tNot', eAnd, eOr, eNot, eIf, callP, callS, aCons, aNil, eTup, eLst, newL, eCall, tTru, truD, kInt, kIntC, S.put, gNm, gTup', gCons', gNil', itS, itL, itT, itR1, itR2, kIx, kSl, eSl, oNone, oSome, kLen, kAbs, kMax2, kMin2, kIntOf, kSorted, kAll, kAny, kTupOf, kLstOf, kIsi, eApp, kApp, eFrz, look, tYes', kNeg, kIs, kIsNot, wipeD, Res.bind, Res.bindS, pf_non, pf_bl, pf_int, pf_str, pf_tup, pf_lst, pf_scr, pfs_nil, pfs_cons, pfF, eqI, neI, eqS, neS, decide_eq_true_eq, kTimes, eM1, eM0, kJoin, kSplit, kUpper, sPut, sPar2, sPar3, eInT, eIxT, itU, cdiv_of, c1, st]
        · exact set_to (s1 := st) (e2_to (s1 := st) (a := .str ⟨#[ltr (b % 36)]⟩) (by simp [runP, runS, sSeq, sExpr, sRet, sRetN, sSet, sIf, sNil, sRaise, sBrk, sCnt, sFor, sAsg, sAug, eVar, eC, e2, e1, eChain, bOf, tAnd', tOr', tNot', eAnd, eOr, eNot, eIf, callP, callS, aCons, aNil, eTup, eLst, newL, eCall, tTru, truD, kInt, kIntC, S.put, gNm, gTup', gCons', gNil', itS, itL, itT, itR1, itR2, kIx, kSl, eSl, oNone, oSome, kLen, kAbs, kMax2, kMin2, kIntOf, kSorted, kAll, kAny, kTupOf, kLstOf, kIsi, eApp, kApp, eFrz, look, tYes', kNeg, kIs, kIsNot, wipeD, Res.bind, Res.bindS, pf_non, pf_bl, pf_int, pf_str, pf_tup, pf_lst, pf_scr, pfs_nil, pfs_cons, pfF, eqI, neI, eqS, neS, decide_eq_true_eq, kTimes, eM1, eM0, kJoin, kSplit, kUpper, sPut, sPar2, sPar3, eInT, eIxT, itU, st, l0, w0]) hz pl)
      by_cases c9 : b % 9 = 0
      · have ws : w.length ≤ sizeLine := by rw [sizeLine_eq]; omega
        have z1 := cutS_length w none (some 2)
        have z2 := cutS_length w (some 2) none
        have zu : ("_" : Str).length = 1 := by decide +kernel
        have p1 := plus_str (m := false) (x := cutS w none (some 2)) (y := "_") (s := st7) (by omega)
        have p2 := plus_str (m := false) (x := cutS w none (some 2) ++ "_") (y := cutS w (some 2) none) (s := st7) (by rw [app_len]; omega)
        have lu : Lets "_" := fun c hc => by
          rw [show tl ("_" : Str) = [95] by decide +kernel] at hc
          have : c = 95 := by simpa using hc
          rw [this]
          decide
        refine ⟨cutS w none (some 2) ++ "_" ++ cutS w (some 2) none, st7, ⟨fun e => ?_, by rw [app_len, app_len]; omega, ((lw.cut _ _).app lu).app (lw.cut _ _)⟩, pre _ _ (go _ _ (seq_rt (if_yes (s1 := st7) ?_ (ret_to ?_))))⟩
        · have : (tl (cutS w none (some 2) ++ "_" ++ cutS w (some 2) none)).length = 0 := by rw [e]; rfl
          rw [← len_tl, app_len, app_len] at this
          omega
        · simp [runP, runS, sSeq, sExpr, sRet, sRetN, sSet, sIf, sNil, sRaise, sBrk, sCnt, sFor, sAsg, sAug, eVar, eC, e2, e1, eChain, bOf, tAnd', tOr', tNot', eAnd, eOr, eNot, eIf, callP, callS, aCons, aNil, eTup, eLst, newL, eCall, tTru, truD, kInt, kIntC, S.put, gNm, gTup', gCons', gNil', itS, itL, itT, itR1, itR2, kIx, kSl, eSl, oNone, oSome, kLen, kAbs, kMax2, kMin2, kIntOf, kSorted, kAll, kAny, kTupOf, kLstOf, kIsi, eApp, kApp, eFrz, look, tYes', kNeg, kIs, kIsNot, wipeD, Res.bind, Res.bindS, pf_non, pf_bl, pf_int, pf_str, pf_tup, pf_lst, pf_scr, pfs_nil, pfs_cons, pfF, eqI, neI, eqS, neS, decide_eq_true_eq, kTimes, eM1, eM0, kJoin, kSplit, kUpper, sPut, sPar2, sPar3, eInT, eIxT, itU, st7, c9]
        · simp [runP, runS, sSeq, sExpr, sRet, sRetN, sSet, sIf, sNil, sRaise, sBrk, sCnt, sFor, sAsg, sAug, eVar, eC, e2, e1, eChain, bOf, tAnd', tOr', tNot', eAnd, eOr, eNot, eIf, callP, callS, aCons, aNil, eTup, eLst, newL, eCall, tTru, truD, kInt, kIntC, S.put, gNm, gTup', gCons', gNil', itS, itL, itT, itR1, itR2, kIx, kSl, eSl, oNone, oSome, kLen, kAbs, kMax2, kMin2, kIntOf, kSorted, kAll, kAny, kTupOf, kLstOf, kIsi, eApp, kApp, eFrz, look, tYes', kNeg, kIs, kIsNot, wipeD, Res.bind, Res.bindS, pf_non, pf_bl, pf_int, pf_str, pf_tup, pf_lst, pf_scr, pfs_nil, pfs_cons, pfF, eqI, neI, eqS, neS, decide_eq_true_eq, kTimes, eM1, eM0, kJoin, kSplit, kUpper, sPut, sPar2, sPar3, eInT, eIxT, itU, ws, p1, p2, st7] at p1 p2 ⊢
      · refine ⟨w, st7, ⟨fun e => ?_, by omega, lw⟩, pre _ _ (go _ _ (seq_to (s' := st7) (if_no (s1 := st7) ?_ rfl) (ret_to rfl)))⟩
        · have : (tl w).length = 0 := by rw [e]; rfl
          rw [← len_tl] at this
          omega
        · simp [runP, runS, sSeq, sExpr, sRet, sRetN, sSet, sIf, sNil, sRaise, sBrk, sCnt, sFor, sAsg, sAug, eVar, eC, e2, e1, eChain, bOf, tAnd', tOr', tNot', eAnd, eOr, eNot, eIf, callP, callS, aCons, aNil, eTup, eLst, newL, eCall, tTru, truD, kInt, kIntC, S.put, gNm, gTup', gCons', gNil', itS, itL, itT, itR1, itR2, kIx, kSl, eSl, oNone, oSome, kLen, kAbs, kMax2, kMin2, kIntOf, kSorted, kAll, kAny, kTupOf, kLstOf, kIsi, eApp, kApp, eFrz, look, tYes', kNeg, kIs, kIsNot, wipeD, Res.bind, Res.bindS, pf_non, pf_bl, pf_int, pf_str, pf_tup, pf_lst, pf_scr, pfs_nil, pfs_cons, pfF, eqI, neI, eqS, neS, decide_eq_true_eq, kTimes, eM1, eM0, kJoin, kSplit, kUpper, sPut, sPar2, sPar3, eInT, eIxT, itU, st7, c9]
end
end K57

set_option Elab.async false
set_option linter.all false
set_option maxRecDepth 100000
namespace K57
open PySem PyProof.Rows PySem.Spec L2 VL TL
noncomputable section
/-! ### splitting -/
theorem spl_len : ∀ (l acc : List Nat), (spl [32] 0 acc l).length ≤ l.length + 1
  | [], acc => by rw [spl_nil]; exact Nat.le_refl _
  | c :: r, acc => by
    by_cases h : c = 32
    · subst h
      rw [spl_hit (by rfl)]
      have := spl_len r []
      simp only [List.length_cons, List.length_nil, Nat.zero_add, Nat.sub_self]
      omega
    · rw [spl_miss (pre_of_head _ _ h)]
      have := spl_len r (acc ++ [c])
      simp only [List.length_cons]
      omega
theorem spl_mem : ∀ (l acc : List Nat), ∀ p ∈ spl [32] 0 acc l, ∀ c ∈ p, c ∈ acc ∨ c ∈ l
  | [], acc, p, hp, c, hc => by
    rw [spl_nil] at hp
    have : p = acc := by simpa using hp
    subst this
    exact .inl hc
  | d :: r, acc, p, hp, c, hc => by
    by_cases h : d = 32
    · subst h
      rw [spl_hit (by rfl)] at hp
      rcases List.mem_cons.mp hp with e | m
      · subst e
        exact .inl hc
      · rcases spl_mem r [] p m c hc with z | z
        · cases z
        · exact .inr (List.mem_cons_of_mem _ z)
    · rw [spl_miss (pre_of_head _ _ h)] at hp
      rcases spl_mem r (acc ++ [d]) p hp c hc with z | z
      · rcases List.mem_append.mp z with y | y
        · exact .inl y
        · exact .inr (by rw [List.mem_singleton.mp y]; exact List.mem_cons_self)
      · exact .inr (List.mem_cons_of_mem _ z)
def notEmpty : D → Bool
  | .str z => !decide (z = "")
  | _ => false
theorem tl_empty (z : Str) : (z = "") ↔ tl z = [] := by
  constructor
  · intro e
    subst e
    decide +kernel
  · intro e
    refine ext_tl ?_
    rw [e]
    decide +kernel
theorem split_ok {x : Str} (hx : ∀ c ∈ tl x, c < 128) (hl : x.length ≤ 100000) {ws : List Str} (h : ws.map tl = wordsOf (tl x)) : F_split_words [.str x] = .ok (.lst (ws.map D.str)) := by
  have hs := split_spl x " " (by decide +kernel) (kind_ok (by decide +kernel))
  have hsp : tl (" " : Str) = [32] := by decide +kernel
  rw [hsp] at hs
  have hlen : (Txt.split x " ").length ≤ x.length + 1 := by
    have := spl_len (tl x) []
    rw [← hs, List.length_map, ← len_tl] at this
    exact this
  have hok : ∀ z ∈ Txt.split x " ", PyData.strOk z = true := fun z hz => by
    show z.cps.all (· < 0x110000) = true
    rw [← Array.all_toList, List.all_eq_true]
    intro c hc
    have m : tl z ∈ spl [32] 0 [] (tl x) := by
      rw [← hs]
      exact List.mem_map_of_mem hz
    rcases spl_mem _ _ _ m c hc with y | y
    · cases y
    · have := hx c y
      exact decide_eq_true (by omega)
  have k0 : PyData.strOk "" = true := by decide +kernel
  have ew : (Txt.split x " ").filter (fun z : Str => !decide (z = "")) = ws := by
    apply map_tl_inj
    rw [h, ← split_words_tl, List.filter_map]
    congr 1
    apply List.filter_congr
    intro z _
    have := tl_empty z
    show (!decide (z = "")) = !(tl z).isEmpty
    by_cases c : z = ""
    · rw [decide_eq_true c, this.mp c]
      rfl
    · rw [decide_eq_false c]
      cases e : tl z with
      | nil => exact absurd (this.mpr e) c
      | cons a r => rfl
  have e := lcGo_map (g := gNm 1) (tt := bOf (e2 kNe (eVar 1) (eC (D.str "")))) (fe := eVar 1) (ρ := [some (.str x), none]) (η := []) notEmpty id ((Txt.split x " ").map D.str) [] (by rw [List.length_map, sizeLine_eq]; simp; omega) (fun d hd => by
    obtain ⟨z, hz, rfl⟩ := List.mem_map.mp hd
    refine ⟨⟨[some (.str x), some (.str z)], []⟩, ⟨[some (.str x), some (.str z)], []⟩, rfl, ?_, rfl, fun _ => ⟨⟨[some (.str x), some (.str z)], []⟩, rfl, rfl⟩⟩
    have y := neS (s := ⟨[some (.str x), some (.str z)], []⟩) (x := z) (y := "") (by simpa [PyData.canLay0] using hok z hz) (by simpa [PyData.canLay0] using k0)
    simp [runP, runS, sSeq, sExpr, sRet, sRetN, sSet, sIf, sNil, sRaise, sBrk, sCnt, sFor, sAsg, sAug, eVar, eC, e2, e1, eChain, bOf, tAnd', tOr', tNot', eAnd, eOr, eNot, eIf, callP, callS, aCons, aNil, eTup, eLst, newL, eCall, tTru, truD, kInt, kIntC, S.put, gNm, gTup', gCons', gNil', itS, itL, itT, itR1, itR2, kIx, kSl, eSl, oNone, oSome, kLen, kAbs, kMax2, kMin2, kIntOf, kSorted, kAll, kAny, kTupOf, kLstOf, kIsi, eApp, kApp, eFrz, look, tYes', kNeg, kIs, kIsNot, wipeD, Res.bind, Res.bindS, pf_non, pf_bl, pf_int, pf_str, pf_tup, pf_lst, pf_scr, pfs_nil, pfs_cons, pfF, eqI, neI, eqS, neS, decide_eq_true_eq, kTimes, eM1, eM0, kJoin, kSplit, kUpper, sPut, sPar2, sPar3, eInT, eIxT, itU, y, notEmpty])
  rw [List.map_id, List.filter_map, List.nil_append] at e
  have e2' : (notEmpty ∘ D.str) = fun z : Str => !decide (z = "") := rfl
  rw [e2', ew] at e
  have hb : ((" " : Str).length == 0) = false ∧ x.length + 2 ≤ sizeLine := ⟨by decide +kernel, by rw [sizeLine_eq]; omega⟩
  have hi : itU (eM1 (kSplit false) (eVar 0) (eC (D.str " "))) ⟨[some (.str x), none], []⟩ = .ok ((Txt.split x " ").map D.str) ⟨[some (.str x), none], []⟩ := by
    simp only [itU, eM1, eVar, eC, List.getElem?_cons_zero, bind_ok, look, kSplit, hb, and_self, if_true, newL, Bool.false_eq_true, if_false]
  have e3 := lc_to (m := false) (vs := [1]) hi e
  unfold F_split_words b_split_words
  refine runP_rt (ret_to e3) ?_
  rw [pf_lst]
  exact Oks.pf
end
end K57

set_option Elab.async false
set_option linter.all false
set_option maxRecDepth 100000
namespace K57
open PySem PyProof.Rows PySem.Spec L2 VL TL
noncomputable section
theorem runS_rt {n : Nat} {g : VS} {ds : List D} {η : List Cell} {d : D} {s' : S} (h : g ⟨ds.map some ++ List.replicate (n - ds.length) none, η⟩ = .rt d s') : runS n g ds η = .ok d s'.η := by rw [runS, h]
theorem pick_at {L : List Str} {i : Int} (h : 0 ≤ i ∧ i < L.length) : ∃ w, w ∈ L ∧ atI (L.map D.str) i = some (.str w) := by
  obtain ⟨n, rfl⟩ := Int.eq_ofNat_of_zero_le h.1
  have hn : n < L.length := by omega
  exact ⟨L[n], List.getElem_mem hn, atI_nat (by rw [List.getElem?_map, List.getElem?_eq_getElem hn]; rfl)⟩
theorem comp_filter {G : PF} {p : Str → Bool} (hG : ∀ w, Ok w → G [.str w] = .ok (.bl (p w))) {ws : List Str} (h : Oks ws) (N : D) (q2 q3 : Option D) (η : List Cell) :
    eLc false [6] (gNm 6) (itU (eVar 1)) (tTru (callP G (aCons (eVar 6) aNil))) (eVar 6) ⟨[some N, some (.lst (ws.map D.str)), q2, q3, none, none, none, none], η⟩ = .ok (.lst ((ws.filter p).map D.str)) ⟨[some N, some (.lst (ws.map D.str)), q2, q3, none, none, none, none], η⟩ := by
  have e := lcGo_map (g := gNm 6) (tt := tTru (callP G (aCons (eVar 6) aNil))) (fe := eVar 6) (ρ := [some N, some (.lst (ws.map D.str)), q2, q3, none, none, none, none]) (η := η) (fun d => match d with
    | .str w => p w
    | _ => false) id (ws.map D.str) [] (by have := h.2; rw [List.length_map, sizeLine_eq]; simp; omega) (fun d hd => by
    obtain ⟨w, hw, rfl⟩ := List.mem_map.mp hd
    have g := hG w (h.1 w hw)
    refine ⟨⟨[some N, some (.lst (ws.map D.str)), q2, q3, none, none, some (.str w), none], η⟩, ⟨[some N, some (.lst (ws.map D.str)), q2, q3, none, none, some (.str w), none], η⟩, rfl, ?_, rfl, fun _ => ⟨⟨[some N, some (.lst (ws.map D.str)), q2, q3, none, none, some (.str w), none], η⟩, rfl, rfl⟩⟩
    simp [runP, runS, sSeq, sExpr, sRet, sRetN, sSet, sIf, sNil, sRaise, sBrk, sCnt, sFor, sAsg, sAug, eVar, eC, e2, e1, eChain, bOf, tAnd', tOr', tNot', eAnd, eOr, eNot, eIf, callP, callS, aCons, aNil, eTup, eLst, newL, eCall, tTru, truD, kInt, kIntC, S.put, gNm, gTup', gCons', gNil', itS, itL, itT, itR1, itR2, kIx, kSl, eSl, oNone, oSome, kLen, kAbs, kMax2, kMin2, kIntOf, kSorted, kAll, kAny, kTupOf, kLstOf, kIsi, eApp, kApp, eFrz, look, tYes', kNeg, kIs, kIsNot, wipeD, Res.bind, Res.bindS, pf_non, pf_bl, pf_int, pf_str, pf_tup, pf_lst, pf_scr, pfs_nil, pfs_cons, pfF, eqI, neI, eqS, neS, decide_eq_true_eq, kTimes, eM1, eM0, kJoin, kSplit, kUpper, sPut, sPar2, sPar3, eInT, eIxT, itU, g])
  rw [List.map_id, List.filter_map, List.nil_append] at e
  exact lc_to (m := false) (vs := [6]) (it := itU (eVar 1)) (s := ⟨[some N, some (.lst (ws.map D.str)), q2, q3, none, none, none, none], η⟩) rfl e
/-- at least three -/
theorem three {A : List Str} {x y z : Str} : ∃ n0 n1 n2 R, A ++ [x, y, z] = n0 :: n1 :: n2 :: R := by
  match A with
  | [] => exact ⟨_, _, _, _, rfl⟩
  | [a] => exact ⟨_, _, _, _, rfl⟩
  | [a, b] => exact ⟨_, _, _, _, rfl⟩
  | a :: b :: c :: r => exact ⟨_, _, _, _, rfl⟩
theorem lit (w : Str) (h : okB w = true) : Ok w := Ok.of h
/-- figures by turns -/
def figs (F : List Str) (m : Nat) : List Str := (List.range m).map fun k => F.getD (k % F.length) "0"
theorem figs_ok {F : List Str} (hF : ∀ w ∈ F, Ok w) (m : Nat) : ∀ w ∈ figs F m, Ok w := fun w hw => by
  obtain ⟨k, _, rfl⟩ := List.mem_map.mp hw
  rw [List.getD_eq_getElem?_getD]
  cases e : F[k % F.length]? with
  | none => exact lit "0" (by decide +kernel)
  | some x => exact hF x (List.mem_of_getElem? e)
theorem figs_comp {F : List Str} (hF : 0 < F.length) {m : Nat} (hm : m < 8) (ρ0 : List (Option D)) (η : List Cell) (h8 : ρ0.length = 8) (h3 : ρ0[3]? = some (some (.lst (F.map D.str)))) (h4 : ρ0[4]? = some (some (.int m))) :
    eLc false [7] (gNm 7) (itR1 (aCons (eVar 4) aNil)) tYes' (e2 kIx (eVar 3) (e2 kMod (eVar 7) (eCall kLen (aCons (eVar 3) aNil)))) ⟨ρ0, η⟩ = .ok (.lst ((figs F m).map D.str)) ⟨ρ0, η⟩ := by
  have e := lcGo_all (g := gNm 7) (fe := e2 kIx (eVar 3) (e2 kMod (eVar 7) (eCall kLen (aCons (eVar 3) aNil)))) (ρ := ρ0.set 7 none) (η := η) (fun d => match d with
    | .int k => .str (F.getD (k.toNat % F.length) "0")
    | _ => .non) (rgD 0 m) [] (by rw [rgD_len, sizeLine_eq]; simp; omega) (fun d hd => by
      obtain ⟨i, hi, rfl⟩ := rgD_mem hd
      rw [Int.zero_add]
      have a3 : ((ρ0.set 7 none).set 7 (some (.int (i : Int))))[3]? = some (some (.lst (F.map D.str))) := by
        rw [List.getElem?_set_ne (by decide), List.getElem?_set_ne (by decide), h3]
      have a7 : ((ρ0.set 7 none).set 7 (some (.int (i : Int))))[7]? = some (some (.int (i : Int))) := by
        rw [List.getElem?_set_self (by rw [List.length_set, h8]; decide)]
      have hk : i % F.length < F.length := Nat.mod_lt _ hF
      have at_ : atI (F.map D.str) ((i : Int) % (F.length : Int)) = some (.str (F.getD (i % F.length) "0")) := by
        rw [← Int.natCast_emod]
        refine atI_nat ?_
        rw [List.getElem?_map, List.getD_eq_getElem?_getD, List.getElem?_eq_getElem hk]
        rfl
      have hp : (0 : Int) < (F.length : Int) := by omega
      refine ⟨⟨(ρ0.set 7 none).set 7 (some (.int (i : Int))), η⟩, ⟨(ρ0.set 7 none).set 7 (some (.int (i : Int))), η⟩, rfl, ?_, rfl, rfl⟩
      have hl : (F.map D.str).length = F.length := by simp
      generalize (ρ0.set 7 none).set 7 (some (D.int (i : Int))) = ρ1 at a3 a7 ⊢
      generalize F.map D.str = FD at a3 at_ hl ⊢
      have hp2 : (0 : Int) < (FD.length : Int) := by omega
      rw [← hl] at at_
      simp [runP, runS, sSeq, sExpr, sRet, sRetN, sSet, sIf, sNil, sRaise, sBrk, sCnt, sFor, sAsg, sAug, eVar, eC, e2, e1, eChain, bOf, tAnd', tOr', tNot', eAnd, eOr, eNot, eIf, callP, callS, aCons, aNil, eTup, eLst, newL, eCall, tTru, truD, kInt, kIntC, S.put, gNm, gTup', gCons', gNil', itS, itL, itT, itR1, itR2, kIx, kSl, eSl, oNone, oSome, kLen, kAbs, kMax2, kMin2, kIntOf, kSorted, kAll, kAny, kTupOf, kLstOf, kIsi, eApp, kApp, eFrz, look, tYes', kNeg, kIs, kIsNot, wipeD, Res.bind, Res.bindS, pf_non, pf_bl, pf_int, pf_str, pf_tup, pf_lst, pf_scr, pfs_nil, pfs_cons, pfF, eqI, neI, eqS, neS, decide_eq_true_eq, kTimes, eM1, eM0, kJoin, kSplit, kUpper, sPut, sPar2, sPar3, eInT, eIxT, itU, a3, a7, hp2, hl, at_, hF]
      rw [hl] at at_
      simp [at_])
  rw [rgD_map, List.nil_append] at e
  have e4 : ((List.range m).map fun i : Nat => D.str (F.getD (((i : Int)).toNat % F.length) "0")) = (figs F m).map D.str := by
    rw [figs, List.map_map]
    rfl
  dsimp only at e
  rw [e4] at e
  have hi : itR1 (aCons (eVar 4) aNil) ⟨ρ0, η⟩ = .ok (rgD 0 m) ⟨ρ0, η⟩ := r1_to m (i := (m : Int)) (by simp only [aCons, aNil, eVar, h4, bind_ok]) rfl (by omega)
  exact lc_to (m := false) (vs := [7]) hi e
abbrev abc : List Str := ["a", "b", "c"]
abbrev dgs : List Str := ["0", "7", "12"]
theorem plus_map {m : Bool} {x y : List Str} {s : S} (h : x.length + y.length ≤ 1000) : kPlus m (.lst (x.map D.str)) (.lst (y.map D.str)) s = newL m ((x ++ y).map D.str) s := by
  rw [plus_lst (by rw [List.length_map, List.length_map]; omega), List.map_append]
theorem formed_ok {l : List Int} (hl : l.length = 60) (hn : Nums l) {ws : List Str} (h : Oks ws) (h8 : ws.length ≤ 8) (η : List Cell) : ∃ ws' : List Str, (∀ w ∈ ws', Ok w) ∧ ws' ≠ [] ∧ ws'.length ≤ 11 ∧
    F__law_formed [.lst (l.map D.int), .lst (ws.map D.str)] η = .ok (.ptr η.length) (η ++ [.lst (ws'.map D.str)]) := by
  obtain ⟨x43, h43, b43⟩ : ∃ x, atI (l.map D.int) 43 = some (.int x) ∧ 0 ≤ x := ⟨l[43], atI_nat (j := 43) (by rw [List.getElem?_map, List.getElem?_eq_getElem (by omega)]; rfl), (hn _ (List.getElem_mem (by omega))).1⟩
  obtain ⟨x42, h42, b42⟩ : ∃ x, atI (l.map D.int) 42 = some (.int x) ∧ 0 ≤ x := ⟨l[42], atI_nat (j := 42) (by rw [List.getElem?_map, List.getElem?_eq_getElem (by omega)]; rfl), (hn _ (List.getElem_mem (by omega))).1⟩
  obtain ⟨m, hm, m8⟩ : ∃ m : Nat, x43 % 8 = m ∧ m < 8 := ⟨(x43 % 8).toNat, by omega, by omega⟩
  obtain ⟨k, hk, k12⟩ : ∃ k : Nat, x42 % 12 = k ∧ k < 12 := ⟨(x42 % 12).toNat, by omega, by omega⟩
  generalize l.map D.int = N at h43 h42 ⊢
  obtain ⟨NS, eN⟩ : ∃ NS, ws.filter isName ++ abc = NS := ⟨_, rfl⟩
  obtain ⟨FG, eF⟩ : ∃ FG, ws.filter isNumber ++ dgs = FG := ⟨_, rfl⟩
  have okN : ∀ w ∈ NS, Ok w := fun w hw => by
    rw [← eN] at hw
    rcases List.mem_append.mp hw with z | z
    · exact h.1 w ((List.mem_filter.mp z).1)
    · simp only [List.mem_cons, List.not_mem_nil, or_false] at z
      rcases z with rfl | rfl | rfl <;> exact lit _ (by decide +kernel)
  have okF : ∀ w ∈ FG, Ok w := fun w hw => by
    rw [← eF] at hw
    rcases List.mem_append.mp hw with z | z
    · exact h.1 w ((List.mem_filter.mp z).1)
    · simp only [List.mem_cons, List.not_mem_nil, or_false] at z
      rcases z with rfl | rfl | rfl <;> exact lit _ (by decide +kernel)
  have lN := List.length_filter_le isName ws
  have lF := List.length_filter_le isNumber ws
  have cN := comp_filter (fun w => law_is_name_ok) h (.lst N) none none η
  have pN := fun s => plus_map (m := false) (x := ws.filter isName) (y := abc) (s := s) (by simp; omega)
  rw [eN] at pN
  have cF := comp_filter (fun w => law_is_number_ok) h (.lst N) (some (.lst (NS.map D.str))) none η
  have pF := fun s => plus_map (m := false) (x := ws.filter isNumber) (y := dgs) (s := s) (by simp; omega)
  rw [eF] at pF
  have FGpos : 0 < FG.length := by rw [← eF]; simp
  obtain ⟨n0, n1, n2, R, eNS⟩ := three (A := ws.filter isName) (x := "a") (y := "b") (z := "c")
  rw [eN] at eNS
  have a0 : atI (NS.map D.str) 0 = some (.str n0) := by rw [eNS]; exact at_0 _ _
  have a1 : atI (NS.map D.str) 1 = some (.str n1) := by rw [eNS]; exact at_1 _ _ _
  have a2 : atI (NS.map D.str) 2 = some (.str n2) := by rw [eNS]; exact at_2 _ _ _ _
  obtain ⟨f0, f1, f2, RF, eFG⟩ := three (A := ws.filter isNumber) (x := "0") (y := "7") (z := "12")
  rw [eF] at eFG
  have g0 : atI (FG.map D.str) 0 = some (.str f0) := by rw [eFG]; exact at_0 _ _
  have g1 : atI (FG.map D.str) 1 = some (.str f1) := by rw [eFG]; exact at_1 _ _ _
  have on0 : Ok n0 := okN _ (by rw [eNS]; simp)
  have on1 : Ok n1 := okN _ (by rw [eNS]; simp)
  have on2 : Ok n2 := okN _ (by rw [eNS]; simp)
  have of0 : Ok f0 := okF _ (by rw [eFG]; simp)
  have of1 : Ok f1 := okF _ (by rw [eFG]; simp)
  let s4 : S := ⟨[some (.lst N), some (.lst (ws.map D.str)), some (.lst (NS.map D.str)), some (.lst (FG.map D.str)), some (.int m), some (.int k), none, none], η⟩
  have comp := figs_comp (m := m) FGpos m8 s4.ρ η rfl rfl rfl
  suffices hs : ∃ ws' : List Str, (∀ w ∈ ws', Ok w) ∧ ws' ≠ [] ∧ ws'.length ≤ 11 ∧ b__law_formed ⟨[D.lst N, D.lst (ws.map D.str)].map some ++ List.replicate (8 - [D.lst N, D.lst (ws.map D.str)].length) none, η⟩ = .rt (.ptr η.length) ⟨s4.ρ, η ++ [.lst (ws'.map D.str)]⟩ by
    obtain ⟨ws', w1, w2, w3, w4⟩ := hs
    exact ⟨ws', w1, w2, w3, runS_rt w4⟩
  have go : ∀ g r, g s4 = r → (sSeq (sSet 2 (e2 (kPlus false) (eLc false [6] (gNm 6) (itU (eVar 1)) (tTru (callP F__law_is_name (aCons (eVar 6) aNil))) (eVar 6)) (eLst false (aCons (eC (D.str "a")) (aCons (eC (D.str "b")) (aCons (eC (D.str "c")) aNil))))))
      (sSeq (sSet 3 (e2 (kPlus false) (eLc false [6] (gNm 6) (itU (eVar 1)) (tTru (callP F__law_is_number (aCons (eVar 6) aNil))) (eVar 6)) (eLst false (aCons (eC (D.str "0")) (aCons (eC (D.str "7")) (aCons (eC (D.str "12")) aNil))))))
      (sSeq (sSet 4 (e2 kMod (eCall kIntOf (aCons (e2 kIx (eVar 0) (eC (D.int 43))) aNil)) (eC (D.int 8))))
      (sSeq (sSet 5 (e2 kMod (eCall kIntOf (aCons (e2 kIx (eVar 0) (eC (D.int 42))) aNil)) (eC (D.int 12)))) g))))
      ⟨[some (.lst N), some (.lst (ws.map D.str)), none, none, none, none, none, none], η⟩ = r := fun g r hg => by
    have v1 : ∀ s, (eLst false (aCons (eC (D.str "a")) (aCons (eC (D.str "b")) (aCons (eC (D.str "c")) aNil)))) s = .ok (.lst (abc.map D.str)) s := fun s => by simp [runP, runS, sSeq, sExpr, sRet, sRetN, sSet, sIf, sNil, sRaise, sBrk, sCnt, sFor, sAsg, sAug, eVar, eC, e2, e1, eChain, bOf, tAnd', tOr', tNot', eAnd, eOr, eNot, eIf, callP, callS, aCons, aNil, eTup, eLst, newL, eCall, tTru, truD, kInt, kIntC, S.put, gNm, gTup', gCons', gNil', itS, itL, itT, itR1, itR2, kIx, kSl, eSl, oNone, oSome, kLen, kAbs, kMax2, kMin2, kIntOf, kSorted, kAll, kAny, kTupOf, kLstOf, kIsi, eApp, kApp, eFrz, look, tYes', kNeg, kIs, kIsNot, wipeD, Res.bind, Res.bindS, pf_non, pf_bl, pf_int, pf_str, pf_tup, pf_lst, pf_scr, pfs_nil, pfs_cons, pfF, eqI, neI, eqS, neS, decide_eq_true_eq, kTimes, eM1, eM0, kJoin, kSplit, kUpper, sPut, sPar2, sPar3, eInT, eIxT, itU, sizeLine_eq, newL]
    have v2 : ∀ s, (eLst false (aCons (eC (D.str "0")) (aCons (eC (D.str "7")) (aCons (eC (D.str "12")) aNil)))) s = .ok (.lst (dgs.map D.str)) s := fun s => by simp [runP, runS, sSeq, sExpr, sRet, sRetN, sSet, sIf, sNil, sRaise, sBrk, sCnt, sFor, sAsg, sAug, eVar, eC, e2, e1, eChain, bOf, tAnd', tOr', tNot', eAnd, eOr, eNot, eIf, callP, callS, aCons, aNil, eTup, eLst, newL, eCall, tTru, truD, kInt, kIntC, S.put, gNm, gTup', gCons', gNil', itS, itL, itT, itR1, itR2, kIx, kSl, eSl, oNone, oSome, kLen, kAbs, kMax2, kMin2, kIntOf, kSorted, kAll, kAny, kTupOf, kLstOf, kIsi, eApp, kApp, eFrz, look, tYes', kNeg, kIs, kIsNot, wipeD, Res.bind, Res.bindS, pf_non, pf_bl, pf_int, pf_str, pf_tup, pf_lst, pf_scr, pfs_nil, pfs_cons, pfF, eqI, neI, eqS, neS, decide_eq_true_eq, kTimes, eM1, eM0, kJoin, kSplit, kUpper, sPut, sPar2, sPar3, eInT, eIxT, itU, sizeLine_eq, newL]
    refine seq_to (s' := ⟨[some (.lst N), some (.lst (ws.map D.str)), some (.lst (NS.map D.str)), none, none, none, none, none], η⟩) (set_to (s1 := ⟨[some (.lst N), some (.lst (ws.map D.str)), none, none, none, none, none, none], η⟩) (e2_to cN (v1 _) (pN _))) <|
      seq_to (s' := ⟨[some (.lst N), some (.lst (ws.map D.str)), some (.lst (NS.map D.str)), some (.lst (FG.map D.str)), none, none, none, none], η⟩) (set_to (s1 := ⟨[some (.lst N), some (.lst (ws.map D.str)), some (.lst (NS.map D.str)), none, none, none, none, none], η⟩) (e2_to cF (v2 _) (pF _))) <|
      seq_to (s' := ⟨[some (.lst N), some (.lst (ws.map D.str)), some (.lst (NS.map D.str)), some (.lst (FG.map D.str)), some (.int m), none, none, none], η⟩) ?_ <| seq_to (s' := s4) ?_ hg
    · simp [runP, runS, sSeq, sExpr, sRet, sRetN, sSet, sIf, sNil, sRaise, sBrk, sCnt, sFor, sAsg, sAug, eVar, eC, e2, e1, eChain, bOf, tAnd', tOr', tNot', eAnd, eOr, eNot, eIf, callP, callS, aCons, aNil, eTup, eLst, newL, eCall, tTru, truD, kInt, kIntC, S.put, gNm, gTup', gCons', gNil', itS, itL, itT, itR1, itR2, kIx, kSl, eSl, oNone, oSome, kLen, kAbs, kMax2, kMin2, kIntOf, kSorted, kAll, kAny, kTupOf, kLstOf, kIsi, eApp, kApp, eFrz, look, tYes', kNeg, kIs, kIsNot, wipeD, Res.bind, Res.bindS, pf_non, pf_bl, pf_int, pf_str, pf_tup, pf_lst, pf_scr, pfs_nil, pfs_cons, pfF, eqI, neI, eqS, neS, decide_eq_true_eq, kTimes, eM1, eM0, kJoin, kSplit, kUpper, sPut, sPar2, sPar3, eInT, eIxT, itU, h43, hm]
    · simp [runP, runS, sSeq, sExpr, sRet, sRetN, sSet, sIf, sNil, sRaise, sBrk, sCnt, sFor, sAsg, sAug, eVar, eC, e2, e1, eChain, bOf, tAnd', tOr', tNot', eAnd, eOr, eNot, eIf, callP, callS, aCons, aNil, eTup, eLst, newL, eCall, tTru, truD, kInt, kIntC, S.put, gNm, gTup', gCons', gNil', itS, itL, itT, itR1, itR2, kIx, kSl, eSl, oNone, oSome, kLen, kAbs, kMax2, kMin2, kIntOf, kSorted, kAll, kAny, kTupOf, kLstOf, kIsi, eApp, kApp, eFrz, look, tYes', kNeg, kIs, kIsNot, wipeD, Res.bind, Res.bindS, pf_non, pf_bl, pf_int, pf_str, pf_tup, pf_lst, pf_scr, pfs_nil, pfs_cons, pfF, eqI, neI, eqS, neS, decide_eq_true_eq, kTimes, eM1, eM0, kJoin, kSplit, kUpper, sPut, sPar2, sPar3, eInT, eIxT, itU, h42, hk, s4]
  have fiveA : ∃ w, w ∈ five1 ∧ atI (five1.map D.str) ((m : Int) % 5) = some (.str w) := pick_at ⟨by omega, by show (m : Int) % 5 < 5; omega⟩
  have fiveB : ∃ w, w ∈ five2 ∧ atI (five2.map D.str) ((m : Int) % 5) = some (.str w) := pick_at ⟨by omega, by show (m : Int) % 5 < 5; omega⟩
  have two : ∃ w, Ok w ∧ atI [D.str "size", D.str "least"] ((m : Int) % 2) = some (.str w) := by
    have : (m : Int) % 2 = 0 ∨ (m : Int) % 2 = 1 := by omega
    rcases this with e | e <;> rw [e]
    · exact ⟨"size", lit _ (by decide +kernel), rfl⟩
    · exact ⟨"least", lit _ (by decide +kernel), rfl⟩
  obtain ⟨wA, mA, pA⟩ := fiveA
  obtain ⟨wB, mB, pB⟩ := fiveB
  obtain ⟨wC, oC, pC⟩ := two
  have oA : Ok wA := Ok.of ((List.all_eq_true.mp (show five1.all okB = true by decide +kernel)) wA mA)
  have oB : Ok wB := Ok.of ((List.all_eq_true.mp (show five2.all okB = true by decide +kernel)) wB mB)
  have pA : atI [D.str "answers", D.str "systems", D.str "questions", D.str "undo", D.str "redo"] ((m : Int) % 5) = some (.str wA) := pA
  have pB : atI [D.str "system", D.str "remove", D.str "drop", D.str "answer", D.str "print"] ((m : Int) % 5) = some (.str wB) := pB
  have oF := figs_ok okF m
  have lf : (figs FG m).length = m := by rw [figs, List.length_map, List.length_range]
  have t3 : (bOf (e2 kLt (eVar 5) (eC (D.int 3)))) s4 = .ok (decide (k < 3)) s4 := by
    have : ((k : Int) < 3) = (k < 3) := propext (by omega)
    simp [runP, runS, sSeq, sExpr, sRet, sRetN, sSet, sIf, sNil, sRaise, sBrk, sCnt, sFor, sAsg, sAug, eVar, eC, e2, e1, eChain, bOf, tAnd', tOr', tNot', eAnd, eOr, eNot, eIf, callP, callS, aCons, aNil, eTup, eLst, newL, eCall, tTru, truD, kInt, kIntC, S.put, gNm, gTup', gCons', gNil', itS, itL, itT, itR1, itR2, kIx, kSl, eSl, oNone, oSome, kLen, kAbs, kMax2, kMin2, kIntOf, kSorted, kAll, kAny, kTupOf, kLstOf, kIsi, eApp, kApp, eFrz, look, tYes', kNeg, kIs, kIsNot, wipeD, Res.bind, Res.bindS, pf_non, pf_bl, pf_int, pf_str, pf_tup, pf_lst, pf_scr, pfs_nil, pfs_cons, pfF, eqI, neI, eqS, neS, decide_eq_true_eq, kTimes, eM1, eM0, kJoin, kSplit, kUpper, sPut, sPar2, sPar3, eInT, eIxT, itU, s4, this]
  have t5 : (bOf (e2 kLt (eVar 5) (eC (D.int 5)))) s4 = .ok (decide (k < 5)) s4 := by
    have : ((k : Int) < 5) = (k < 5) := propext (by omega)
    simp [runP, runS, sSeq, sExpr, sRet, sRetN, sSet, sIf, sNil, sRaise, sBrk, sCnt, sFor, sAsg, sAug, eVar, eC, e2, e1, eChain, bOf, tAnd', tOr', tNot', eAnd, eOr, eNot, eIf, callP, callS, aCons, aNil, eTup, eLst, newL, eCall, tTru, truD, kInt, kIntC, S.put, gNm, gTup', gCons', gNil', itS, itL, itT, itR1, itR2, kIx, kSl, eSl, oNone, oSome, kLen, kAbs, kMax2, kMin2, kIntOf, kSorted, kAll, kAny, kTupOf, kLstOf, kIsi, eApp, kApp, eFrz, look, tYes', kNeg, kIs, kIsNot, wipeD, Res.bind, Res.bindS, pf_non, pf_bl, pf_int, pf_str, pf_tup, pf_lst, pf_scr, pfs_nil, pfs_cons, pfF, eqI, neI, eqS, neS, decide_eq_true_eq, kTimes, eM1, eM0, kJoin, kSplit, kUpper, sPut, sPar2, sPar3, eInT, eIxT, itU, s4, this]
  have tk : ∀ j : Nat, (bOf (e2 kEq (eVar 5) (eC (D.int j)))) s4 = .ok (decide (k = j)) s4 := fun j => by
    have : ((k : Int) = j) = (k = j) := propext (by omega)
    simp [runP, runS, sSeq, sExpr, sRet, sRetN, sSet, sIf, sNil, sRaise, sBrk, sCnt, sFor, sAsg, sAug, eVar, eC, e2, e1, eChain, bOf, tAnd', tOr', tNot', eAnd, eOr, eNot, eIf, callP, callS, aCons, aNil, eTup, eLst, newL, eCall, tTru, truD, kInt, kIntC, S.put, gNm, gTup', gCons', gNil', itS, itL, itT, itR1, itR2, kIx, kSl, eSl, oNone, oSome, kLen, kAbs, kMax2, kMin2, kIntOf, kSorted, kAll, kAny, kTupOf, kLstOf, kIsi, eApp, kApp, eFrz, look, tYes', kNeg, kIs, kIsNot, wipeD, Res.bind, Res.bindS, pf_non, pf_bl, pf_int, pf_str, pf_tup, pf_lst, pf_scr, pfs_nil, pfs_cons, pfF, eqI, neI, eqS, neS, decide_eq_true_eq, kTimes, eM1, eM0, kJoin, kSplit, kUpper, sPut, sPar2, sPar3, eInT, eIxT, itU, s4, this]
  by_cases k3 : k < 3
  · rw [decide_eq_true k3] at t3
    refine ⟨[wA], fun w hw => by rw [List.mem_singleton.mp hw]; exact oA, by simp, by simp, go _ _ (yes_rt t3 (ret_to ?_))⟩
    simp [runP, runS, sSeq, sExpr, sRet, sRetN, sSet, sIf, sNil, sRaise, sBrk, sCnt, sFor, sAsg, sAug, eVar, eC, e2, e1, eChain, bOf, tAnd', tOr', tNot', eAnd, eOr, eNot, eIf, callP, callS, aCons, aNil, eTup, eLst, newL, eCall, tTru, truD, kInt, kIntC, S.put, gNm, gTup', gCons', gNil', itS, itL, itT, itR1, itR2, kIx, kSl, eSl, oNone, oSome, kLen, kAbs, kMax2, kMin2, kIntOf, kSorted, kAll, kAny, kTupOf, kLstOf, kIsi, eApp, kApp, eFrz, look, tYes', kNeg, kIs, kIsNot, wipeD, Res.bind, Res.bindS, pf_non, pf_bl, pf_int, pf_str, pf_tup, pf_lst, pf_scr, pfs_nil, pfs_cons, pfF, eqI, neI, eqS, neS, decide_eq_true_eq, kTimes, eM1, eM0, kJoin, kSplit, kUpper, sPut, sPar2, sPar3, eInT, eIxT, itU, s4, newL, sizeLine_eq, pA]
  rw [decide_eq_false k3] at t3
  by_cases k5 : k < 5
  · rw [decide_eq_true k5] at t5
    refine ⟨[wB, n0], fun w hw => ?_, by simp, by simp, go _ _ (no_seq t3 (yes_rt t5 (ret_to ?_)))⟩
    · simp only [List.mem_cons, List.not_mem_nil, or_false] at hw
      rcases hw with rfl | rfl <;> assumption
    · simp [runP, runS, sSeq, sExpr, sRet, sRetN, sSet, sIf, sNil, sRaise, sBrk, sCnt, sFor, sAsg, sAug, eVar, eC, e2, e1, eChain, bOf, tAnd', tOr', tNot', eAnd, eOr, eNot, eIf, callP, callS, aCons, aNil, eTup, eLst, newL, eCall, tTru, truD, kInt, kIntC, S.put, gNm, gTup', gCons', gNil', itS, itL, itT, itR1, itR2, kIx, kSl, eSl, oNone, oSome, kLen, kAbs, kMax2, kMin2, kIntOf, kSorted, kAll, kAny, kTupOf, kLstOf, kIsi, eApp, kApp, eFrz, look, tYes', kNeg, kIs, kIsNot, wipeD, Res.bind, Res.bindS, pf_non, pf_bl, pf_int, pf_str, pf_tup, pf_lst, pf_scr, pfs_nil, pfs_cons, pfF, eqI, neI, eqS, neS, decide_eq_true_eq, kTimes, eM1, eM0, kJoin, kSplit, kUpper, sPut, sPar2, sPar3, eInT, eIxT, itU, s4, newL, sizeLine_eq, pB, a0]
  rw [decide_eq_false k5] at t5
  have u15 := tk 5
  by_cases k15 : k = 5
  · rw [decide_eq_true k15] at u15
    refine ⟨["double", n0, n1], fun w hw => ?_, by simp, by simp, go _ _ (no_seq t3 (no_seq t5 (yes_rt u15 (ret_to ?_))))⟩
    · simp only [List.mem_cons, List.not_mem_nil, or_false] at hw
      rcases hw with rfl | rfl | rfl <;> first | assumption | exact lit _ (by decide +kernel)
    · simp [runP, runS, sSeq, sExpr, sRet, sRetN, sSet, sIf, sNil, sRaise, sBrk, sCnt, sFor, sAsg, sAug, eVar, eC, e2, e1, eChain, bOf, tAnd', tOr', tNot', eAnd, eOr, eNot, eIf, callP, callS, aCons, aNil, eTup, eLst, newL, eCall, tTru, truD, kInt, kIntC, S.put, gNm, gTup', gCons', gNil', itS, itL, itT, itR1, itR2, kIx, kSl, eSl, oNone, oSome, kLen, kAbs, kMax2, kMin2, kIntOf, kSorted, kAll, kAny, kTupOf, kLstOf, kIsi, eApp, kApp, eFrz, look, tYes', kNeg, kIs, kIsNot, wipeD, Res.bind, Res.bindS, pf_non, pf_bl, pf_int, pf_str, pf_tup, pf_lst, pf_scr, pfs_nil, pfs_cons, pfF, eqI, neI, eqS, neS, decide_eq_true_eq, kTimes, eM1, eM0, kJoin, kSplit, kUpper, sPut, sPar2, sPar3, eInT, eIxT, itU, s4, newL, sizeLine_eq, a0, a1]
  rw [decide_eq_false k15] at u15
  have u6 := tk 6
  by_cases k6 : k = 6
  · rw [decide_eq_true k6] at u6
    refine ⟨["product", n0, n1, n2], fun w hw => ?_, by simp, by simp, go _ _ (no_seq t3 (no_seq t5 (no_seq u15 (yes_rt u6 (ret_to ?_)))))⟩
    · simp only [List.mem_cons, List.not_mem_nil, or_false] at hw
      rcases hw with rfl | rfl | rfl | rfl <;> first | assumption | exact lit _ (by decide +kernel)
    · simp [runP, runS, sSeq, sExpr, sRet, sRetN, sSet, sIf, sNil, sRaise, sBrk, sCnt, sFor, sAsg, sAug, eVar, eC, e2, e1, eChain, bOf, tAnd', tOr', tNot', eAnd, eOr, eNot, eIf, callP, callS, aCons, aNil, eTup, eLst, newL, eCall, tTru, truD, kInt, kIntC, S.put, gNm, gTup', gCons', gNil', itS, itL, itT, itR1, itR2, kIx, kSl, eSl, oNone, oSome, kLen, kAbs, kMax2, kMin2, kIntOf, kSorted, kAll, kAny, kTupOf, kLstOf, kIsi, eApp, kApp, eFrz, look, tYes', kNeg, kIs, kIsNot, wipeD, Res.bind, Res.bindS, pf_non, pf_bl, pf_int, pf_str, pf_tup, pf_lst, pf_scr, pfs_nil, pfs_cons, pfF, eqI, neI, eqS, neS, decide_eq_true_eq, kTimes, eM1, eM0, kJoin, kSplit, kUpper, sPut, sPar2, sPar3, eInT, eIxT, itU, s4, newL, sizeLine_eq, a0, a1, a2]
  rw [decide_eq_false k6] at u6
  have u7 := tk 7
  by_cases k7 : k = 7
  · rw [decide_eq_true k7] at u7
    refine ⟨["ask", n0, wC, n1], fun w hw => ?_, by simp, by simp, go _ _ (no_seq t3 (no_seq t5 (no_seq u15 (no_seq u6 (yes_rt u7 (ret_to ?_))))))⟩
    · simp only [List.mem_cons, List.not_mem_nil, or_false] at hw
      rcases hw with rfl | rfl | rfl | rfl <;> first | assumption | exact lit _ (by decide +kernel)
    · simp [runP, runS, sSeq, sExpr, sRet, sRetN, sSet, sIf, sNil, sRaise, sBrk, sCnt, sFor, sAsg, sAug, eVar, eC, e2, e1, eChain, bOf, tAnd', tOr', tNot', eAnd, eOr, eNot, eIf, callP, callS, aCons, aNil, eTup, eLst, newL, eCall, tTru, truD, kInt, kIntC, S.put, gNm, gTup', gCons', gNil', itS, itL, itT, itR1, itR2, kIx, kSl, eSl, oNone, oSome, kLen, kAbs, kMax2, kMin2, kIntOf, kSorted, kAll, kAny, kTupOf, kLstOf, kIsi, eApp, kApp, eFrz, look, tYes', kNeg, kIs, kIsNot, wipeD, Res.bind, Res.bindS, pf_non, pf_bl, pf_int, pf_str, pf_tup, pf_lst, pf_scr, pfs_nil, pfs_cons, pfF, eqI, neI, eqS, neS, decide_eq_true_eq, kTimes, eM1, eM0, kJoin, kSplit, kUpper, sPut, sPar2, sPar3, eInT, eIxT, itU, s4, newL, sizeLine_eq, a0, a1, pC]
  rw [decide_eq_false k7] at u7
  have u8 := tk 8
  by_cases k8 : k = 8
  · rw [decide_eq_true k8] at u8
    refine ⟨["ask", n0, "third", n1, f0, f1], fun w hw => ?_, by simp, by simp, go _ _ (no_seq t3 (no_seq t5 (no_seq u15 (no_seq u6 (no_seq u7 (yes_rt u8 (ret_to ?_)))))))⟩
    · simp only [List.mem_cons, List.not_mem_nil, or_false] at hw
      rcases hw with rfl | rfl | rfl | rfl | rfl | rfl <;> first | assumption | exact lit _ (by decide +kernel)
    · simp [runP, runS, sSeq, sExpr, sRet, sRetN, sSet, sIf, sNil, sRaise, sBrk, sCnt, sFor, sAsg, sAug, eVar, eC, e2, e1, eChain, bOf, tAnd', tOr', tNot', eAnd, eOr, eNot, eIf, callP, callS, aCons, aNil, eTup, eLst, newL, eCall, tTru, truD, kInt, kIntC, S.put, gNm, gTup', gCons', gNil', itS, itL, itT, itR1, itR2, kIx, kSl, eSl, oNone, oSome, kLen, kAbs, kMax2, kMin2, kIntOf, kSorted, kAll, kAny, kTupOf, kLstOf, kIsi, eApp, kApp, eFrz, look, tYes', kNeg, kIs, kIsNot, wipeD, Res.bind, Res.bindS, pf_non, pf_bl, pf_int, pf_str, pf_tup, pf_lst, pf_scr, pfs_nil, pfs_cons, pfF, eqI, neI, eqS, neS, decide_eq_true_eq, kTimes, eM1, eM0, kJoin, kSplit, kUpper, sPut, sPar2, sPar3, eInT, eIxT, itU, s4, newL, sizeLine_eq, a0, a1, g0, g1]
  rw [decide_eq_false k8] at u8
  have u9 := tk 9
  by_cases k9 : k = 9
  · rw [decide_eq_true k9] at u9
    have pl := plus_map (m := true) (x := ["ask", n0, "closed", n1]) (y := figs FG m) (s := s4) (by simp; omega)
    refine ⟨(["ask", n0, "closed", n1] : List Str) ++ figs FG m, fun w hw => ?_, by simp, by simp; omega, go _ _ (no_seq t3 (no_seq t5 (no_seq u15 (no_seq u6 (no_seq u7 (no_seq u8 (yes_rt u9 (ret_to (e2_to (s1 := s4) (a := .lst ((["ask", n0, "closed", n1] : List Str).map D.str)) ?_ comp pl)))))))))⟩
    · rcases List.mem_append.mp hw with z | z
      · simp only [List.mem_cons, List.not_mem_nil, or_false] at z
        rcases z with rfl | rfl | rfl | rfl <;> first | assumption | exact lit _ (by decide +kernel)
      · exact oF w z
    · simp [runP, runS, sSeq, sExpr, sRet, sRetN, sSet, sIf, sNil, sRaise, sBrk, sCnt, sFor, sAsg, sAug, eVar, eC, e2, e1, eChain, bOf, tAnd', tOr', tNot', eAnd, eOr, eNot, eIf, callP, callS, aCons, aNil, eTup, eLst, newL, eCall, tTru, truD, kInt, kIntC, S.put, gNm, gTup', gCons', gNil', itS, itL, itT, itR1, itR2, kIx, kSl, eSl, oNone, oSome, kLen, kAbs, kMax2, kMin2, kIntOf, kSorted, kAll, kAny, kTupOf, kLstOf, kIsi, eApp, kApp, eFrz, look, tYes', kNeg, kIs, kIsNot, wipeD, Res.bind, Res.bindS, pf_non, pf_bl, pf_int, pf_str, pf_tup, pf_lst, pf_scr, pfs_nil, pfs_cons, pfF, eqI, neI, eqS, neS, decide_eq_true_eq, kTimes, eM1, eM0, kJoin, kSplit, kUpper, sPut, sPar2, sPar3, eInT, eIxT, itU, s4, newL, sizeLine_eq, a0, a1]
  rw [decide_eq_false k9] at u9
  have pl := plus_map (m := true) (x := ["take", n0, n1]) (y := figs FG m) (s := s4) (by simp; omega)
  refine ⟨(["take", n0, n1] : List Str) ++ figs FG m, fun w hw => ?_, by simp, by simp; omega, go _ _ (no_seq t3 (no_seq t5 (no_seq u15 (no_seq u6 (no_seq u7 (no_seq u8 (no_seq u9 (ret_to (e2_to (s1 := s4) (a := .lst ((["take", n0, n1] : List Str).map D.str)) ?_ comp pl)))))))))⟩
  · rcases List.mem_append.mp hw with z | z
    · simp only [List.mem_cons, List.not_mem_nil, or_false] at z
      rcases z with rfl | rfl | rfl <;> first | assumption | exact lit _ (by decide +kernel)
    · exact oF w z
  · simp [runP, runS, sSeq, sExpr, sRet, sRetN, sSet, sIf, sNil, sRaise, sBrk, sCnt, sFor, sAsg, sAug, eVar, eC, e2, e1, eChain, bOf, tAnd', tOr', tNot', eAnd, eOr, eNot, eIf, callP, callS, aCons, aNil, eTup, eLst, newL, eCall, tTru, truD, kInt, kIntC, S.put, gNm, gTup', gCons', gNil', itS, itL, itT, itR1, itR2, kIx, kSl, eSl, oNone, oSome, kLen, kAbs, kMax2, kMin2, kIntOf, kSorted, kAll, kAny, kTupOf, kLstOf, kIsi, eApp, kApp, eFrz, look, tYes', kNeg, kIs, kIsNot, wipeD, Res.bind, Res.bindS, pf_non, pf_bl, pf_int, pf_str, pf_tup, pf_lst, pf_scr, pfs_nil, pfs_cons, pfF, eqI, neI, eqS, neS, decide_eq_true_eq, kTimes, eM1, eM0, kJoin, kSplit, kUpper, sPut, sPar2, sPar3, eInT, eIxT, itU, s4, newL, sizeLine_eq, a0, a1]
end
end K57

set_option Elab.async false
set_option linter.all false
set_option maxRecDepth 100000
namespace K57
open PySem PyProof.Rows PySem.Spec L2 VL TL
noncomputable section
/-! ### the law's words and its line -/
theorem num_at {l : List Int} (hl : l.length = 60) (hn : Nums l) (i : Nat) (hi : i < 60) : ∃ x, atI (l.map D.int) (i : Int) = some (.int x) ∧ 0 ≤ x ∧ x < 1009 :=
  ⟨l[i], atI_nat (j := i) (by rw [List.getElem?_map, List.getElem?_eq_getElem (by omega)]; rfl), hn _ (List.getElem_mem (by omega))⟩
def wordsE : VE := (eLc false [6] (gNm 6) (itR1 (aCons (e2 (kPlus false) (eC (D.int 1)) (e2 kMod (eCall kIntOf (aCons (e2 kIx (eVar 1) (eC (D.int 40))) aNil)) (eC (D.int 8)))) aNil)) tYes' (callP F__law_word (aCons (e2 kIx (eVar 1) (e2 (kTimes false) (eC (D.int 2)) (eVar 6))) (aCons (e2 kIx (eVar 1) (e2 (kPlus false) (e2 (kTimes false) (eC (D.int 2)) (eVar 6)) (eC (D.int 1)))) aNil))))
theorem words_ok {l : List Int} (hl : l.length = 60) (hn : Nums l) (scr : D) : ∃ W : List Str, (∀ w ∈ W, Ok w) ∧ W ≠ [] ∧ W.length ≤ 8 ∧
    wordsE ⟨[some scr, some (.lst (l.map D.int)), none, none, none, none, none, none, none, none], []⟩ = .ok (.lst (W.map D.str)) ⟨[some scr, some (.lst (l.map D.int)), none, none, none, none, none, none, none, none], []⟩ := by
  obtain ⟨x, hx, hx1, hx2⟩ := num_at hl hn 40 (by decide)
  obtain ⟨n, en, n8⟩ : ∃ n : Nat, 1 + x % 8 = n ∧ (n ≤ 8 ∧ 0 < n) := ⟨(1 + x % 8).toNat, by omega, by omega⟩
  have hw : ∀ k : Nat, ∃ w, k < 8 → Ok w ∧ ∃ a b, atI (l.map D.int) (2 * k : Int) = some (.int a) ∧ atI (l.map D.int) (2 * k + 1 : Int) = some (.int b) ∧ F__law_word [.int a, .int b] = .ok (.str w) := fun k => by
    by_cases hk : k < 8
    · obtain ⟨a, ha, ha2⟩ := num_at hl hn (2 * k) (by omega)
      obtain ⟨b, hb, hb2⟩ := num_at hl hn (2 * k + 1) (by omega)
      obtain ⟨w, ow, ew⟩ := law_word_ok ha2 hb2
      exact ⟨w, fun _ => ⟨ow, a, b, by simpa using ha, by simpa using hb, ew⟩⟩
    · exact ⟨"", fun z => absurd z hk⟩
  obtain ⟨f, hf⟩ := Classical.axiomOfChoice hw
  generalize l.map D.int = N at hx hf ⊢
  have e := lcGo_all (g := gNm 6) (fe := callP F__law_word (aCons (e2 kIx (eVar 1) (e2 (kTimes false) (eC (D.int 2)) (eVar 6))) (aCons (e2 kIx (eVar 1) (e2 (kPlus false) (e2 (kTimes false) (eC (D.int 2)) (eVar 6)) (eC (D.int 1)))) aNil))) (ρ := [some scr, some (.lst N), none, none, none, none, none, none, none, none]) (η := []) (fun d => match d with
    | .int k => .str (f k.toNat)
    | _ => .non) (rgD 0 n) [] (by rw [rgD_len, sizeLine_eq]; simp; omega) (fun d hd => by
      obtain ⟨i, hi, rfl⟩ := rgD_mem hd
      rw [Int.zero_add]
      obtain ⟨_, a, b, ha, hb, ew⟩ := hf i (by omega)
      refine ⟨⟨[some scr, some (.lst N), none, none, none, none, some (.int i), none, none, none], []⟩, ⟨[some scr, some (.lst N), none, none, none, none, some (.int i), none, none, none], []⟩, rfl, ?_, rfl, rfl⟩
      have c : CMul 2 (i : Int) := cmulL _ _ (by omega)
      simp [runP, runS, sSeq, sExpr, sRet, sRetN, sSet, sIf, sNil, sRaise, sBrk, sCnt, sFor, sAsg, sAug, eVar, eC, e2, e1, eChain, bOf, tAnd', tOr', tNot', eAnd, eOr, eNot, eIf, callP, callS, aCons, aNil, eTup, eLst, newL, eCall, tTru, truD, kInt, kIntC, S.put, gNm, gTup', gCons', gNil', itS, itL, itT, itR1, itR2, kIx, kSl, eSl, oNone, oSome, kLen, kAbs, kMax2, kMin2, kIntOf, kSorted, kAll, kAny, kTupOf, kLstOf, kIsi, eApp, kApp, eFrz, look, tYes', kNeg, kIs, kIsNot, wipeD, Res.bind, Res.bindS, pf_non, pf_bl, pf_int, pf_str, pf_tup, pf_lst, pf_scr, pfs_nil, pfs_cons, pfF, eqI, neI, eqS, neS, decide_eq_true_eq, kTimes, eM1, eM0, kJoin, kSplit, kUpper, sPut, sPar2, sPar3, eInT, eIxT, itU, plus_int, c, ha, hb, ew])
  rw [rgD_map, List.nil_append] at e
  have e4 : ((List.range n).map fun i : Nat => D.str (f ((i : Int)).toNat)) = ((List.range n).map f).map D.str := by
    rw [List.map_map]
    rfl
  dsimp only at e
  rw [e4] at e
  refine ⟨(List.range n).map f, fun w hw => ?_, fun z => ?_, by rw [List.length_map, List.length_range]; omega, ?_⟩
  · obtain ⟨k, hk, rfl⟩ := List.mem_map.mp hw
    exact (hf k (by have := List.mem_range.mp hk; omega)).1
  · have := congrArg List.length z
    rw [List.length_map, List.length_range] at this
    exact absurd this (show n ≠ 0 by omega)
  · have hx : atI N 40 = some (.int x) := hx
    have ha : (aCons (e2 (kPlus false) (eC (D.int 1)) (e2 kMod (eCall kIntOf (aCons (e2 kIx (eVar 1) (eC (D.int 40))) aNil)) (eC (D.int 8)))) aNil) ⟨[some scr, some (.lst N), none, none, none, none, none, none, none, none], []⟩ = .ok [.int (1 + x % 8)] ⟨[some scr, some (.lst N), none, none, none, none, none, none, none, none], []⟩ := by
      simp [runP, runS, sSeq, sExpr, sRet, sRetN, sSet, sIf, sNil, sRaise, sBrk, sCnt, sFor, sAsg, sAug, eVar, eC, e2, e1, eChain, bOf, tAnd', tOr', tNot', eAnd, eOr, eNot, eIf, callP, callS, aCons, aNil, eTup, eLst, newL, eCall, tTru, truD, kInt, kIntC, S.put, gNm, gTup', gCons', gNil', itS, itL, itT, itR1, itR2, kIx, kSl, eSl, oNone, oSome, kLen, kAbs, kMax2, kMin2, kIntOf, kSorted, kAll, kAny, kTupOf, kLstOf, kIsi, eApp, kApp, eFrz, look, tYes', kNeg, kIs, kIsNot, wipeD, Res.bind, Res.bindS, pf_non, pf_bl, pf_int, pf_str, pf_tup, pf_lst, pf_scr, pfs_nil, pfs_cons, pfF, eqI, neI, eqS, neS, decide_eq_true_eq, kTimes, eM1, eM0, kJoin, kSplit, kUpper, sPut, sPar2, sPar3, eInT, eIxT, itU, plus_int, hx]
    exact lc_to (m := false) (vs := [6]) (r1_to n ha en (by omega)) e
def lineB : VS := (sSeq (sSet 3 (callS F__law_formed (aCons (eVar 1) (aCons (eVar 2) aNil))))
    (sSeq (sSet 4 (e2 kMod (eCall kIntOf (aCons (e2 kIx (eVar 1) (eC (D.int 44))) aNil)) (eCall kLen (aCons (eVar 3) aNil))))
    (sSeq (sIf (bOf (e2 kEq (e2 kMod (eCall kIntOf (aCons (e2 kIx (eVar 1) (eC (D.int 45))) aNil)) (eC (D.int 6))) (eC (D.int 0)))) (sPut (e2 kIx (eVar 2) (eC (D.int 0))) (eVar 3) (eVar 4)) sNil)
    (sSeq (sIf (tAnd' (bOf (e2 kEq (e2 kMod (eCall kIntOf (aCons (e2 kIx (eVar 1) (eC (D.int 45))) aNil)) (eC (D.int 6))) (eC (D.int 1)))) (bOf (e2 kGt (eCall kLen (aCons (eVar 3) aNil)) (eC (D.int 1))))) (sSet 3 (e2 (kPlus true) (eSl false (eVar 3) oNone (oSome (eVar 4))) (eSl false (eVar 3) (oSome (e2 (kPlus false) (eVar 4) (eC (D.int 1)))) oNone))) sNil)
    (sSeq (sIf (bOf (e2 kEq (e2 kMod (eCall kIntOf (aCons (e2 kIx (eVar 1) (eC (D.int 45))) aNil)) (eC (D.int 6))) (eC (D.int 2)))) (sExpr (eApp (eVar 3) (aCons (e2 kIx (eVar 2) (eC (D.int 0))) aNil))) sNil)
    (sSet 2 (eFrz (eVar 3))))))))
theorem line_ok {l : List Int} (hl : l.length = 60) (hn : Nums l) (scr : D) {W : List Str} (hW : ∀ w ∈ W, Ok w) (hne : W ≠ []) (h8 : W.length ≤ 8) : ∃ (V : List Str) (q3 q4 : Option D) (η : List Cell), (∀ w ∈ V, Ok w) ∧ V ≠ [] ∧ V.length ≤ 12 ∧
    lineB ⟨[some scr, some (.lst (l.map D.int)), some (.lst (W.map D.str)), none, none, none, none, none, none, none], []⟩ = .nx ⟨[some scr, some (.lst (l.map D.int)), some (.lst (V.map D.str)), q3, q4, none, none, none, none, none], η⟩ := by
  obtain ⟨L, oL, neL, lL, eL⟩ := formed_ok hl hn (ws := W) ⟨hW, by omega⟩ h8 []
  obtain ⟨x44, h44, b44, _⟩ := num_at hl hn 44 (by decide)
  obtain ⟨x45, h45, b45, _⟩ := num_at hl hn 45 (by decide)
  have h44 : atI (l.map D.int) 44 = some (.int x44) := h44
  have h45 : atI (l.map D.int) 45 = some (.int x45) := h45
  have Lpos : 0 < L.length := List.length_pos_iff.mpr neL
  obtain ⟨p, hp, pL⟩ : ∃ p : Nat, x44 % (L.length : Int) = p ∧ p < L.length := by
    have u1 := Int.emod_nonneg x44 (show (L.length : Int) ≠ 0 by omega)
    have u2 := Int.emod_lt_of_pos x44 (show (0 : Int) < L.length by omega)
    exact ⟨(x44 % (L.length : Int)).toNat, by omega, by omega⟩
  obtain ⟨k, hk, k6⟩ : ∃ k : Nat, x45 % 6 = k ∧ k < 6 := ⟨(x45 % 6).toNat, by omega, by omega⟩
  obtain ⟨w0, r0, eW⟩ : ∃ w0 r0, W = w0 :: r0 := by
    cases W with
    | nil => exact absurd rfl hne
    | cons a r => exact ⟨a, r, rfl⟩
  have ow0 : Ok w0 := hW w0 (by rw [eW]; exact List.mem_cons_self)
  have aW : atI (W.map D.str) 0 = some (.str w0) := by rw [eW]; exact at_0 _ _
  generalize l.map D.int = N at h44 h45 eL ⊢
  generalize W.map D.str = WD at aW eL ⊢
  have hLD : (L.map D.str).length = L.length := by simp
  let st : Option D → List Cell → S := fun q3 η => ⟨[some scr, some (.lst N), some (.lst WD), q3, some (.int p), none, none, none, none, none], η⟩
  have tk : ∀ (j : Int) q3 η, (bOf (e2 kEq (e2 kMod (eCall kIntOf (aCons (e2 kIx (eVar 1) (eC (D.int 45))) aNil)) (eC (D.int 6))) (eC (D.int j)))) (st q3 η) = .ok (decide ((k : Int) = j)) (st q3 η) := fun j q3 η => by
    simp [runP, runS, sSeq, sExpr, sRet, sRetN, sSet, sIf, sNil, sRaise, sBrk, sCnt, sFor, sAsg, sAug, eVar, eC, e2, e1, eChain, bOf, tAnd', tOr', tNot', eAnd, eOr, eNot, eIf, callP, callS, aCons, aNil, eTup, eLst, newL, eCall, tTru, truD, kInt, kIntC, S.put, gNm, gTup', gCons', gNil', itS, itL, itT, itR1, itR2, kIx, kSl, eSl, oNone, oSome, kLen, kAbs, kMax2, kMin2, kIntOf, kSorted, kAll, kAny, kTupOf, kLstOf, kIsi, eApp, kApp, eFrz, look, tYes', kNeg, kIs, kIsNot, wipeD, Res.bind, Res.bindS, pf_non, pf_bl, pf_int, pf_str, pf_tup, pf_lst, pf_scr, pfs_nil, pfs_cons, pfF, eqI, neI, eqS, neS, decide_eq_true_eq, kTimes, eM1, eM0, kJoin, kSplit, kUpper, sPut, sPar2, sPar3, eInT, eIxT, itU, st, h45, hk]
  have pre : ∀ g r, g (st (some (.ptr 0)) [.lst (L.map D.str)]) = r → (sSeq (sSet 3 (callS F__law_formed (aCons (eVar 1) (aCons (eVar 2) aNil))))
      (sSeq (sSet 4 (e2 kMod (eCall kIntOf (aCons (e2 kIx (eVar 1) (eC (D.int 44))) aNil)) (eCall kLen (aCons (eVar 3) aNil)))) g)) ⟨[some scr, some (.lst N), some (.lst WD), none, none, none, none, none, none, none], []⟩ = r := fun g r hg => by
    refine seq_to (s' := ⟨[some scr, some (.lst N), some (.lst WD), some (.ptr 0), none, none, none, none, none, none], [.lst (L.map D.str)]⟩) ?_ <| seq_to (s' := st (some (.ptr 0)) [.lst (L.map D.str)]) ?_ hg
    · simp [runP, runS, sSeq, sExpr, sRet, sRetN, sSet, sIf, sNil, sRaise, sBrk, sCnt, sFor, sAsg, sAug, eVar, eC, e2, e1, eChain, bOf, tAnd', tOr', tNot', eAnd, eOr, eNot, eIf, callP, callS, aCons, aNil, eTup, eLst, newL, eCall, tTru, truD, kInt, kIntC, S.put, gNm, gTup', gCons', gNil', itS, itL, itT, itR1, itR2, kIx, kSl, eSl, oNone, oSome, kLen, kAbs, kMax2, kMin2, kIntOf, kSorted, kAll, kAny, kTupOf, kLstOf, kIsi, eApp, kApp, eFrz, look, tYes', kNeg, kIs, kIsNot, wipeD, Res.bind, Res.bindS, pf_non, pf_bl, pf_int, pf_str, pf_tup, pf_lst, pf_scr, pfs_nil, pfs_cons, pfF, eqI, neI, eqS, neS, decide_eq_true_eq, kTimes, eM1, eM0, kJoin, kSplit, kUpper, sPut, sPar2, sPar3, eInT, eIxT, itU, eL]
    · have : (0 : Int) < ((L.map D.str).length : Int) := by rw [hLD]; omega
      rw [← hLD] at hp
      generalize L.map D.str = LD at hLD this hp ⊢
      have h0 : 0 < LD.length := by omega
      simp [runP, runS, sSeq, sExpr, sRet, sRetN, sSet, sIf, sNil, sRaise, sBrk, sCnt, sFor, sAsg, sAug, eVar, eC, e2, e1, eChain, bOf, tAnd', tOr', tNot', eAnd, eOr, eNot, eIf, callP, callS, aCons, aNil, eTup, eLst, newL, eCall, tTru, truD, kInt, kIntC, S.put, gNm, gTup', gCons', gNil', itS, itL, itT, itR1, itR2, kIx, kSl, eSl, oNone, oSome, kLen, kAbs, kMax2, kMin2, kIntOf, kSorted, kAll, kAny, kTupOf, kLstOf, kIsi, eApp, kApp, eFrz, look, tYes', kNeg, kIs, kIsNot, wipeD, Res.bind, Res.bindS, pf_non, pf_bl, pf_int, pf_str, pf_tup, pf_lst, pf_scr, pfs_nil, pfs_cons, pfF, eqI, neI, eqS, neS, decide_eq_true_eq, kTimes, eM1, eM0, kJoin, kSplit, kUpper, sPut, sPar2, sPar3, eInT, eIxT, itU, h44, h0, hp, st]
  suffices hs : ∃ (V : List Str) (q3 : Option D) (η : List Cell), (∀ w ∈ V, Ok w) ∧ V ≠ [] ∧ V.length ≤ 12 ∧ ∃ j : Nat, q3 = some (.ptr j) ∧ η[j]? = some (.lst (V.map D.str)) ∧ ∀ g r, g (st q3 η) = r →
      (sSeq (sIf (bOf (e2 kEq (e2 kMod (eCall kIntOf (aCons (e2 kIx (eVar 1) (eC (D.int 45))) aNil)) (eC (D.int 6))) (eC (D.int 0)))) (sPut (e2 kIx (eVar 2) (eC (D.int 0))) (eVar 3) (eVar 4)) sNil)
      (sSeq (sIf (tAnd' (bOf (e2 kEq (e2 kMod (eCall kIntOf (aCons (e2 kIx (eVar 1) (eC (D.int 45))) aNil)) (eC (D.int 6))) (eC (D.int 1)))) (bOf (e2 kGt (eCall kLen (aCons (eVar 3) aNil)) (eC (D.int 1))))) (sSet 3 (e2 (kPlus true) (eSl false (eVar 3) oNone (oSome (eVar 4))) (eSl false (eVar 3) (oSome (e2 (kPlus false) (eVar 4) (eC (D.int 1)))) oNone))) sNil)
      (sSeq (sIf (bOf (e2 kEq (e2 kMod (eCall kIntOf (aCons (e2 kIx (eVar 1) (eC (D.int 45))) aNil)) (eC (D.int 6))) (eC (D.int 2)))) (sExpr (eApp (eVar 3) (aCons (e2 kIx (eVar 2) (eC (D.int 0))) aNil))) sNil) g))) (st (some (.ptr 0)) [.lst (L.map D.str)]) = r by
    obtain ⟨V, q3, η, v1, v2, v3, j, ej, eη, v4⟩ := hs
    subst ej
    refine ⟨V, some (.ptr j), some (.int p), η.set j (.fwd (.lst (V.map D.str))), v1, v2, v3, pre _ _ (v4 _ _ ?_)⟩
    simp [runP, runS, sSeq, sExpr, sRet, sRetN, sSet, sIf, sNil, sRaise, sBrk, sCnt, sFor, sAsg, sAug, eVar, eC, e2, e1, eChain, bOf, tAnd', tOr', tNot', eAnd, eOr, eNot, eIf, callP, callS, aCons, aNil, eTup, eLst, newL, eCall, tTru, truD, kInt, kIntC, S.put, gNm, gTup', gCons', gNil', itS, itL, itT, itR1, itR2, kIx, kSl, eSl, oNone, oSome, kLen, kAbs, kMax2, kMin2, kIntOf, kSorted, kAll, kAny, kTupOf, kLstOf, kIsi, eApp, kApp, eFrz, look, tYes', kNeg, kIs, kIsNot, wipeD, Res.bind, Res.bindS, pf_non, pf_bl, pf_int, pf_str, pf_tup, pf_lst, pf_scr, pfs_nil, pfs_cons, pfF, eqI, neI, eqS, neS, decide_eq_true_eq, kTimes, eM1, eM0, kJoin, kSplit, kUpper, sPut, sPar2, sPar3, eInT, eIxT, itU, st, eη]
  have nk : ∀ (j : Int) q3 η, (k : Int) ≠ j → (bOf (e2 kEq (e2 kMod (eCall kIntOf (aCons (e2 kIx (eVar 1) (eC (D.int 45))) aNil)) (eC (D.int 6))) (eC (D.int j)))) (st q3 η) = .ok false (st q3 η) := fun j q3 η h => by rw [tk, decide_eq_false h]
  have yk : ∀ (j : Int) q3 η, (k : Int) = j → (bOf (e2 kEq (e2 kMod (eCall kIntOf (aCons (e2 kIx (eVar 1) (eC (D.int 45))) aNil)) (eC (D.int 6))) (eC (D.int j)))) (st q3 η) = .ok true (st q3 η) := fun j q3 η h => by rw [tk, decide_eq_true h]
  by_cases k0 : k = 0
  · refine ⟨L.set p w0, some (.ptr 0), [.lst ((L.set p w0).map D.str)], fun w hw => ?_, fun z => ?_, by rw [List.length_set]; omega, 0, rfl, rfl, fun g r hg => ?_⟩
    · rcases List.mem_or_eq_of_mem_set hw with z | z
      · exact oL w z
      · rw [z]; exact ow0
    · have := congrArg List.length z
      rw [List.length_set] at this
      exact absurd this (show L.length ≠ 0 by omega)
    · have ix : ixN L.length (p : Int) = some p := by simp [ixN, pL]
      refine seq_to (s' := st (some (.ptr 0)) [.lst ((L.set p w0).map D.str)]) (if_yes (yk 0 _ _ (by omega)) ?_) <| no_seq ?_ <| no_seq (nk 2 _ _ (by omega)) hg
      · simp [runP, runS, sSeq, sExpr, sRet, sRetN, sSet, sIf, sNil, sRaise, sBrk, sCnt, sFor, sAsg, sAug, eVar, eC, e2, e1, eChain, bOf, tAnd', tOr', tNot', eAnd, eOr, eNot, eIf, callP, callS, aCons, aNil, eTup, eLst, newL, eCall, tTru, truD, kInt, kIntC, S.put, gNm, gTup', gCons', gNil', itS, itL, itT, itR1, itR2, kIx, kSl, eSl, oNone, oSome, kLen, kAbs, kMax2, kMin2, kIntOf, kSorted, kAll, kAny, kTupOf, kLstOf, kIsi, eApp, kApp, eFrz, look, tYes', kNeg, kIs, kIsNot, wipeD, Res.bind, Res.bindS, pf_non, pf_bl, pf_int, pf_str, pf_tup, pf_lst, pf_scr, pfs_nil, pfs_cons, pfF, eqI, neI, eqS, neS, decide_eq_true_eq, kTimes, eM1, eM0, kJoin, kSplit, kUpper, sPut, sPar2, sPar3, eInT, eIxT, itU, st, aW, ix, List.map_set]
      · have := nk 1 (some (.ptr 0)) [.lst ((L.set p w0).map D.str)] (by omega)
        simp only [tAnd', this, bind_ok]
        rfl
  by_cases k1 : k = 1
  · by_cases l1 : 1 < L.length
    · have n0 := nk 0 (some (.ptr 0)) [.lst (L.map D.str)] (by omega)
      refine ⟨L.take p ++ L.drop (p + 1), some (.ptr 1), [.lst (L.map D.str), .lst ((L.take p ++ L.drop (p + 1)).map D.str)], fun w hw => ?_, fun z => ?_, by rw [List.length_append, List.length_take, List.length_drop]; omega, 1, rfl, rfl, fun g r hg => ?_⟩
      · rcases List.mem_append.mp hw with z | z
        · exact oL w (List.mem_of_mem_take z)
        · exact oL w (List.mem_of_mem_drop z)
      · have := congrArg List.length z
        rw [List.length_append, List.length_take, List.length_drop] at this
        exact absurd this (show min p L.length + (L.length - (p + 1)) ≠ 0 by omega)
      · refine no_seq n0 <| seq_to (s' := st (some (.ptr 1)) [.lst (L.map D.str), .lst ((L.take p ++ L.drop (p + 1)).map D.str)]) (if_yes (s1 := st (some (.ptr 0)) [.lst (L.map D.str)]) ?_ ?_) <| no_seq (nk 2 _ _ (by omega)) hg
        · have := yk 1 (some (.ptr 0)) [.lst (L.map D.str)] (by omega)
          have hl2 : (1 : Int) < L.length := by omega
          simp only [tAnd', this, bind_ok]
          simp [runP, runS, sSeq, sExpr, sRet, sRetN, sSet, sIf, sNil, sRaise, sBrk, sCnt, sFor, sAsg, sAug, eVar, eC, e2, e1, eChain, bOf, tAnd', tOr', tNot', eAnd, eOr, eNot, eIf, callP, callS, aCons, aNil, eTup, eLst, newL, eCall, tTru, truD, kInt, kIntC, S.put, gNm, gTup', gCons', gNil', itS, itL, itT, itR1, itR2, kIx, kSl, eSl, oNone, oSome, kLen, kAbs, kMax2, kMin2, kIntOf, kSorted, kAll, kAny, kTupOf, kLstOf, kIsi, eApp, kApp, eFrz, look, tYes', kNeg, kIs, kIsNot, wipeD, Res.bind, Res.bindS, pf_non, pf_bl, pf_int, pf_str, pf_tup, pf_lst, pf_scr, pfs_nil, pfs_cons, pfF, eqI, neI, eqS, neS, decide_eq_true_eq, kTimes, eM1, eM0, kJoin, kSplit, kUpper, sPut, sPar2, sPar3, eInT, eIxT, itU, st]
          omega
        · have c1 := cut_to2 L p
          have c2 := cut_from2 L (p + 1)
          rw [show ((p + 1 : Nat) : Int) = (p : Int) + 1 by omega] at c2
          have pl := fun s => plus_map (m := true) (x := L.take p) (y := L.drop (p + 1)) (s := s) (by rw [List.length_take, List.length_drop]; omega)
          generalize hLx : L.map D.str = LD at c1 c2 ⊢
          generalize (L.take p).map D.str = A at c1 pl ⊢
          generalize (L.drop (p + 1)).map D.str = B at c2 pl ⊢
          simp [runP, runS, sSeq, sExpr, sRet, sRetN, sSet, sIf, sNil, sRaise, sBrk, sCnt, sFor, sAsg, sAug, eVar, eC, e2, e1, eChain, bOf, tAnd', tOr', tNot', eAnd, eOr, eNot, eIf, callP, callS, aCons, aNil, eTup, eLst, newL, eCall, tTru, truD, kInt, kIntC, S.put, gNm, gTup', gCons', gNil', itS, itL, itT, itR1, itR2, kIx, kSl, eSl, oNone, oSome, kLen, kAbs, kMax2, kMin2, kIntOf, kSorted, kAll, kAny, kTupOf, kLstOf, kIsi, eApp, kApp, eFrz, look, tYes', kNeg, kIs, kIsNot, wipeD, Res.bind, Res.bindS, pf_non, pf_bl, pf_int, pf_str, pf_tup, pf_lst, pf_scr, pfs_nil, pfs_cons, pfF, eqI, neI, eqS, neS, decide_eq_true_eq, kTimes, eM1, eM0, kJoin, kSplit, kUpper, sPut, sPar2, sPar3, eInT, eIxT, itU, st, newL, c1, c2, plus_int]
          simp [pl, newL]
    · have n0 := nk 0 (some (.ptr 0)) [.lst (L.map D.str)] (by omega)
      refine ⟨L, some (.ptr 0), [.lst (L.map D.str)], oL, neL, by omega, 0, rfl, rfl, fun g r hg => ?_⟩
      refine no_seq n0 <| no_seq ?_ <| no_seq (nk 2 _ _ (by omega)) hg
      have := yk 1 (some (.ptr 0)) [.lst (L.map D.str)] (by omega)
      simp only [tAnd', this, bind_ok]
      simp [runP, runS, sSeq, sExpr, sRet, sRetN, sSet, sIf, sNil, sRaise, sBrk, sCnt, sFor, sAsg, sAug, eVar, eC, e2, e1, eChain, bOf, tAnd', tOr', tNot', eAnd, eOr, eNot, eIf, callP, callS, aCons, aNil, eTup, eLst, newL, eCall, tTru, truD, kInt, kIntC, S.put, gNm, gTup', gCons', gNil', itS, itL, itT, itR1, itR2, kIx, kSl, eSl, oNone, oSome, kLen, kAbs, kMax2, kMin2, kIntOf, kSorted, kAll, kAny, kTupOf, kLstOf, kIsi, eApp, kApp, eFrz, look, tYes', kNeg, kIs, kIsNot, wipeD, Res.bind, Res.bindS, pf_non, pf_bl, pf_int, pf_str, pf_tup, pf_lst, pf_scr, pfs_nil, pfs_cons, pfF, eqI, neI, eqS, neS, decide_eq_true_eq, kTimes, eM1, eM0, kJoin, kSplit, kUpper, sPut, sPar2, sPar3, eInT, eIxT, itU, st]
      omega
  have n1 : ∀ q3 η, (tAnd' (bOf (e2 kEq (e2 kMod (eCall kIntOf (aCons (e2 kIx (eVar 1) (eC (D.int 45))) aNil)) (eC (D.int 6))) (eC (D.int 1)))) (bOf (e2 kGt (eCall kLen (aCons (eVar 3) aNil)) (eC (D.int 1))))) (st q3 η) = .ok false (st q3 η) := fun q3 η => by
    have := nk 1 q3 η (by omega)
    simp only [tAnd', this, bind_ok]
    rfl
  have n0 := nk 0 (some (.ptr 0)) [.lst (L.map D.str)] (by omega)
  by_cases k2 : k = 2
  · refine ⟨L ++ [w0], some (.ptr 0), [.lst ((L ++ [w0]).map D.str)], fun w hw => ?_, by simp, by rw [List.length_append]; simp; omega, 0, rfl, rfl, fun g r hg => ?_⟩
    · rcases List.mem_append.mp hw with z | z
      · exact oL w z
      · rw [List.mem_singleton.mp z]; exact ow0
    · refine no_seq n0 <| no_seq (n1 _ _) <| seq_to (s' := st (some (.ptr 0)) [.lst ((L ++ [w0]).map D.str)]) (if_yes (yk 2 _ _ (by omega)) ?_) hg
      have hsz : L.length < sizeLine := by rw [sizeLine_eq]; omega
      simp [runP, runS, sSeq, sExpr, sRet, sRetN, sSet, sIf, sNil, sRaise, sBrk, sCnt, sFor, sAsg, sAug, eVar, eC, e2, e1, eChain, bOf, tAnd', tOr', tNot', eAnd, eOr, eNot, eIf, callP, callS, aCons, aNil, eTup, eLst, newL, eCall, tTru, truD, kInt, kIntC, S.put, gNm, gTup', gCons', gNil', itS, itL, itT, itR1, itR2, kIx, kSl, eSl, oNone, oSome, kLen, kAbs, kMax2, kMin2, kIntOf, kSorted, kAll, kAny, kTupOf, kLstOf, kIsi, eApp, kApp, eFrz, look, tYes', kNeg, kIs, kIsNot, wipeD, Res.bind, Res.bindS, pf_non, pf_bl, pf_int, pf_str, pf_tup, pf_lst, pf_scr, pfs_nil, pfs_cons, pfF, eqI, neI, eqS, neS, decide_eq_true_eq, kTimes, eM1, eM0, kJoin, kSplit, kUpper, sPut, sPar2, sPar3, eInT, eIxT, itU, st, aW, hsz]
  · exact ⟨L, some (.ptr 0), [.lst (L.map D.str)], oL, neL, by omega, 0, rfl, rfl, fun g r hg => no_seq n0 <| no_seq (n1 _ _) <| no_seq (nk 2 _ _ (by omega)) hg⟩
end
end K57

set_option Elab.async false
set_option linter.all false
set_option maxRecDepth 100000
namespace K57
open PySem PyProof.Rows PySem.Spec L2 VL TL
noncomputable section
theorem times_int {m : Bool} {i j : Int} {s : S} (h : CMul i j) : kTimes m (.int i) (.int j) s = .ok (.int (i * j)) s := by
  simp only [kTimes, look, h, if_true]
theorem times_sp {m : Bool} {k : Int} {s : S} (h : 0 ≤ k ∧ k ≤ 10) : kTimes m (.str " ") (.int k) s = .ok (.str (repS " " k.toNat)) s := by
  have hl : (" " : Str).length = 1 := by decide +kernel
  simp only [kTimes, look]
  rw [if_pos ⟨by omega, by rw [hl, sizeLine_eq]; omega, by rw [hl]; decide⟩]
def textB : VS := (sSeq (sSet 5 (e2 (kPlus false) (eVar 5) (e2 kIx (eVar 2) (eVar 6))))
    (sIf (bOf (e2 kLt (e2 (kPlus false) (eVar 6) (eC (D.int 1))) (eCall kLen (aCons (eVar 2) aNil)))) (sSet 5 (e2 (kPlus false) (eVar 5) (e2 (kTimes false) (eC (D.str " ")) (e2 (kPlus false) (eC (D.int 1)) (e2 kMod (eCall kIntOf (aCons (e2 (kPlus false) (e2 kIx (eVar 1) (eC (D.int 47))) (e2 (kTimes false) (eVar 6) (e2 kIx (eVar 1) (eC (D.int 48))))) aNil)) (eC (D.int 3))))))) sNil))
structure TxI (V : List Str) (i : Nat) (t : Str) : Prop where
  ch : ∀ c ∈ tl t, c < 128
  le : t.length ≤ 2 + i * 64
  pre : i < V.length → ∀ u, VL.wordsOf (tl t ++ u) = (V.take i).map tl ++ VL.wordsOf u
  fin : i = V.length → ∀ j, VL.wordsOf (tl t ++ List.replicate j 32) = V.map tl
theorem rep_ch (n : Nat) : ∀ c ∈ tl (repS " " n), c < 128 := fun c hc => by
  rw [tl_rep] at hc
  rw [List.eq_of_mem_replicate hc]
  decide
theorem rep_len (n : Nat) : (repS " " n).length = n := by rw [len_tl, tl_rep, List.length_replicate]
def stL (scr : D) (N : List D) (V : List Str) (q3 q4 q5 q6 : Option D) (η : List Cell) : S := ⟨[some scr, some (.lst N), some (.lst (V.map D.str)), q3, q4, q5, q6, none, none, none], η⟩
theorem text_turn {l : List Int} (hl : l.length = 60) (hn : Nums l) (scr : D) {V : List Str} (hV : ∀ w ∈ V, Ok w) (h12 : V.length ≤ 12) (q3 q4 : Option D) (η : List Cell) {i : Nat} (hi : i < V.length) {t : Str} (T : TxI V i t) :
    ∃ t', TxI V (i + 1) t' ∧ textB (stL scr (l.map D.int) V q3 q4 (some (.str t)) (some (.int i)) η) = .nx (stL scr (l.map D.int) V q3 q4 (some (.str t')) (some (.int i)) η) := by
  obtain ⟨x, hx, hx1, hx2⟩ := num_at hl hn 47 (by decide)
  obtain ⟨y, hy, hy1, hy2⟩ := num_at hl hn 48 (by decide)
  have hx : atI (l.map D.int) 47 = some (.int x) := hx
  have hy : atI (l.map D.int) 48 = some (.int y) := hy
  have av : atI (V.map D.str) (i : Int) = some (.str V[i]) := atI_nat (by rw [List.getElem?_map, List.getElem?_eq_getElem hi]; rfl)
  have ov : Ok V[i] := hV _ (List.getElem_mem hi)
  have h32 : 32 ∉ tl V[i] := fun m => (ov.ch 32 m).2 rfl
  have tle := T.le
  have vle := ov.le
  have htk : V.take (i + 1) = V.take i ++ [V[i]] := by rw [List.take_succ, List.getElem?_eq_getElem hi]; rfl
  generalize l.map D.int = N at hx hy ⊢
  have p1 := plus_str (m := false) (x := t) (y := V[i]) (s := stL scr N V q3 q4 (some (.str t)) (some (.int i)) η) (by omega)
  have ch1 : ∀ c ∈ tl (t ++ V[i]), c < 128 := fun c hc => by
    rw [tl_append] at hc
    exact (List.mem_append.mp hc).elim (T.ch c) fun z => (ov.ch c z).1
  have hVl : (V.map D.str).length = V.length := by simp
  have step1 : (sSet 5 (e2 (kPlus false) (eVar 5) (e2 kIx (eVar 2) (eVar 6)))) (stL scr N V q3 q4 (some (.str t)) (some (.int i)) η) = .nx (stL scr N V q3 q4 (some (.str (t ++ V[i]))) (some (.int i)) η) := by
    refine set_to (s1 := stL scr N V q3 q4 (some (.str t)) (some (.int i)) η) (e2_to (s1 := stL scr N V q3 q4 (some (.str t)) (some (.int i)) η) (s2 := stL scr N V q3 q4 (some (.str t)) (some (.int i)) η) (b := .str V[i]) rfl ?_ p1)
    simp [runP, runS, sSeq, sExpr, sRet, sRetN, sSet, sIf, sNil, sRaise, sBrk, sCnt, sFor, sAsg, sAug, eVar, eC, e2, e1, eChain, bOf, tAnd', tOr', tNot', eAnd, eOr, eNot, eIf, callP, callS, aCons, aNil, eTup, eLst, newL, eCall, tTru, truD, kInt, kIntC, S.put, gNm, gTup', gCons', gNil', itS, itL, itT, itR1, itR2, kIx, kSl, eSl, oNone, oSome, kLen, kAbs, kMax2, kMin2, kIntOf, kSorted, kAll, kAny, kTupOf, kLstOf, kIsi, eApp, kApp, eFrz, look, tYes', kNeg, kIs, kIsNot, wipeD, Res.bind, Res.bindS, pf_non, pf_bl, pf_int, pf_str, pf_tup, pf_lst, pf_scr, pfs_nil, pfs_cons, pfF, eqI, neI, eqS, neS, decide_eq_true_eq, eM1, eM0, kJoin, kSplit, kUpper, sPut, sPar2, sPar3, eInT, eIxT, itU, stL, av]
  by_cases last : i + 1 < V.length
  · obtain ⟨m, em, m3⟩ : ∃ m : Nat, 1 + (x + (i : Int) * y) % 3 = ((m + 1 : Nat) : Int) ∧ m < 3 := ⟨((x + (i : Int) * y) % 3).toNat, by omega, by omega⟩
    have p2 := plus_str (m := false) (x := t ++ V[i]) (y := repS " " (m + 1)) (s := stL scr N V q3 q4 (some (.str (t ++ V[i]))) (some (.int i)) η) (by rw [app_len, rep_len]; omega)
    refine ⟨t ++ V[i] ++ repS " " (m + 1), ⟨fun c hc => ?_, by rw [app_len, app_len, rep_len]; omega, fun _ u => ?_, fun z => by omega⟩, ?_⟩
    · rw [tl_append] at hc
      exact (List.mem_append.mp hc).elim (ch1 c) (rep_ch _ c)
    · rw [tl_append, tl_append, tl_rep, List.append_assoc, List.append_assoc, T.pre hi, List.replicate_succ, List.cons_append, wordsOf_word h32 ov.ne, wordsOf_blanks, htk, List.map_append, List.append_assoc]
      rfl
    · refine seq_to step1 (if_yes (s1 := stL scr N V q3 q4 (some (.str (t ++ V[i]))) (some (.int i)) η) ?_ (set_to (s1 := stL scr N V q3 q4 (some (.str (t ++ V[i]))) (some (.int i)) η) (e2_to (s1 := stL scr N V q3 q4 (some (.str (t ++ V[i]))) (some (.int i)) η) (s2 := stL scr N V q3 q4 (some (.str (t ++ V[i]))) (some (.int i)) η) (a := .str (t ++ V[i])) (b := .str (repS " " (m + 1))) rfl ?_ p2)))
      · have : (i : Int) + 1 < V.length := by omega
        simp [runP, runS, sSeq, sExpr, sRet, sRetN, sSet, sIf, sNil, sRaise, sBrk, sCnt, sFor, sAsg, sAug, eVar, eC, e2, e1, eChain, bOf, tAnd', tOr', tNot', eAnd, eOr, eNot, eIf, callP, callS, aCons, aNil, eTup, eLst, newL, eCall, tTru, truD, kInt, kIntC, S.put, gNm, gTup', gCons', gNil', itS, itL, itT, itR1, itR2, kIx, kSl, eSl, oNone, oSome, kLen, kAbs, kMax2, kMin2, kIntOf, kSorted, kAll, kAny, kTupOf, kLstOf, kIsi, eApp, kApp, eFrz, look, tYes', kNeg, kIs, kIsNot, wipeD, Res.bind, Res.bindS, pf_non, pf_bl, pf_int, pf_str, pf_tup, pf_lst, pf_scr, pfs_nil, pfs_cons, pfF, eqI, neI, eqS, neS, decide_eq_true_eq, eM1, eM0, kJoin, kSplit, kUpper, sPut, sPar2, sPar3, eInT, eIxT, itU, stL, plus_int, this]
      · have c1 : CMul (i : Int) y := cmulL _ _ (by omega)
        have ts := fun s => times_sp (m := false) (k := ((m + 1 : Nat) : Int)) (s := s) (by omega)
        rw [show (((m + 1 : Nat) : Int)).toNat = m + 1 from rfl] at ts
        refine e2_to (s1 := stL scr N V q3 q4 (some (.str (t ++ V[i]))) (some (.int i)) η) (s2 := stL scr N V q3 q4 (some (.str (t ++ V[i]))) (some (.int i)) η) (a := .str " ") (b := .int ((m + 1 : Nat) : Int)) rfl ?_ (ts _)
        rw [← em]
        simp [runP, runS, sSeq, sExpr, sRet, sRetN, sSet, sIf, sNil, sRaise, sBrk, sCnt, sFor, sAsg, sAug, eVar, eC, e2, e1, eChain, bOf, tAnd', tOr', tNot', eAnd, eOr, eNot, eIf, callP, callS, aCons, aNil, eTup, eLst, newL, eCall, tTru, truD, kInt, kIntC, S.put, gNm, gTup', gCons', gNil', itS, itL, itT, itR1, itR2, kIx, kSl, eSl, oNone, oSome, kLen, kAbs, kMax2, kMin2, kIntOf, kSorted, kAll, kAny, kTupOf, kLstOf, kIsi, eApp, kApp, eFrz, look, tYes', kNeg, kIs, kIsNot, wipeD, Res.bind, Res.bindS, pf_non, pf_bl, pf_int, pf_str, pf_tup, pf_lst, pf_scr, pfs_nil, pfs_cons, pfF, eqI, neI, eqS, neS, decide_eq_true_eq, eM1, eM0, kJoin, kSplit, kUpper, sPut, sPar2, sPar3, eInT, eIxT, itU, stL, plus_int, times_int c1, hx, hy]
  · have e1 : i + 1 = V.length := by omega
    refine ⟨t ++ V[i], ⟨ch1, by rw [app_len]; omega, fun z => absurd z last, fun _ j => ?_⟩, ?_⟩
    · rw [tl_append, List.append_assoc, T.pre hi, wordsOf_end h32 ov.ne]
      have : V.map tl = (V.take (i + 1)).map tl := by rw [e1, List.take_length]
      rw [this, htk, List.map_append]
      rfl
    · refine seq_to step1 (if_no (s1 := stL scr N V q3 q4 (some (.str (t ++ V[i]))) (some (.int i)) η) ?_ rfl)
      have : ¬ ((i : Int) + 1 < V.length) := by omega
      simp [runP, runS, sSeq, sExpr, sRet, sRetN, sSet, sIf, sNil, sRaise, sBrk, sCnt, sFor, sAsg, sAug, eVar, eC, e2, e1, eChain, bOf, tAnd', tOr', tNot', eAnd, eOr, eNot, eIf, callP, callS, aCons, aNil, eTup, eLst, newL, eCall, tTru, truD, kInt, kIntC, S.put, gNm, gTup', gCons', gNil', itS, itL, itT, itR1, itR2, kIx, kSl, eSl, oNone, oSome, kLen, kAbs, kMax2, kMin2, kIntOf, kSorted, kAll, kAny, kTupOf, kLstOf, kIsi, eApp, kApp, eFrz, look, tYes', kNeg, kIs, kIsNot, wipeD, Res.bind, Res.bindS, pf_non, pf_bl, pf_int, pf_str, pf_tup, pf_lst, pf_scr, pfs_nil, pfs_cons, pfF, eqI, neI, eqS, neS, decide_eq_true_eq, eM1, eM0, kJoin, kSplit, kUpper, sPut, sPar2, sPar3, eInT, eIxT, itU, stL, plus_int, this]
theorem text_loop {l : List Int} (hl : l.length = 60) (hn : Nums l) (scr : D) {V : List Str} (hV : ∀ w ∈ V, Ok w) (h12 : V.length ≤ 12) (hne : V ≠ []) (q3 q4 : Option D) (η : List Cell) {t : Str} (T : TxI V 0 t) :
    ∃ t' q6, TxI V V.length t' ∧ sFor (gNm 6) (itR1 (aCons (eCall kLen (aCons (eVar 2) aNil)) aNil)) textB (stL scr (l.map D.int) V q3 q4 (some (.str t)) none η) = .nx (stL scr (l.map D.int) V q3 q4 (some (.str t')) q6 η) := by
  obtain ⟨s', e, t', q6, es, T'⟩ := loopF_inv (g := gNm 6) (body := textB) (fun i s => ∃ t q6, s = stL scr (l.map D.int) V q3 q4 (some (.str t)) q6 η ∧ TxI V i t) (rgD 0 V.length) 0 _ ⟨t, none, rfl, T⟩ fun j d s hd ⟨t, q6, es, T⟩ => by
    obtain ⟨hj, rfl⟩ := rgD_get hd
    subst es
    rw [Int.zero_add]
    rw [Nat.zero_add] at T ⊢
    obtain ⟨t', T', et⟩ := text_turn hl hn scr hV h12 q3 q4 η hj T
    exact ⟨stL scr (l.map D.int) V q3 q4 (some (.str t)) (some (.int (j : Nat))) η, _, rfl, .inl et, t', some (.int (j : Nat)), rfl, T'⟩
  rw [rgD_len, Nat.zero_add] at T'
  subst es
  refine ⟨t', q6, T', for_to (r1_to V.length (i := (V.length : Int)) ?_ rfl (by omega)) e⟩
  simp [runP, runS, sSeq, sExpr, sRet, sRetN, sSet, sIf, sNil, sRaise, sBrk, sCnt, sFor, sAsg, sAug, eVar, eC, e2, e1, eChain, bOf, tAnd', tOr', tNot', eAnd, eOr, eNot, eIf, callP, callS, aCons, aNil, eTup, eLst, newL, eCall, tTru, truD, kInt, kIntC, S.put, gNm, gTup', gCons', gNil', itS, itL, itT, itR1, itR2, kIx, kSl, eSl, oNone, oSome, kLen, kAbs, kMax2, kMin2, kIntOf, kSorted, kAll, kAny, kTupOf, kLstOf, kIsi, eApp, kApp, eFrz, look, tYes', kNeg, kIs, kIsNot, wipeD, Res.bind, Res.bindS, pf_non, pf_bl, pf_int, pf_str, pf_tup, pf_lst, pf_scr, pfs_nil, pfs_cons, pfF, eqI, neI, eqS, neS, decide_eq_true_eq, eM1, eM0, kJoin, kSplit, kUpper, sPut, sPar2, sPar3, eInT, eIxT, itU, stL]
end
end K57

set_option Elab.async false
set_option linter.all false
set_option maxRecDepth 100000
namespace K57
open PySem PyProof.Rows PySem.Spec L2 VL TL
noncomputable section
theorem words_pl {V : List Str} (hV : ∀ w ∈ V, Ok w) : plD 64 (.lst (V.map D.str)) = true := by
  rw [plD, List.all_eq_true]
  intro d hd
  obtain ⟨w, hw, rfl⟩ := List.mem_map.mp hd
  exact (hV w hw).ok
theorem txt0 {V : List Str} (hne : V ≠ []) {n : Nat} (hn : n < 3) : TxI V 0 (repS " " n) := by
  have hp : 0 < V.length := List.length_pos_iff.mpr hne
  refine ⟨rep_ch n, by rw [rep_len]; omega, fun _ u => ?_, fun z => by omega⟩
  rw [tl_rep, wordsOf_blanks, List.take_zero]
  rfl
theorem F_law_ok (ns : List Int) (h63 : ns.length ≤ 63) : F_law [scrD ns] = .ok (.bl true) := by
  obtain ⟨l, hl, hn, e⟩ := lawNumbers_ok ns 60 (by decide) h63
  have e : F__law_numbers [scrD ns, .int 60] = .ok (.lst (l.map D.int)) := e
  have hnp : (D.lst (l.map D.int)).pf = true := by rw [pf_lst]; exact pfs_ints _
  have hsp : (scrD ns).pf = true := by rw [scrD, pf_scr]; exact pfs_ints _
  unfold F_law
  suffices hs : ∃ s', b_law ⟨[scrD ns].map some ++ List.replicate (10 - [scrD ns].length) none, []⟩ = .rt (.bl true) s' by
    obtain ⟨s', hs⟩ := hs
    exact runP_rt hs rfl
  obtain ⟨W, oW, neW, lW, eW⟩ := words_ok hl hn (scrD ns)
  obtain ⟨x41, h41, b41, _⟩ := num_at hl hn 41 (by decide)
  obtain ⟨x46, h46, b46, _⟩ := num_at hl hn 46 (by decide)
  obtain ⟨x49, h49, b49, _⟩ := num_at hl hn 49 (by decide)
  obtain ⟨x50, h50, b50, _⟩ := num_at hl hn 50 (by decide)
  have h41 : atI (l.map D.int) 41 = some (.int x41) := h41
  have h46 : atI (l.map D.int) 46 = some (.int x46) := h46
  have h49 : atI (l.map D.int) 49 = some (.int x49) := h49
  have h50 : atI (l.map D.int) 50 = some (.int x50) := h50
  -- the words that are put together
  obtain ⟨V, q3, q4, η, oV, neV, lV, eV⟩ : ∃ (V : List Str) (q3 q4 : Option D) (η : List Cell), (∀ w ∈ V, Ok w) ∧ V ≠ [] ∧ V.length ≤ 12 ∧
      sIf (bOf (e2 kGt (e2 kMod (eCall kIntOf (aCons (e2 kIx (eVar 1) (eC (D.int 41))) aNil)) (eC (D.int 3))) (eC (D.int 0)))) lineB sNil ⟨[some (scrD ns), some (.lst (l.map D.int)), some (.lst (W.map D.str)), none, none, none, none, none, none, none], []⟩ = .nx (stL (scrD ns) (l.map D.int) V q3 q4 none none η) := by
    by_cases c : 0 < x41 % 3
    · obtain ⟨V, q3, q4, η, v1, v2, v3, v4⟩ := line_ok hl hn (scrD ns) oW neW lW
      refine ⟨V, q3, q4, η, v1, v2, v3, if_yes ?_ v4⟩
      simp [runP, runS, sSeq, sExpr, sRet, sRetN, sSet, sIf, sNil, sRaise, sBrk, sCnt, sFor, sAsg, sAug, eVar, eC, e2, e1, eChain, bOf, tAnd', tOr', tNot', eAnd, eOr, eNot, eIf, callP, callS, aCons, aNil, eTup, eLst, newL, eCall, tTru, truD, kInt, kIntC, S.put, gNm, gTup', gCons', gNil', itS, itL, itT, itR1, itR2, kIx, kSl, eSl, oNone, oSome, kLen, kAbs, kMax2, kMin2, kIntOf, kSorted, kAll, kAny, kTupOf, kLstOf, kIsi, eApp, kApp, eFrz, look, tYes', kNeg, kIs, kIsNot, wipeD, Res.bind, Res.bindS, pf_non, pf_bl, pf_int, pf_str, pf_tup, pf_lst, pf_scr, pfs_nil, pfs_cons, pfF, eqI, neI, eqS, neS, decide_eq_true_eq, eM1, eM0, kJoin, kSplit, kUpper, sPut, sPar2, sPar3, eInT, eIxT, itU, h41, c]
    · refine ⟨W, none, none, [], oW, neW, by omega, if_no (s1 := ⟨[some (scrD ns), some (.lst (l.map D.int)), some (.lst (W.map D.str)), none, none, none, none, none, none, none], []⟩) ?_ rfl⟩
      simp [runP, runS, sSeq, sExpr, sRet, sRetN, sSet, sIf, sNil, sRaise, sBrk, sCnt, sFor, sAsg, sAug, eVar, eC, e2, e1, eChain, bOf, tAnd', tOr', tNot', eAnd, eOr, eNot, eIf, callP, callS, aCons, aNil, eTup, eLst, newL, eCall, tTru, truD, kInt, kIntC, S.put, gNm, gTup', gCons', gNil', itS, itL, itT, itR1, itR2, kIx, kSl, eSl, oNone, oSome, kLen, kAbs, kMax2, kMin2, kIntOf, kSorted, kAll, kAny, kTupOf, kLstOf, kIsi, eApp, kApp, eFrz, look, tYes', kNeg, kIs, kIsNot, wipeD, Res.bind, Res.bindS, pf_non, pf_bl, pf_int, pf_str, pf_tup, pf_lst, pf_scr, pfs_nil, pfs_cons, pfF, eqI, neI, eqS, neS, decide_eq_true_eq, eM1, eM0, kJoin, kSplit, kUpper, sPut, sPar2, sPar3, eInT, eIxT, itU, h41, c]
  obtain ⟨a, ea, a3⟩ : ∃ a : Nat, x46 % 3 = a ∧ a < 3 := ⟨(x46 % 3).toNat, by omega, by omega⟩
  obtain ⟨b, eb, b3⟩ : ∃ b : Nat, x49 % 3 = b ∧ b < 3 := ⟨(x49 % 3).toNat, by omega, by omega⟩
  obtain ⟨c, ec, c4⟩ : ∃ c : Nat, x50 % 4 = c ∧ c < 4 := ⟨(x50 % 4).toNat, by omega, by omega⟩
  obtain ⟨t, q6, T, et⟩ := text_loop hl hn (scrD ns) oV lV neV q3 q4 η (txt0 neV a3)
  have rp : ∀ (k : Nat), k ≤ 10 → ∀ s, kTimes false (.str " ") (.int (k : Int)) s = .ok (.str (repS " " k)) s := fun k hk s => by
    rw [times_sp (by omega)]
    rfl
  -- the pieces
  have tlen : (t ++ repS " " b).length ≤ 100000 := by have := T.le; rw [app_len, rep_len]; omega
  have tch : ∀ c ∈ tl (t ++ repS " " b), c < 128 := fun c hc => by
    rw [tl_append] at hc
    exact (List.mem_append.mp hc).elim (T.ch c) (rep_ch _ c)
  have sp1 : F_split_words [.str (t ++ repS " " b)] = .ok (.lst (V.map D.str)) := split_ok tch tlen (by rw [tl_append, tl_rep]; exact (T.fin rfl b).symm)
  have sp2 : F_split_words [.str (repS " " c)] = .ok (.lst []) := split_ok (ws := []) (rep_ch c) (by rw [rep_len]; omega) (by
    have := wordsOf_blanks c []
    rw [List.append_nil] at this
    rw [tl_rep, this]
    rfl)
  have sp3 : F_split_words [.str "a\tb \t"] = .ok (.lst [.str "a\tb", .str "\t"]) := split_ok (ws := ["a\tb", "\t"]) (by decide +kernel) (by decide +kernel) (by decide +kernel)
  obtain ⟨f, r, efr⟩ : ∃ f r, V = f :: r := by
    cases V with
    | nil => exact absurd rfl neV
    | cons f r => exact ⟨f, r, rfl⟩
  obtain ⟨z, z1, z2⟩ : ∃ z, F_is_command [.lst (V.map D.str)] = .ok (.bl z) ∧ F__law_command [.lst (V.map D.str)] = .ok (.bl z) := by
    rw [efr]
    exact command_same (oV f (by rw [efr]; exact List.mem_cons_self)) ⟨fun w hw => oV w (by rw [efr]; exact List.mem_cons_of_mem _ hw), by rw [efr] at lV; simp at lV; omega⟩
  have V64 := words_pl oV
  have Vp : (D.lst (V.map D.str)).pf = true := by rw [pf_lst]; exact Oks.pf
  generalize l.map D.int = N at e hnp h41 h46 h49 h50 eW eV et
  refine ⟨⟨[some (scrD ns), some (.lst N), some (.lst (V.map D.str)), q3, q4, some (.str (t ++ repS " " b)), q6, some (.lst (V.map D.str)), some (.lst (V.map D.str)), some (.bl z)], η⟩,
    seq_to (s' := ⟨[some (scrD ns), some (.lst N), none, none, none, none, none, none, none, none], []⟩) ?_ <| seq_to (s' := ⟨[some (scrD ns), some (.lst N), some (.lst (W.map D.str)), none, none, none, none, none, none, none], []⟩) (set_to eW) <| seq_to eV <|
    seq_to (s' := stL (scrD ns) N V q3 q4 (some (.str (repS " " a))) none η) ?_ <| seq_to et <| seq_to (s' := stL (scrD ns) N V q3 q4 (some (.str (t ++ repS " " b))) q6 η) ?_ <|
    seq_to (s' := ⟨[some (scrD ns), some (.lst N), some (.lst (V.map D.str)), q3, q4, some (.str (t ++ repS " " b)), q6, some (.lst (V.map D.str)), none, none], η⟩) ?_ <| no_seq ?_ <| no_seq ?_ <|
    seq_to (s' := ⟨[some (scrD ns), some (.lst N), some (.lst (V.map D.str)), q3, q4, some (.str (t ++ repS " " b)), q6, some (.lst (V.map D.str)), some (.lst (V.map D.str)), none], η⟩) ?_ <|
    seq_to (s' := ⟨[some (scrD ns), some (.lst N), some (.lst (V.map D.str)), q3, q4, some (.str (t ++ repS " " b)), q6, some (.lst (V.map D.str)), some (.lst (V.map D.str)), some (.bl z)], η⟩) ?_ <| ret_to ?_⟩
  · simp [runP, runS, sSeq, sExpr, sRet, sRetN, sSet, sIf, sNil, sRaise, sBrk, sCnt, sFor, sAsg, sAug, eVar, eC, e2, e1, eChain, bOf, tAnd', tOr', tNot', eAnd, eOr, eNot, eIf, callP, callS, aCons, aNil, eTup, eLst, newL, eCall, tTru, truD, kInt, kIntC, S.put, gNm, gTup', gCons', gNil', itS, itL, itT, itR1, itR2, kIx, kSl, eSl, oNone, oSome, kLen, kAbs, kMax2, kMin2, kIntOf, kSorted, kAll, kAny, kTupOf, kLstOf, kIsi, eApp, kApp, eFrz, look, tYes', kNeg, kIs, kIsNot, wipeD, Res.bind, Res.bindS, pf_non, pf_bl, pf_int, pf_str, pf_tup, pf_lst, pf_scr, pfs_nil, pfs_cons, pfF, eqI, neI, eqS, neS, decide_eq_true_eq, eM1, eM0, kJoin, kSplit, kUpper, sPut, sPar2, sPar3, eInT, eIxT, itU, e, hsp]
  · simp [runP, runS, sSeq, sExpr, sRet, sRetN, sSet, sIf, sNil, sRaise, sBrk, sCnt, sFor, sAsg, sAug, eVar, eC, e2, e1, eChain, bOf, tAnd', tOr', tNot', eAnd, eOr, eNot, eIf, callP, callS, aCons, aNil, eTup, eLst, newL, eCall, tTru, truD, kInt, kIntC, S.put, gNm, gTup', gCons', gNil', itS, itL, itT, itR1, itR2, kIx, kSl, eSl, oNone, oSome, kLen, kAbs, kMax2, kMin2, kIntOf, kSorted, kAll, kAny, kTupOf, kLstOf, kIsi, eApp, kApp, eFrz, look, tYes', kNeg, kIs, kIsNot, wipeD, Res.bind, Res.bindS, pf_non, pf_bl, pf_int, pf_str, pf_tup, pf_lst, pf_scr, pfs_nil, pfs_cons, pfF, eqI, neI, eqS, neS, decide_eq_true_eq, eM1, eM0, kJoin, kSplit, kUpper, sPut, sPar2, sPar3, eInT, eIxT, itU, stL, h46, ea, rp a (by omega)]
  · have p := plus_str (m := false) (x := t) (y := repS " " b) (s := stL (scrD ns) N V q3 q4 (some (.str t)) q6 η) (by have := T.le; rw [rep_len]; omega)
    simp [runP, runS, sSeq, sExpr, sRet, sRetN, sSet, sIf, sNil, sRaise, sBrk, sCnt, sFor, sAsg, sAug, eVar, eC, e2, e1, eChain, bOf, tAnd', tOr', tNot', eAnd, eOr, eNot, eIf, callP, callS, aCons, aNil, eTup, eLst, newL, eCall, tTru, truD, kInt, kIntC, S.put, gNm, gTup', gCons', gNil', itS, itL, itT, itR1, itR2, kIx, kSl, eSl, oNone, oSome, kLen, kAbs, kMax2, kMin2, kIntOf, kSorted, kAll, kAny, kTupOf, kLstOf, kIsi, eApp, kApp, eFrz, look, tYes', kNeg, kIs, kIsNot, wipeD, Res.bind, Res.bindS, pf_non, pf_bl, pf_int, pf_str, pf_tup, pf_lst, pf_scr, pfs_nil, pfs_cons, pfF, eqI, neI, eqS, neS, decide_eq_true_eq, eM1, eM0, kJoin, kSplit, kUpper, sPut, sPar2, sPar3, eInT, eIxT, itU, stL, h49, eb, rp b (by omega)] at p ⊢
    simp [p]
  · simp [runP, runS, sSeq, sExpr, sRet, sRetN, sSet, sIf, sNil, sRaise, sBrk, sCnt, sFor, sAsg, sAug, eVar, eC, e2, e1, eChain, bOf, tAnd', tOr', tNot', eAnd, eOr, eNot, eIf, callP, callS, aCons, aNil, eTup, eLst, newL, eCall, tTru, truD, kInt, kIntC, S.put, gNm, gTup', gCons', gNil', itS, itL, itT, itR1, itR2, kIx, kSl, eSl, oNone, oSome, kLen, kAbs, kMax2, kMin2, kIntOf, kSorted, kAll, kAny, kTupOf, kLstOf, kIsi, eApp, kApp, eFrz, look, tYes', kNeg, kIs, kIsNot, wipeD, Res.bind, Res.bindS, pf_non, pf_bl, pf_int, pf_str, pf_tup, pf_lst, pf_scr, pfs_nil, pfs_cons, pfF, eqI, neI, eqS, neS, decide_eq_true_eq, eM1, eM0, kJoin, kSplit, kUpper, sPut, sPar2, sPar3, eInT, eIxT, itU, stL, sp1]
  · have k1 := fun s => kNe_no (a := .lst (V.map D.str)) (b := .lst (V.map D.str)) (s := s) (.lst (V.map D.str)) rfl rfl V64
    have k2 := fun s => kNe_no (a := .lst []) (b := .lst []) (s := s) (.lst []) rfl rfl rfl
    have kl : ∀ xs, tyD (.lst xs) = some "list" := fun _ => rfl
    have kk : kitB "list" "list" = some true := by decide +kernel
    generalize V.map D.str = VD at k1 ⊢
    simp [runP, runS, sSeq, sExpr, sRet, sRetN, sSet, sIf, sNil, sRaise, sBrk, sCnt, sFor, sAsg, sAug, eVar, eC, e2, e1, eChain, bOf, tAnd', tOr', tNot', eAnd, eOr, eNot, eIf, callP, callS, aCons, aNil, eTup, eLst, newL, eCall, tTru, truD, kInt, kIntC, S.put, gNm, gTup', gCons', gNil', itS, itL, itT, itR1, itR2, kIx, kSl, eSl, oNone, oSome, kLen, kAbs, kMax2, kMin2, kIntOf, kSorted, kAll, kAny, kTupOf, kLstOf, kIsi, eApp, kApp, eFrz, look, tYes', kNeg, kIs, kIsNot, wipeD, Res.bind, Res.bindS, pf_non, pf_bl, pf_int, pf_str, pf_tup, pf_lst, pf_scr, pfs_nil, pfs_cons, pfF, eqI, neI, eqS, neS, decide_eq_true_eq, eM1, eM0, kJoin, kSplit, kUpper, sPut, sPar2, sPar3, eInT, eIxT, itU, kl, kk, k1, h50, ec, rp c (by omega), sp2, k2, sizeLine_eq, newL]
  · have k3 := fun s => kNe_no (a := .lst [.str "a\tb", .str "\t"]) (b := .lst [.str "a\tb", .str "\t"]) (s := s) (.lst [.str "a\tb", .str "\t"]) rfl rfl (by decide +kernel)
    simp [runP, runS, sSeq, sExpr, sRet, sRetN, sSet, sIf, sNil, sRaise, sBrk, sCnt, sFor, sAsg, sAug, eVar, eC, e2, e1, eChain, bOf, tAnd', tOr', tNot', eAnd, eOr, eNot, eIf, callP, callS, aCons, aNil, eTup, eLst, newL, eCall, tTru, truD, kInt, kIntC, S.put, gNm, gTup', gCons', gNil', itS, itL, itT, itR1, itR2, kIx, kSl, eSl, oNone, oSome, kLen, kAbs, kMax2, kMin2, kIntOf, kSorted, kAll, kAny, kTupOf, kLstOf, kIsi, eApp, kApp, eFrz, look, tYes', kNeg, kIs, kIsNot, wipeD, Res.bind, Res.bindS, pf_non, pf_bl, pf_int, pf_str, pf_tup, pf_lst, pf_scr, pfs_nil, pfs_cons, pfF, eqI, neI, eqS, neS, decide_eq_true_eq, eM1, eM0, kJoin, kSplit, kUpper, sPut, sPar2, sPar3, eInT, eIxT, itU, sp3, k3, sizeLine_eq, newL]
  · simp [runP, runS, sSeq, sExpr, sRet, sRetN, sSet, sIf, sNil, sRaise, sBrk, sCnt, sFor, sAsg, sAug, eVar, eC, e2, e1, eChain, bOf, tAnd', tOr', tNot', eAnd, eOr, eNot, eIf, callP, callS, aCons, aNil, eTup, eLst, newL, eCall, tTru, truD, kInt, kIntC, S.put, gNm, gTup', gCons', gNil', itS, itL, itT, itR1, itR2, kIx, kSl, eSl, oNone, oSome, kLen, kAbs, kMax2, kMin2, kIntOf, kSorted, kAll, kAny, kTupOf, kLstOf, kIsi, eApp, kApp, eFrz, look, tYes', kNeg, kIs, kIsNot, wipeD, Res.bind, Res.bindS, pf_non, pf_bl, pf_int, pf_str, pf_tup, pf_lst, pf_scr, pfs_nil, pfs_cons, pfF, eqI, neI, eqS, neS, decide_eq_true_eq, eM1, eM0, kJoin, kSplit, kUpper, sPut, sPar2, sPar3, eInT, eIxT, itU, newL]
  · rw [pf_lst] at Vp
    generalize V.map D.str = VD at z1 Vp ⊢
    simp [runP, runS, sSeq, sExpr, sRet, sRetN, sSet, sIf, sNil, sRaise, sBrk, sCnt, sFor, sAsg, sAug, eVar, eC, e2, e1, eChain, bOf, tAnd', tOr', tNot', eAnd, eOr, eNot, eIf, callP, callS, aCons, aNil, eTup, eLst, newL, eCall, tTru, truD, kInt, kIntC, S.put, gNm, gTup', gCons', gNil', itS, itL, itT, itR1, itR2, kIx, kSl, eSl, oNone, oSome, kLen, kAbs, kMax2, kMin2, kIntOf, kSorted, kAll, kAny, kTupOf, kLstOf, kIsi, eApp, kApp, eFrz, look, tYes', kNeg, kIs, kIsNot, wipeD, Res.bind, Res.bindS, pf_non, pf_bl, pf_int, pf_str, pf_tup, pf_lst, pf_scr, pfs_nil, pfs_cons, pfF, eqI, neI, eqS, neS, decide_eq_true_eq, eM1, eM0, kJoin, kSplit, kUpper, sPut, sPar2, sPar3, eInT, eIxT, itU, z1, Vp]
  · have k4 := fun s => kEq_yes (a := .lst (V.map D.str)) (b := .lst (V.map D.str)) (s := s) (.lst (V.map D.str)) rfl rfl V64
    have k5 : ∀ s, kEq (.bl z) (.bl z) s = .ok (.bl true) s := fun s => by cases z <;> rfl
    have kl : ∀ b, tyD (.bl b) = some "bool" := fun _ => rfl
    have kk : kitB "bool" "bool" = some true := by decide +kernel
    rw [pf_lst] at Vp
    generalize V.map D.str = VD at z2 k4 Vp ⊢
    simp [runP, runS, sSeq, sExpr, sRet, sRetN, sSet, sIf, sNil, sRaise, sBrk, sCnt, sFor, sAsg, sAug, eVar, eC, e2, e1, eChain, bOf, tAnd', tOr', tNot', eAnd, eOr, eNot, eIf, callP, callS, aCons, aNil, eTup, eLst, newL, eCall, tTru, truD, kInt, kIntC, S.put, gNm, gTup', gCons', gNil', itS, itL, itT, itR1, itR2, kIx, kSl, eSl, oNone, oSome, kLen, kAbs, kMax2, kMin2, kIntOf, kSorted, kAll, kAny, kTupOf, kLstOf, kIsi, eApp, kApp, eFrz, look, tYes', kNeg, kIs, kIsNot, wipeD, Res.bind, Res.bindS, pf_non, pf_bl, pf_int, pf_str, pf_tup, pf_lst, pf_scr, pfs_nil, pfs_cons, pfF, eqI, neI, eqS, neS, decide_eq_true_eq, eM1, eM0, kJoin, kSplit, kUpper, sPut, sPar2, sPar3, eInT, eIxT, itU, kl, kk, z2, k4, k5, Vp]
end
end K57

set_option Elab.async false
set_option linter.all false
set_option maxRecDepth 100000
set_option maxHeartbeats 4000000
namespace K57
open PySem PyProof.Rows PySem.Spec L2 VL
noncomputable section
abbrev Rw : PySem.W.OpenRow := PySem.W.OpenLaw.row PySem.Challenge.rw_paironce_k57_words_of_a_session
abbrev hk : PySem.W.Hook := hookE 4 fa fn tbK tbX
def loose : List PySem.Str := (["NAME_CHARS", "MOST_NAME_CHARS", "is_name", "DIGITS", "MOST_DIGITS", "is_number", "FORMS", "ASKED", "MOST_ASKED", "split_words", "are_names", "are_numbers", "is_command", "_law_row", "_law_numbers", "_law_word", "_law_is_name", "_law_all_names", "_law_is_number", "_law_all_numbers", "_law_command", "_law_formed"] : List PySem.Str)
def ob (s : PySem.W.SharedT) : AlE := obsEG 4 fa fn tbK tbX (HandSHeadRun.getT s)
theorem ob_eq (s : PySem.W.SharedT) : ob s = hk.obs s.abs := obsEG_eq (HandSHeadRun.getT_eq s)
theorem run (w : World) : HandSHeadRun.RunEq Rw (PySem.W.view Rw.prog [26]) hk ob 4000 loose w :=
  PySem.W.byRow2 "special-get-raises" (P := fun w => HandSHeadRun.RunEq Rw (PySem.W.view Rw.prog [26]) hk ob 4000 loose w) (fun w os => by kernel_rfl) (fun w os => by kernel_rfl) w
theorem facts {P : Program} {w : World} {K : PySem.W.Frag} {h : Heap} {mg : Str → Option Value} {f : Addr} (X : K.In h) (G : h.Ns mainGlobals mg) (hfa : mg ("law" : Str) = some (.ref f)) (c : SaysE fa fn tbK tbX w K) :
    ∃ fd : FuncData, (∀ (s : Shared) (v : Value), BindsTo s fd ⟨[v], []⟩ [("_law_script", v)]) ∧ ∀ base : Heap, K.In base → base.Ns mainGlobals mg → FnOk P w K mg base CX0 4 f fd ["_law_script"] (fun vs H Q _ => spP K 1 F_law vs H Q E0) := by
  have T := tx_of X G c
  obtain ⟨fd, D⟩ := T.d_law
  have e := hfa.symm.trans T.g_law
  cases e
  have b := FunD.bindsA (ps := ["_law_script"]) D fun _ _ _ _ _ _ us hl => match us, hl with | [_], _ => rfl
  exact ⟨fd, fun s v => b s [v] rfl, fun base _ _ => fn_calm (ok_law T D)⟩
end
end K57
open PySem PySem.W PySem.Calls PyProof.Rows
theorem K57.holds_of (hG : ∀ ns : List Int, ns.length ≤ 63 → K57.F_law [VL.scrD ns] = .ok (.bl true)) : PySem.Challenge.rw_paironce_k57_words_of_a_session.Holds := by
  w_on; o_law
  refine HandSHeadRun.head_any (r := OpenLaw.row PySem.Challenge.rw_paironce_k57_words_of_a_session) (q := view (OpenLaw.row PySem.Challenge.rw_paironce_k57_words_of_a_session).prog [26]) (H := K57.hk) (ob := K57.ob) (M := 4000) (loose := K57.loose) (d := HandSHeadRun.topDef (OpenLaw.row PySem.Challenge.rw_paironce_k57_words_of_a_session).prog 26) (kwd := []) K57.ob_eq
    (by kernel_rfl) (fun s => by kernel_rfl) K57.run (by kernel_rfl) (by kernel_rfl) (by kernel_rfl) (by rfl) (by first | assumption | decide +kernel) (by decide +kernel) ⟨rfl, rfl, rfl, rfl, rfl, by decide +kernel⟩ ?hw ?hc
  case hw => w_witness2
  case hc =>
    refine L2.walk_ofE (l := PySem.Challenge.rw_paironce_k57_words_of_a_session) (n := 63) (k := 4) (x := "_law_script") (CX := L2.CX0) rfl (by decide) (by kernel_rfl) ⟨rfl, by decide, by decide⟩ ?F (fun _ _ _ _ z => z)
    intro w mg fa h Y G hmg0
    obtain ⟨K, KX, c⟩ := Y
    have hmg : mg ("law" : PySem.Str) = some (.ref fa) := by
      have e : (HandSHeadRun.topDef (OpenLaw.row PySem.Challenge.rw_paironce_k57_words_of_a_session).prog 26).name = ("law" : PySem.Str) := by kernel_rfl
      rw [← e]
      exact hmg0
    obtain ⟨fd, hb, hF⟩ := K57.facts (P := (PySem.Challenge.rw_paironce_k57_words_of_a_session).prog) (w := w) KX G hmg c
    exact ⟨K, fd, (fun vs H Q _ => VL.spP K 1 K57.F_law vs H Q L2.E0), KX, hb, VL.law_end (x := "law") (P := (PySem.Challenge.rw_paironce_k57_words_of_a_session).prog) (w := w) (mg := mg) (base := h) (k := 0) (f := fa) (fd := fd) hG, hF⟩

theorem PySem.Challenge.cw_paironce_k57_words_of_a_session_holds : PySem.Challenge.rw_paironce_k57_words_of_a_session.Holds := by
  exact K57.holds_of K57.F_law_ok
